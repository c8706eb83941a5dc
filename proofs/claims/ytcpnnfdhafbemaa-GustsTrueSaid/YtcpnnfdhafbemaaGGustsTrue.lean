/-
  Printed by a program: functions of the translation as plain functions, and their contracts.
-/
import Derived.Test.YtcpnnfdhafbemaaGenK14
namespace Go.Proofs.Ytcpnnfdhafbemaa
open Go Go.RowKit Go.Dec
set_option linter.unusedVariables false
-- 10 ferrule/ferrulelaw05.GustsTrue
def F_law05_GustsTrue_s1 (n : Nat) (d : Canopy) (x_ : law05_Real) (y15 : Gust) (y37 : Int) (y44 : (List Span) × Int) (y47 : (List Int) × (List Int) × Int) (y51 : Int × (List Int) × Int) (y75 : (List Int)) : Int → Option (Int ⊕ (Bool ⊕ Unit))
  | r_581 => if decide (r_581 < (y75.length : Int)) = true then ((F_ref05_Load n d y15 y37 r_581).bind fun y586 => (geti y44.1 r_581).bind fun y587 => (if decide (y586 < y587.Low) = true then (some true) else ((geti y44.1 r_581).bind fun y600 => some (decide (y600.High < y586))) : Option Bool).bind fun p597 => if p597 = true then (some (Sum.inr (Sum.inl false))) else ((F_law05_in n y47.1 r_581).bind fun y606 => (if y606 = true then ((geti y75 r_581).bind fun y615 => some (y615 == 0)) else (some false) : Option Bool).bind fun p612 => (if p612 = true then (some true) else ((geti y75 r_581).bind fun y633 => (if decide (0 < y633) = true then ((F_law05_in n y47.2.1 r_581).bind fun y642 => some (!y642)) else (some false) : Option Bool).bind fun p639 => some p639) : Option Bool).bind fun p630 => if p630 = true then (some (Sum.inr (Sum.inl false))) else ((geti y75 r_581).bind fun y644 => (if (y644 == 1) = true then ((if ((y51.2.2 != 0) || (decide (x_.Gust < y51.1))) = true then (some true) else ((if (y51.1 == x_.Gust) = true then ((F_law05_in n y51.2.1 r_581).bind fun y681 => some (!y681)) else (some false) : Option Bool).bind fun p678 => some p678) : Option Bool).bind fun p674 => some p674) else (some false) : Option Bool).bind fun p664 => if p664 = true then (some (Sum.inr (Sum.inl false))) else (some (Sum.inl (w64 (r_581 + 1))))))) else (some (Sum.inr (Sum.inr ())))
def F_law05_GustsTrue (n : Nat) (d : Canopy) (class_ : List Gust) (x_ : law05_Real) : Option Bool :=
  (F_law05_ready n d class_).bind fun y3 => (if (!y3) = true then (some true) else ((F_ref05_IsTruth n d x_.Pair x_.Strengths).bind fun y8 => some (!y8)) : Option Bool).bind fun p5 => if ((p5 || (decide (x_.Gust < 0))) || (decide ((class_.length : Int) ≤ x_.Gust))) = true then ((F_law05_works n).bind fun y14 => some y14) else ((geti class_ x_.Gust).bind fun y15 => (F_ref05_LiftOf n d x_.Pair).bind fun y37 => (F_gusts_Lift n d).bind fun y42 => (F_gusts_Loads n d y15).bind fun y44 => (F_gusts_Goes n d y15).bind fun y47 => (F_gusts_Stands n d class_).bind fun y50 => (F_gusts_First n d class_).bind fun y51 => if (((((((((y42.2 != 0) || (y44.2 != 0)) || (y47.2.2 != 0)) || (y50.2 != 0)) || ((y51.2.2 != 0) && (y51.2.2 != 3))) || (decide (y37 < y42.1.Low))) || (decide (y42.1.High < y37))) || ((y44.1.length : Int) != (d.Ribs.length : Int))) || (decide (40 < (w64 ((y47.1.length : Int) + (y47.2.1.length : Int)))))) = true then (some false) else ((F_ref05_Rounds n d y15 (ref05_Truth.mk y37 x_.Strengths)).bind fun y75 => (loopO n (F_law05_GustsTrue_s1 n d x_ y15 y37 y44 y47 y51 y75) 0).bind fun r380 => match r380 with | .inl o => some o | .inr _ => (F_ref05_StandsIn n d class_ (ref05_Truth.mk y37 x_.Strengths)).bind fun y683 => if (y50.1 == 1) = true then ((if y683 = true then ((F_law05_works n).bind fun y689 => some y689) else (some false) : Option Bool).bind fun p686 => some p686) else (if (y50.1 == 2) = true then ((if (!y683) = true then ((F_law05_works n).bind fun y695 => some y695) else (some false) : Option Bool).bind fun p692 => some p692) else ((if (y50.1 == 3) = true then ((F_law05_works n).bind fun y700 => some y700) else (some false) : Option Bool).bind fun p697 => some p697))))
set_option maxRecDepth 100000 in
set_option maxHeartbeats 40000000 in
theorem c_law05_GustsTrue (n : Nat) (H : Hp) (d : Canopy) (d_v0 : Value) (hd_0 : SL H 7 R_Section d_v0 d.Frame.Sections) (d_v7 : Value) (hd_7 : SL H 2 R_Span d_v7 d.Ribs) (d_v8 : Value) (hd_8 : SL H 1 RInt d_v8 d.Shares) (class_ : List Gust) (class__v0 : Value) (hclass__0 : SL H 2 R_Gust class__v0 class_) (x_ : law05_Real) (x__v2 : Value) (hx__2 : SL H 1 RInt x__v2 x_.Strengths) (y : Bool) (hF : F_law05_GustsTrue n d class_ x_ = some y) : SC Try.prog 10 [.agg [d_v0, .int .i64 d.Frame.Low, .int .i64 d.Frame.High, .int .i64 d.Frame.Ease.Num, .int .i64 d.Frame.Ease.Den, .int .i64 d.Frame.Rod, .int .i64 d.Frame.Case, d_v7, d_v8].toArray, class__v0, .agg [.int .i64 x_.Pair.Arm, .int .i64 x_.Pair.Stretch, x__v2, .int .i64 x_.Gust].toArray] (.bool y) H := by
  rw [F_law05_GustsTrue] at hF
  refine SC.of (N := 251) Try.func10 rfl rfl rfl fun w => ?_
  refine JC.seq ?_
  refine JC.region (by rfl) ?_
  intro hQ
  refine JL.box (cs := [d_v0, .int .i64 d.Frame.Low, .int .i64 d.Frame.High, .int .i64 d.Frame.Ease.Num, .int .i64 d.Frame.Ease.Den, .int .i64 d.Frame.Rod, .int .i64 d.Frame.Case, d_v7, d_v8]) rfl .none rfl ?_
  intro b1
  refine JL.box (cs := [.int .i64 x_.Pair.Arm, .int .i64 x_.Pair.Stretch, x__v2, .int .i64 x_.Gust]) rfl .none rfl ?_
  intro b2
  refine JL.assign .none rfl ?_
  refine JL.done hQ ?_
  refine JQ.go ?_
  refine JC.seq ?_
  refine JC.seq ?_
  refine JC.region (by rfl) ?_
  intro hQ
  refine JL.loadOwn 1 az_30 rfl rfl rfl .none rfl ?_
  refine JL.move .none rfl ?_
  obtain ⟨y3, hy3, hF⟩ := bind_some hF
  refine JL.callS (c_law05_ready n H d d_v0 hd_0 d_v7 hd_7 d_v8 hd_8 class_ class__v0 hclass__0 y3 hy3) rfl en_11 .none rfl ?_
  refine JL.not rfl .none rfl ?_
  refine JL.move .none rfl ?_
  obtain ⟨p5, hp5, hF⟩ := bind_some hF
  refine JL.cut 8 (fun f => f 1 = class__v0 ∧ f 3 = .pointer (some ⟨b1, 0, none⟩) ∧ f 5 = .pointer (some ⟨b2, 0, none⟩) ∧ f 37 = .bool p5) ?_ ?_
  · intro hJ6
    rcases ite_some hp5 with ⟨hc7, hF⟩ | ⟨hc7, hF⟩
    · skip
      refine JL.skip (.bool rfl rfl rfl hc7) rfl ?_
      refine JL.skip (.bool rfl rfl rfl hc7) rfl ?_
      refine JL.skip (.bool rfl rfl rfl hc7) rfl ?_
      refine JL.skip (.bool rfl rfl rfl hc7) rfl ?_
      refine JL.skip (.bool rfl rfl rfl hc7) rfl ?_
      refine JL.skip (.bool rfl rfl rfl hc7) rfl ?_
      refine JL.skip (.bool rfl rfl rfl hc7) rfl ?_
      refine JL.pick_t (b := (!y3)) rfl hc7 .none rfl ?_
      obtain rfl := Option.some.inj hF
      exact hJ6 _ ⟨rfl, rfl, rfl, rfl⟩
    · skip
      refine JL.loadOwn 1 az_30 rfl rfl rfl (.some rfl rfl rfl hc7) rfl ?_
      refine JL.fieldAddr fo_74_0 rfl (.some rfl rfl rfl hc7) rfl ?_
      refine JL.loadOwn 0 az_72 rfl rfl rfl (.some rfl rfl rfl hc7) rfl ?_
      refine JL.fieldAddr fo_74_1 rfl (.some rfl rfl rfl hc7) rfl ?_
      refine JL.loadOwn 0 az_28 rfl rfl rfl (.some rfl rfl rfl hc7) rfl ?_
      obtain ⟨y8, hy8, hF⟩ := bind_some hF
      refine JL.callS (c_ref05_IsTruth n H d d_v0 hd_0 d_v7 hd_7 d_v8 hd_8 x_.Pair x_.Strengths x__v2 hx__2 y8 hy8) rfl en_36 (.some rfl rfl rfl hc7) rfl ?_
      refine JL.not rfl (.some rfl rfl rfl hc7) rfl ?_
      refine JL.pick_f (b := (!y3)) rfl hc7 .none rfl ?_
      obtain rfl := Option.some.inj hF
      exact hJ6 _ ⟨rfl, rfl, rfl, rfl⟩
  · rintro f ⟨hf1, hf3, hf5, hf37⟩
    refine (JL.norm (i := 1) hf1 (JL.norm (i := 3) hf3 (JL.norm (i := 5) hf5 (JL.norm (i := 37) hf37 ?_))))
    refine JL.move .none rfl ?_
    refine JL.cut 4 (fun f => f 1 = class__v0 ∧ f 3 = .pointer (some ⟨b1, 0, none⟩) ∧ f 5 = .pointer (some ⟨b2, 0, none⟩) ∧ f 42 = .bool (p5 || (decide (x_.Gust < 0)))) ?_ ?_
    · intro hJ9
      rcases bcases p5 with hc10 | hc10
      · skip
        refine JL.skip (.bool rfl rfl rfl hc10) rfl ?_
        refine JL.skip (.bool rfl rfl rfl hc10) rfl ?_
        refine JL.skip (.bool rfl rfl rfl hc10) rfl ?_
        refine JL.pick_t (b := p5) rfl hc10 .none rfl ?_
        exact hJ9 _ ⟨rfl, rfl, rfl, or_t hc10 rfl⟩
      · skip
        refine JL.fieldAddr fo_74_2 rfl (.some rfl rfl rfl hc10) rfl ?_
        refine JL.loadOwn 0 az_3 rfl rfl rfl (.some rfl rfl rfl hc10) rfl ?_
        refine JL.bin rfl rfl rfl (.some rfl rfl rfl hc10) rfl ?_
        refine JL.pick_f (b := p5) rfl hc10 .none rfl ?_
        exact hJ9 _ ⟨rfl, rfl, rfl, or_f hc10 rfl⟩
    · rintro f ⟨hf1, hf3, hf5, hf42⟩
      refine (JL.norm (i := 1) hf1 (JL.norm (i := 3) hf3 (JL.norm (i := 5) hf5 (JL.norm (i := 42) hf42 ?_))))
      refine JL.move .none rfl ?_
      refine JL.cut 6 (fun f => f 1 = class__v0 ∧ f 3 = .pointer (some ⟨b1, 0, none⟩) ∧ f 5 = .pointer (some ⟨b2, 0, none⟩) ∧ f 49 = .bool ((p5 || (decide (x_.Gust < 0))) || (decide ((class_.length : Int) ≤ x_.Gust)))) ?_ ?_
      · intro hJ11
        rcases bcases (p5 || (decide (x_.Gust < 0))) with hc12 | hc12
        · skip
          refine JL.skip (.bool rfl rfl rfl hc12) rfl ?_
          refine JL.skip (.bool rfl rfl rfl hc12) rfl ?_
          refine JL.skip (.bool rfl rfl rfl hc12) rfl ?_
          refine JL.skip (.bool rfl rfl rfl hc12) rfl ?_
          refine JL.skip (.bool rfl rfl rfl hc12) rfl ?_
          refine JL.pick_t (b := (p5 || (decide (x_.Gust < 0)))) rfl hc12 .none rfl ?_
          exact hJ11 _ ⟨rfl, rfl, rfl, or_t hc12 rfl⟩
        · skip
          refine JL.fieldAddr fo_74_2 rfl (.some rfl rfl rfl hc12) rfl ?_
          refine JL.loadOwn 0 az_3 rfl rfl rfl (.some rfl rfl rfl hc12) rfl ?_
          refine JL.move (.some rfl rfl rfl hc12) rfl ?_
          refine JL.lenSL (R := R_Gust) ul_34 hclass__0 (.some rfl rfl rfl hc12) rfl ?_
          refine JL.bin rfl rfl rfl (.some rfl rfl rfl hc12) rfl ?_
          refine JL.pick_f (b := (p5 || (decide (x_.Gust < 0)))) rfl hc12 .none rfl ?_
          exact hJ11 _ ⟨rfl, rfl, rfl, or_f hc12 rfl⟩
      · rintro f ⟨hf1, hf3, hf5, hf49⟩
        refine (JL.norm (i := 1) hf1 (JL.norm (i := 3) hf3 (JL.norm (i := 5) hf5 (JL.norm (i := 49) hf49 ?_))))
        refine JL.done hQ ?_
        refine JQ.go ?_
        rcases ite_some hF with ⟨hc13, hF⟩ | ⟨hc13, hF⟩
        · refine JC.cond_t (b := ((p5 || (decide (x_.Gust < 0))) || (decide ((class_.length : Int) ≤ x_.Gust)))) rfl hc13 ?_
          refine JC.seq ?_
          refine JC.region (by rfl) ?_
          intro hQ
          obtain ⟨y14, hy14, hF⟩ := bind_some hF
          refine JL.callS (c_law05_works n H y14 hy14) rfl en_12 .none rfl ?_
          refine JL.assign .none rfl ?_
          refine JL.done hQ ?_
          refine JQ.go ?_
          refine JC.ret ?_
          refine JQ.ret_then ?_
          obtain rfl := Option.some.inj hF
          exact JQ.outS rfl (.tmp .nil) rfl
        · refine JC.cond_f (b := ((p5 || (decide (x_.Gust < 0))) || (decide ((class_.length : Int) ≤ x_.Gust)))) rfl hc13 ?_
          refine JC.skip ?_
          refine JQ.go ?_
          refine JC.seq ?_
          refine JC.region (by rfl) ?_
          intro hQ
          refine JL.move .none rfl ?_
          refine JL.fieldAddr fo_74_2 rfl .none rfl ?_
          refine JL.loadOwn 0 az_3 rfl rfl rfl .none rfl ?_
          obtain ⟨y15, hy15, hF⟩ := bind_some hF
          refine JL.indexSL (R := R_Gust) sl_34 hclass__0 rfl hy15 .none rfl ?_
          rintro b16 o17 cs18 hc19 - rfl
          refine JL.loadH 0 az_32 rfl hc19 rfl .none rfl ?_
          refine JL.alloc ze_32 .none rfl ?_
          intro b20
          refine JL.storeOwn 0 (cs := [.int .i64 y15.Force, .int .i64 y15.At]) az_32 rfl rfl rfl (one_cons rfl (one_cons rfl one_nil)) rfl rfl .none ?_
          refine JL.done hQ ?_
          refine JQ.go ?_
          refine JC.seq ?_
          obtain ⟨a25, c26, rfl, hh27⟩ := hx__2
          have hx__2 : SL H 1 RInt (.slice a25 x_.Strengths.length c26) x_.Strengths := ⟨a25, c26, rfl, hh27⟩
          obtain ⟨a28, c29, rfl, hh30⟩ := hd_0
          have hd_0 : SL H 7 R_Section (.slice a28 d.Frame.Sections.length c29) d.Frame.Sections := ⟨a28, c29, rfl, hh30⟩
          obtain ⟨a31, c32, rfl, hh33⟩ := hd_7
          have hd_7 : SL H 2 R_Span (.slice a31 d.Ribs.length c32) d.Ribs := ⟨a31, c32, rfl, hh33⟩
          obtain ⟨a34, c35, rfl, hh36⟩ := hd_8
          have hd_8 : SL H 1 RInt (.slice a34 d.Shares.length c35) d.Shares := ⟨a34, c35, rfl, hh36⟩
          obtain ⟨y37, hy37, hF⟩ := bind_some hF
          refine JC.mixed 9 9 #[false, false, false, false, false, false, false, false, false] [(b20, .cells [.int .i64 y15.Force, .int .i64 y15.At].toArray 32), (b2, .cells [.int .i64 x_.Pair.Arm, .int .i64 x_.Pair.Stretch, (.slice a25 x_.Strengths.length c26), .int .i64 x_.Gust].toArray 74), (b1, .cells [(.slice a28 d.Frame.Sections.length c29), .int .i64 d.Frame.Low, .int .i64 d.Frame.High, .int .i64 d.Frame.Ease.Num, .int .i64 d.Frame.Ease.Den, .int .i64 d.Frame.Rod, .int .i64 d.Frame.Case, (.slice a31 d.Ribs.length c32), (.slice a34 d.Shares.length c35)].toArray 30)] (by rfl) mo_ (by kernel_rfl) (by kernel_rfl) ?_
          intro hQ hE
          refine JA.cut 1 #[true, true, true, true, true, true, true, true, false] (fun H41 f bs gs => ∃ (b40 : Nat), f 1 = class__v0 ∧ f 3 = .pointer (some ⟨b1, 0, none⟩) ∧ f 5 = .pointer (some ⟨b2, 0, none⟩) ∧ f 7 = .pointer (some ⟨b20, 0, none⟩) ∧ f 8 = .pointer (some ⟨b40, 0, none⟩) ∧ f 62 = .agg [.int .i64 y37, (.slice a25 x_.Strengths.length c26)].toArray ∧ bs = [(b40, .cells [.int .i64 0, .slice none 0 0].toArray 78), (b20, .cells [.int .i64 y15.Force, .int .i64 y15.At].toArray 32), (b2, .cells [.int .i64 x_.Pair.Arm, .int .i64 x_.Pair.Stretch, (.slice a25 x_.Strengths.length c26), .int .i64 x_.Gust].toArray 74), (b1, .cells [(.slice a28 d.Frame.Sections.length c29), .int .i64 d.Frame.Low, .int .i64 d.Frame.High, .int .i64 d.Frame.Ease.Num, .int .i64 d.Frame.Ease.Den, .int .i64 d.Frame.Rod, .int .i64 d.Frame.Case, (.slice a31 d.Ribs.length c32), (.slice a34 d.Shares.length c35)].toArray 30)] ∧ gs = [] ∧ HSub H H41) ?_ ?_
          · rintro H41 f bs gs ⟨b40, hf1, hf3, hf5, hf7, hf8, hf62, rfl, rfl, hs41⟩
            refine (JA.norm (i := 1) hf1 (JA.norm (i := 3) hf3 (JA.norm (i := 5) hf5 (JA.norm (i := 7) hf7 (JA.norm (i := 8) hf8 (JA.norm (i := 62) hf62 ?_))))))
            refine JA.many [8] (by kernel_rfl) (by simp) (all_one ⟨_, #[true, true, true, true, true, true, true, true, true], rfl, (by kernel_rfl), ?_⟩)
            refine JL.storeOwn 0 (cs := [.int .i64 y37, (.slice a25 x_.Strengths.length c26)]) az_78 rfl rfl rfl (one_cons rfl (one_cons (SL.one (SL.mono RInt.mono hs41 hx__2)) one_nil)) rfl rfl .none ?_
            refine JA.after hE hs41 (.cons _ (.cons_cons _ (.cons_cons _ (.cons_cons _ (List.nil_sublist _))))) ?_
            refine JA.done hQ (by kernel_rfl) ?_
            refine JQ.go ?_
            refine JC.seq ?_
            refine JC.region (by rfl) ?_
            intro hQ
            refine JL.loadOwn 3 az_30 rfl rfl rfl .none rfl ?_
            obtain ⟨y42, hy42, hF⟩ := bind_some hF
            refine JL.callS (c_gusts_Lift n H41 d (.slice a28 d.Frame.Sections.length c29) (SL.mono R_Section_mono hs41 hd_0) (.slice a31 d.Ribs.length c32) (SL.mono R_Span_mono hs41 hd_7) (.slice a34 d.Shares.length c35) (SL.mono RInt.mono hs41 hd_8) y42 hy42) rfl en_19 .none rfl ?_
            refine JL.move .none rfl ?_
            refine JL.extract rfl rfl .none rfl ?_
            refine JL.extract rfl rfl .none rfl ?_
            refine JL.alloc ze_38 .none rfl ?_
            intro b43
            refine JL.storeOwn 0 (cs := [.int .i64 y42.1.Low, .int .i64 y42.1.High]) az_38 rfl rfl rfl (one_cons rfl (one_cons rfl one_nil)) rfl rfl .none ?_
            refine JL.assign .none rfl ?_
            refine JL.done hQ ?_
            refine JQ.go ?_
            refine JC.seq ?_
            refine JC.region (by rfl) ?_
            intro hQ
            refine JL.loadOwn 4 az_30 rfl rfl rfl .none rfl ?_
            refine JL.loadOwn 2 az_32 rfl rfl rfl .none rfl ?_
            obtain ⟨y44, hy44, hF⟩ := bind_some hF
            refine JL.callH (c_gusts_Loads n H41 d (.slice a28 d.Frame.Sections.length c29) (SL.mono R_Section_mono hs41 hd_0) (.slice a31 d.Ribs.length c32) (SL.mono R_Span_mono hs41 hd_7) (.slice a34 d.Shares.length c35) (SL.mono RInt.mono hs41 hd_8) y15 y44 hy44) rfl en_21 .none rfl ?_
            rintro H45 vv46 hs45 ⟨y44a_v0, rfl, hy44a_0⟩
            refine JL.move .none rfl ?_
            refine JL.extract rfl rfl .none rfl ?_
            refine JL.extract rfl rfl .none rfl ?_
            refine JL.assign .none rfl ?_
            refine JL.assign .none rfl ?_
            refine JL.done hQ ?_
            refine JQ.go ?_
            refine JC.fresh (fun f => f 1 = class__v0 ∧ f 3 = .pointer (some ⟨b1, 0, none⟩) ∧ f 5 = .pointer (some ⟨b2, 0, none⟩) ∧ f 7 = .pointer (some ⟨b20, 0, none⟩) ∧ f 8 = .pointer (some ⟨b40, 0, none⟩) ∧ f 9 = .pointer (some ⟨b43, 0, none⟩) ∧ f 10 = .int .i64 y42.2 ∧ f 11 = y44a_v0 ∧ f 12 = .int .i64 y44.2) ⟨rfl, rfl, rfl, rfl, rfl, rfl, rfl, rfl, rfl⟩ ?_
            rintro f ⟨hf1, hf3, hf5, hf7, hf8, hf9, hf10, hf11, hf12⟩
            refine (JC.norm (i := 1) hf1 (JC.norm (i := 3) hf3 (JC.norm (i := 5) hf5 (JC.norm (i := 7) hf7 (JC.norm (i := 8) hf8 (JC.norm (i := 9) hf9 (JC.norm (i := 10) hf10 (JC.norm (i := 11) hf11 (JC.norm (i := 12) hf12 ?_)))))))))
            refine JC.seq ?_
            refine JC.region (by rfl) ?_
            intro hQ
            refine JL.loadOwn 4 az_30 rfl rfl rfl .none rfl ?_
            refine JL.loadOwn 2 az_32 rfl rfl rfl .none rfl ?_
            obtain ⟨y47, hy47, hF⟩ := bind_some hF
            refine JL.callH (c_gusts_Goes n H45 d (.slice a28 d.Frame.Sections.length c29) (SL.mono R_Section_mono (HSub.trans hs41 hs45) hd_0) (.slice a31 d.Ribs.length c32) (SL.mono R_Span_mono (HSub.trans hs41 hs45) hd_7) (.slice a34 d.Shares.length c35) (SL.mono RInt.mono (HSub.trans hs41 hs45) hd_8) y15 y47 hy47) rfl en_14 .none rfl ?_
            rintro H48 vv49 hs48 ⟨y47a_v0, y47b_v0, rfl, hy47a_0, hy47b_0⟩
            refine JL.move .none rfl ?_
            refine JL.extract rfl rfl .none rfl ?_
            refine JL.extract rfl rfl .none rfl ?_
            refine JL.extract rfl rfl .none rfl ?_
            refine JL.assign .none rfl ?_
            refine JL.assign .none rfl ?_
            refine JL.assign .none rfl ?_
            refine JL.done hQ ?_
            refine JQ.go ?_
            refine JC.seq ?_
            refine JC.region (by rfl) ?_
            intro hQ
            refine JL.loadOwn 4 az_30 rfl rfl rfl .none rfl ?_
            refine JL.move .none rfl ?_
            obtain ⟨y50, hy50, hF⟩ := bind_some hF
            refine JL.callS (c_gusts_Stands n H48 d (.slice a28 d.Frame.Sections.length c29) (SL.mono R_Section_mono (HSub.trans hs41 (HSub.trans hs45 hs48)) hd_0) (.slice a31 d.Ribs.length c32) (SL.mono R_Span_mono (HSub.trans hs41 (HSub.trans hs45 hs48)) hd_7) (.slice a34 d.Shares.length c35) (SL.mono RInt.mono (HSub.trans hs41 (HSub.trans hs45 hs48)) hd_8) class_ class__v0 (SL.mono R_Gust_mono (HSub.trans hs41 (HSub.trans hs45 hs48)) hclass__0) y50 hy50) rfl en_29 .none rfl ?_
            refine JL.move .none rfl ?_
            refine JL.extract rfl rfl .none rfl ?_
            refine JL.extract rfl rfl .none rfl ?_
            refine JL.assign .none rfl ?_
            refine JL.assign .none rfl ?_
            refine JL.done hQ ?_
            refine JQ.go ?_
            refine JC.fresh (fun f => f 1 = class__v0 ∧ f 3 = .pointer (some ⟨b1, 0, none⟩) ∧ f 5 = .pointer (some ⟨b2, 0, none⟩) ∧ f 7 = .pointer (some ⟨b20, 0, none⟩) ∧ f 8 = .pointer (some ⟨b40, 0, none⟩) ∧ f 9 = .pointer (some ⟨b43, 0, none⟩) ∧ f 10 = .int .i64 y42.2 ∧ f 11 = y44a_v0 ∧ f 12 = .int .i64 y44.2 ∧ f 13 = y47a_v0 ∧ f 14 = y47b_v0 ∧ f 15 = .int .i64 y47.2.2 ∧ f 16 = .int .i64 y50.1 ∧ f 17 = .int .i64 y50.2) ⟨rfl, rfl, rfl, rfl, rfl, rfl, rfl, rfl, rfl, rfl, rfl, rfl, rfl, rfl⟩ ?_
            rintro f ⟨hf1, hf3, hf5, hf7, hf8, hf9, hf10, hf11, hf12, hf13, hf14, hf15, hf16, hf17⟩
            refine (JC.norm (i := 1) hf1 (JC.norm (i := 3) hf3 (JC.norm (i := 5) hf5 (JC.norm (i := 7) hf7 (JC.norm (i := 8) hf8 (JC.norm (i := 9) hf9 (JC.norm (i := 10) hf10 (JC.norm (i := 11) hf11 (JC.norm (i := 12) hf12 (JC.norm (i := 13) hf13 (JC.norm (i := 14) hf14 (JC.norm (i := 15) hf15 (JC.norm (i := 16) hf16 (JC.norm (i := 17) hf17 ?_))))))))))))))
            refine JC.seq ?_
            refine JC.region (by rfl) ?_
            intro hQ
            refine JL.loadOwn 4 az_30 rfl rfl rfl .none rfl ?_
            refine JL.move .none rfl ?_
            obtain ⟨y51, hy51, hF⟩ := bind_some hF
            refine JL.callH (c_gusts_First n H48 d (.slice a28 d.Frame.Sections.length c29) (SL.mono R_Section_mono (HSub.trans hs41 (HSub.trans hs45 hs48)) hd_0) (.slice a31 d.Ribs.length c32) (SL.mono R_Span_mono (HSub.trans hs41 (HSub.trans hs45 hs48)) hd_7) (.slice a34 d.Shares.length c35) (SL.mono RInt.mono (HSub.trans hs41 (HSub.trans hs45 hs48)) hd_8) class_ class__v0 (SL.mono R_Gust_mono (HSub.trans hs41 (HSub.trans hs45 hs48)) hclass__0) y51 hy51) rfl en_26 .none rfl ?_
            rintro H52 vv53 hs52 ⟨y51b_v0, rfl, hy51b_0⟩
            refine JL.move .none rfl ?_
            refine JL.extract rfl rfl .none rfl ?_
            refine JL.extract rfl rfl .none rfl ?_
            refine JL.extract rfl rfl .none rfl ?_
            refine JL.assign .none rfl ?_
            refine JL.assign .none rfl ?_
            refine JL.assign .none rfl ?_
            refine JL.done hQ ?_
            refine JQ.go ?_
            refine JC.seq ?_
            refine JC.seq ?_
            refine JC.region (by rfl) ?_
            intro hQ
            refine JL.move .none rfl ?_
            refine JL.bin rfl rfl rfl .none rfl ?_
            refine JL.move .none rfl ?_
            refine JL.cut 3 (fun f => f 1 = class__v0 ∧ f 3 = .pointer (some ⟨b1, 0, none⟩) ∧ f 5 = .pointer (some ⟨b2, 0, none⟩) ∧ f 7 = .pointer (some ⟨b20, 0, none⟩) ∧ f 8 = .pointer (some ⟨b40, 0, none⟩) ∧ f 9 = .pointer (some ⟨b43, 0, none⟩) ∧ f 11 = y44a_v0 ∧ f 13 = y47a_v0 ∧ f 14 = y47b_v0 ∧ f 15 = .int .i64 y47.2.2 ∧ f 16 = .int .i64 y50.1 ∧ f 17 = .int .i64 y50.2 ∧ f 18 = .int .i64 y51.1 ∧ f 19 = y51b_v0 ∧ f 20 = .int .i64 y51.2.2 ∧ f 99 = .bool ((y42.2 != 0) || (y44.2 != 0))) ?_ ?_
            · intro hJ54
              rcases bcases (y42.2 != 0) with hc55 | hc55
              · skip
                refine JL.skip (.bool rfl rfl rfl hc55) rfl ?_
                refine JL.skip (.bool rfl rfl rfl hc55) rfl ?_
                refine JL.pick_t (b := (y42.2 != 0)) rfl hc55 .none rfl ?_
                exact hJ54 _ ⟨rfl, rfl, rfl, rfl, rfl, rfl, rfl, rfl, rfl, rfl, rfl, rfl, rfl, rfl, rfl, or_t hc55 rfl⟩
              · skip
                refine JL.move (.some rfl rfl rfl hc55) rfl ?_
                refine JL.bin rfl rfl rfl (.some rfl rfl rfl hc55) rfl ?_
                refine JL.pick_f (b := (y42.2 != 0)) rfl hc55 .none rfl ?_
                exact hJ54 _ ⟨rfl, rfl, rfl, rfl, rfl, rfl, rfl, rfl, rfl, rfl, rfl, rfl, rfl, rfl, rfl, or_f hc55 rfl⟩
            · rintro f ⟨hf1, hf3, hf5, hf7, hf8, hf9, hf11, hf13, hf14, hf15, hf16, hf17, hf18, hf19, hf20, hf99⟩
              refine (JL.norm (i := 1) hf1 (JL.norm (i := 3) hf3 (JL.norm (i := 5) hf5 (JL.norm (i := 7) hf7 (JL.norm (i := 8) hf8 (JL.norm (i := 9) hf9 (JL.norm (i := 11) hf11 (JL.norm (i := 13) hf13 (JL.norm (i := 14) hf14 (JL.norm (i := 15) hf15 (JL.norm (i := 16) hf16 (JL.norm (i := 17) hf17 (JL.norm (i := 18) hf18 (JL.norm (i := 19) hf19 (JL.norm (i := 20) hf20 (JL.norm (i := 99) hf99 ?_))))))))))))))))
              refine JL.move .none rfl ?_
              refine JL.cut 3 (fun f => f 1 = class__v0 ∧ f 3 = .pointer (some ⟨b1, 0, none⟩) ∧ f 5 = .pointer (some ⟨b2, 0, none⟩) ∧ f 7 = .pointer (some ⟨b20, 0, none⟩) ∧ f 8 = .pointer (some ⟨b40, 0, none⟩) ∧ f 9 = .pointer (some ⟨b43, 0, none⟩) ∧ f 11 = y44a_v0 ∧ f 13 = y47a_v0 ∧ f 14 = y47b_v0 ∧ f 16 = .int .i64 y50.1 ∧ f 17 = .int .i64 y50.2 ∧ f 18 = .int .i64 y51.1 ∧ f 19 = y51b_v0 ∧ f 20 = .int .i64 y51.2.2 ∧ f 103 = .bool (((y42.2 != 0) || (y44.2 != 0)) || (y47.2.2 != 0))) ?_ ?_
              · intro hJ56
                rcases bcases ((y42.2 != 0) || (y44.2 != 0)) with hc57 | hc57
                · skip
                  refine JL.skip (.bool rfl rfl rfl hc57) rfl ?_
                  refine JL.skip (.bool rfl rfl rfl hc57) rfl ?_
                  refine JL.pick_t (b := ((y42.2 != 0) || (y44.2 != 0))) rfl hc57 .none rfl ?_
                  exact hJ56 _ ⟨rfl, rfl, rfl, rfl, rfl, rfl, rfl, rfl, rfl, rfl, rfl, rfl, rfl, rfl, or_t hc57 rfl⟩
                · skip
                  refine JL.move (.some rfl rfl rfl hc57) rfl ?_
                  refine JL.bin rfl rfl rfl (.some rfl rfl rfl hc57) rfl ?_
                  refine JL.pick_f (b := ((y42.2 != 0) || (y44.2 != 0))) rfl hc57 .none rfl ?_
                  exact hJ56 _ ⟨rfl, rfl, rfl, rfl, rfl, rfl, rfl, rfl, rfl, rfl, rfl, rfl, rfl, rfl, or_f hc57 rfl⟩
              · rintro f ⟨hf1, hf3, hf5, hf7, hf8, hf9, hf11, hf13, hf14, hf16, hf17, hf18, hf19, hf20, hf103⟩
                refine (JL.norm (i := 1) hf1 (JL.norm (i := 3) hf3 (JL.norm (i := 5) hf5 (JL.norm (i := 7) hf7 (JL.norm (i := 8) hf8 (JL.norm (i := 9) hf9 (JL.norm (i := 11) hf11 (JL.norm (i := 13) hf13 (JL.norm (i := 14) hf14 (JL.norm (i := 16) hf16 (JL.norm (i := 17) hf17 (JL.norm (i := 18) hf18 (JL.norm (i := 19) hf19 (JL.norm (i := 20) hf20 (JL.norm (i := 103) hf103 ?_)))))))))))))))
                refine JL.move .none rfl ?_
                refine JL.cut 3 (fun f => f 1 = class__v0 ∧ f 3 = .pointer (some ⟨b1, 0, none⟩) ∧ f 5 = .pointer (some ⟨b2, 0, none⟩) ∧ f 7 = .pointer (some ⟨b20, 0, none⟩) ∧ f 8 = .pointer (some ⟨b40, 0, none⟩) ∧ f 9 = .pointer (some ⟨b43, 0, none⟩) ∧ f 11 = y44a_v0 ∧ f 13 = y47a_v0 ∧ f 14 = y47b_v0 ∧ f 16 = .int .i64 y50.1 ∧ f 18 = .int .i64 y51.1 ∧ f 19 = y51b_v0 ∧ f 20 = .int .i64 y51.2.2 ∧ f 107 = .bool ((((y42.2 != 0) || (y44.2 != 0)) || (y47.2.2 != 0)) || (y50.2 != 0))) ?_ ?_
                · intro hJ58
                  rcases bcases (((y42.2 != 0) || (y44.2 != 0)) || (y47.2.2 != 0)) with hc59 | hc59
                  · skip
                    refine JL.skip (.bool rfl rfl rfl hc59) rfl ?_
                    refine JL.skip (.bool rfl rfl rfl hc59) rfl ?_
                    refine JL.pick_t (b := (((y42.2 != 0) || (y44.2 != 0)) || (y47.2.2 != 0))) rfl hc59 .none rfl ?_
                    exact hJ58 _ ⟨rfl, rfl, rfl, rfl, rfl, rfl, rfl, rfl, rfl, rfl, rfl, rfl, rfl, or_t hc59 rfl⟩
                  · skip
                    refine JL.move (.some rfl rfl rfl hc59) rfl ?_
                    refine JL.bin rfl rfl rfl (.some rfl rfl rfl hc59) rfl ?_
                    refine JL.pick_f (b := (((y42.2 != 0) || (y44.2 != 0)) || (y47.2.2 != 0))) rfl hc59 .none rfl ?_
                    exact hJ58 _ ⟨rfl, rfl, rfl, rfl, rfl, rfl, rfl, rfl, rfl, rfl, rfl, rfl, rfl, or_f hc59 rfl⟩
                · rintro f ⟨hf1, hf3, hf5, hf7, hf8, hf9, hf11, hf13, hf14, hf16, hf18, hf19, hf20, hf107⟩
                  refine (JL.norm (i := 1) hf1 (JL.norm (i := 3) hf3 (JL.norm (i := 5) hf5 (JL.norm (i := 7) hf7 (JL.norm (i := 8) hf8 (JL.norm (i := 9) hf9 (JL.norm (i := 11) hf11 (JL.norm (i := 13) hf13 (JL.norm (i := 14) hf14 (JL.norm (i := 16) hf16 (JL.norm (i := 18) hf18 (JL.norm (i := 19) hf19 (JL.norm (i := 20) hf20 (JL.norm (i := 107) hf107 ?_))))))))))))))
                  refine JL.move .none rfl ?_
                  refine JL.cut 7 (fun f => f 1 = class__v0 ∧ f 3 = .pointer (some ⟨b1, 0, none⟩) ∧ f 5 = .pointer (some ⟨b2, 0, none⟩) ∧ f 7 = .pointer (some ⟨b20, 0, none⟩) ∧ f 8 = .pointer (some ⟨b40, 0, none⟩) ∧ f 9 = .pointer (some ⟨b43, 0, none⟩) ∧ f 11 = y44a_v0 ∧ f 13 = y47a_v0 ∧ f 14 = y47b_v0 ∧ f 16 = .int .i64 y50.1 ∧ f 18 = .int .i64 y51.1 ∧ f 19 = y51b_v0 ∧ f 20 = .int .i64 y51.2.2 ∧ f 115 = .bool (((((y42.2 != 0) || (y44.2 != 0)) || (y47.2.2 != 0)) || (y50.2 != 0)) || ((y51.2.2 != 0) && (y51.2.2 != 3)))) ?_ ?_
                  · intro hJ62
                    rcases bcases ((((y42.2 != 0) || (y44.2 != 0)) || (y47.2.2 != 0)) || (y50.2 != 0)) with hc63 | hc63
                    · skip
                      refine JL.skip (.bool rfl rfl rfl hc63) rfl ?_
                      refine JL.skip (.bool rfl rfl rfl hc63) rfl ?_
                      refine JL.skip (.bool rfl rfl rfl hc63) rfl ?_
                      refine JL.skip (.no rfl rfl rfl) rfl ?_
                      refine JL.skip (.no rfl rfl rfl) rfl ?_
                      refine JL.skip (.bool rfl rfl rfl hc63) rfl ?_
                      refine JL.pick_t (b := ((((y42.2 != 0) || (y44.2 != 0)) || (y47.2.2 != 0)) || (y50.2 != 0))) rfl hc63 .none rfl ?_
                      exact hJ62 _ ⟨rfl, rfl, rfl, rfl, rfl, rfl, rfl, rfl, rfl, rfl, rfl, rfl, rfl, or_t hc63 rfl⟩
                    · skip
                      refine JL.move (.some rfl rfl rfl hc63) rfl ?_
                      refine JL.bin rfl rfl rfl (.some rfl rfl rfl hc63) rfl ?_
                      refine JL.move (.some rfl rfl rfl hc63) rfl ?_
                      refine JL.cut 3 (fun f => f 1 = class__v0 ∧ f 3 = .pointer (some ⟨b1, 0, none⟩) ∧ f 5 = .pointer (some ⟨b2, 0, none⟩) ∧ f 7 = .pointer (some ⟨b20, 0, none⟩) ∧ f 8 = .pointer (some ⟨b40, 0, none⟩) ∧ f 9 = .pointer (some ⟨b43, 0, none⟩) ∧ f 11 = y44a_v0 ∧ f 13 = y47a_v0 ∧ f 14 = y47b_v0 ∧ f 16 = .int .i64 y50.1 ∧ f 18 = .int .i64 y51.1 ∧ f 19 = y51b_v0 ∧ f 20 = .int .i64 y51.2.2 ∧ f 108 = .bool ((((y42.2 != 0) || (y44.2 != 0)) || (y47.2.2 != 0)) || (y50.2 != 0)) ∧ f 114 = .bool ((y51.2.2 != 0) && (y51.2.2 != 3))) ?_ ?_
                      · intro hJ64
                        rcases bcases (y51.2.2 != 0) with hc65 | hc65
                        · skip
                          refine JL.move (.some rfl rfl rfl hc65) rfl ?_
                          refine JL.bin rfl rfl rfl (.some rfl rfl rfl hc65) rfl ?_
                          refine JL.pick_t (b := (y51.2.2 != 0)) rfl hc65 (.some rfl rfl rfl hc63) rfl ?_
                          exact hJ64 _ ⟨rfl, rfl, rfl, rfl, rfl, rfl, rfl, rfl, rfl, rfl, rfl, rfl, rfl, rfl, and_t hc65 rfl⟩
                        · skip
                          refine JL.skip (.bool rfl rfl rfl hc65) rfl ?_
                          refine JL.skip (.bool rfl rfl rfl hc65) rfl ?_
                          refine JL.pick_f (b := (y51.2.2 != 0)) rfl hc65 (.some rfl rfl rfl hc63) rfl ?_
                          exact hJ64 _ ⟨rfl, rfl, rfl, rfl, rfl, rfl, rfl, rfl, rfl, rfl, rfl, rfl, rfl, rfl, and_f hc65 rfl⟩
                      · rintro f ⟨hf1, hf3, hf5, hf7, hf8, hf9, hf11, hf13, hf14, hf16, hf18, hf19, hf20, hf108, hf114⟩
                        refine (JL.norm (i := 1) hf1 (JL.norm (i := 3) hf3 (JL.norm (i := 5) hf5 (JL.norm (i := 7) hf7 (JL.norm (i := 8) hf8 (JL.norm (i := 9) hf9 (JL.norm (i := 11) hf11 (JL.norm (i := 13) hf13 (JL.norm (i := 14) hf14 (JL.norm (i := 16) hf16 (JL.norm (i := 18) hf18 (JL.norm (i := 19) hf19 (JL.norm (i := 20) hf20 (JL.norm (i := 108) hf108 (JL.norm (i := 114) hf114 ?_)))))))))))))))
                        refine JL.pick_f (b := ((((y42.2 != 0) || (y44.2 != 0)) || (y47.2.2 != 0)) || (y50.2 != 0))) rfl hc63 .none rfl ?_
                        exact hJ62 _ ⟨rfl, rfl, rfl, rfl, rfl, rfl, rfl, rfl, rfl, rfl, rfl, rfl, rfl, or_f hc63 rfl⟩
                  · rintro f ⟨hf1, hf3, hf5, hf7, hf8, hf9, hf11, hf13, hf14, hf16, hf18, hf19, hf20, hf115⟩
                    refine (JL.norm (i := 1) hf1 (JL.norm (i := 3) hf3 (JL.norm (i := 5) hf5 (JL.norm (i := 7) hf7 (JL.norm (i := 8) hf8 (JL.norm (i := 9) hf9 (JL.norm (i := 11) hf11 (JL.norm (i := 13) hf13 (JL.norm (i := 14) hf14 (JL.norm (i := 16) hf16 (JL.norm (i := 18) hf18 (JL.norm (i := 19) hf19 (JL.norm (i := 20) hf20 (JL.norm (i := 115) hf115 ?_))))))))))))))
                    refine JL.move .none rfl ?_
                    refine JL.cut 6 (fun f => f 1 = class__v0 ∧ f 3 = .pointer (some ⟨b1, 0, none⟩) ∧ f 5 = .pointer (some ⟨b2, 0, none⟩) ∧ f 7 = .pointer (some ⟨b20, 0, none⟩) ∧ f 8 = .pointer (some ⟨b40, 0, none⟩) ∧ f 9 = .pointer (some ⟨b43, 0, none⟩) ∧ f 11 = y44a_v0 ∧ f 13 = y47a_v0 ∧ f 14 = y47b_v0 ∧ f 16 = .int .i64 y50.1 ∧ f 18 = .int .i64 y51.1 ∧ f 19 = y51b_v0 ∧ f 20 = .int .i64 y51.2.2 ∧ f 122 = .bool ((((((y42.2 != 0) || (y44.2 != 0)) || (y47.2.2 != 0)) || (y50.2 != 0)) || ((y51.2.2 != 0) && (y51.2.2 != 3))) || (decide (y37 < y42.1.Low)))) ?_ ?_
                    · intro hJ66
                      rcases bcases (((((y42.2 != 0) || (y44.2 != 0)) || (y47.2.2 != 0)) || (y50.2 != 0)) || ((y51.2.2 != 0) && (y51.2.2 != 3))) with hc67 | hc67
                      · skip
                        refine JL.skip (.bool rfl rfl rfl hc67) rfl ?_
                        refine JL.skip (.bool rfl rfl rfl hc67) rfl ?_
                        refine JL.skip (.bool rfl rfl rfl hc67) rfl ?_
                        refine JL.skip (.bool rfl rfl rfl hc67) rfl ?_
                        refine JL.skip (.bool rfl rfl rfl hc67) rfl ?_
                        refine JL.pick_t (b := (((((y42.2 != 0) || (y44.2 != 0)) || (y47.2.2 != 0)) || (y50.2 != 0)) || ((y51.2.2 != 0) && (y51.2.2 != 3)))) rfl hc67 .none rfl ?_
                        exact hJ66 _ ⟨rfl, rfl, rfl, rfl, rfl, rfl, rfl, rfl, rfl, rfl, rfl, rfl, rfl, or_t hc67 rfl⟩
                      · skip
                        refine JL.fieldAddr fo_78_0 rfl (.some rfl rfl rfl hc67) rfl ?_
                        refine JL.loadOwn 1 az_3 rfl rfl rfl (.some rfl rfl rfl hc67) rfl ?_
                        refine JL.fieldAddr fo_38_0 rfl (.some rfl rfl rfl hc67) rfl ?_
                        refine JL.loadOwn 0 az_3 rfl rfl rfl (.some rfl rfl rfl hc67) rfl ?_
                        refine JL.bin rfl rfl rfl (.some rfl rfl rfl hc67) rfl ?_
                        refine JL.pick_f (b := (((((y42.2 != 0) || (y44.2 != 0)) || (y47.2.2 != 0)) || (y50.2 != 0)) || ((y51.2.2 != 0) && (y51.2.2 != 3)))) rfl hc67 .none rfl ?_
                        exact hJ66 _ ⟨rfl, rfl, rfl, rfl, rfl, rfl, rfl, rfl, rfl, rfl, rfl, rfl, rfl, or_f hc67 rfl⟩
                    · rintro f ⟨hf1, hf3, hf5, hf7, hf8, hf9, hf11, hf13, hf14, hf16, hf18, hf19, hf20, hf122⟩
                      refine (JL.norm (i := 1) hf1 (JL.norm (i := 3) hf3 (JL.norm (i := 5) hf5 (JL.norm (i := 7) hf7 (JL.norm (i := 8) hf8 (JL.norm (i := 9) hf9 (JL.norm (i := 11) hf11 (JL.norm (i := 13) hf13 (JL.norm (i := 14) hf14 (JL.norm (i := 16) hf16 (JL.norm (i := 18) hf18 (JL.norm (i := 19) hf19 (JL.norm (i := 20) hf20 (JL.norm (i := 122) hf122 ?_))))))))))))))
                      refine JL.move .none rfl ?_
                      refine JL.cut 6 (fun f => f 1 = class__v0 ∧ f 3 = .pointer (some ⟨b1, 0, none⟩) ∧ f 5 = .pointer (some ⟨b2, 0, none⟩) ∧ f 7 = .pointer (some ⟨b20, 0, none⟩) ∧ f 8 = .pointer (some ⟨b40, 0, none⟩) ∧ f 11 = y44a_v0 ∧ f 13 = y47a_v0 ∧ f 14 = y47b_v0 ∧ f 16 = .int .i64 y50.1 ∧ f 18 = .int .i64 y51.1 ∧ f 19 = y51b_v0 ∧ f 20 = .int .i64 y51.2.2 ∧ f 129 = .bool (((((((y42.2 != 0) || (y44.2 != 0)) || (y47.2.2 != 0)) || (y50.2 != 0)) || ((y51.2.2 != 0) && (y51.2.2 != 3))) || (decide (y37 < y42.1.Low))) || (decide (y42.1.High < y37)))) ?_ ?_
                      · intro hJ68
                        rcases bcases ((((((y42.2 != 0) || (y44.2 != 0)) || (y47.2.2 != 0)) || (y50.2 != 0)) || ((y51.2.2 != 0) && (y51.2.2 != 3))) || (decide (y37 < y42.1.Low))) with hc69 | hc69
                        · skip
                          refine JL.skip (.bool rfl rfl rfl hc69) rfl ?_
                          refine JL.skip (.bool rfl rfl rfl hc69) rfl ?_
                          refine JL.skip (.bool rfl rfl rfl hc69) rfl ?_
                          refine JL.skip (.bool rfl rfl rfl hc69) rfl ?_
                          refine JL.skip (.bool rfl rfl rfl hc69) rfl ?_
                          refine JL.pick_t (b := ((((((y42.2 != 0) || (y44.2 != 0)) || (y47.2.2 != 0)) || (y50.2 != 0)) || ((y51.2.2 != 0) && (y51.2.2 != 3))) || (decide (y37 < y42.1.Low)))) rfl hc69 .none rfl ?_
                          exact hJ68 _ ⟨rfl, rfl, rfl, rfl, rfl, rfl, rfl, rfl, rfl, rfl, rfl, rfl, or_t hc69 rfl⟩
                        · skip
                          refine JL.fieldAddr fo_78_0 rfl (.some rfl rfl rfl hc69) rfl ?_
                          refine JL.loadOwn 1 az_3 rfl rfl rfl (.some rfl rfl rfl hc69) rfl ?_
                          refine JL.fieldAddr fo_38_1 rfl (.some rfl rfl rfl hc69) rfl ?_
                          refine JL.loadOwn 0 az_3 rfl rfl rfl (.some rfl rfl rfl hc69) rfl ?_
                          refine JL.bin rfl rfl rfl (.some rfl rfl rfl hc69) rfl ?_
                          refine JL.pick_f (b := ((((((y42.2 != 0) || (y44.2 != 0)) || (y47.2.2 != 0)) || (y50.2 != 0)) || ((y51.2.2 != 0) && (y51.2.2 != 3))) || (decide (y37 < y42.1.Low)))) rfl hc69 .none rfl ?_
                          exact hJ68 _ ⟨rfl, rfl, rfl, rfl, rfl, rfl, rfl, rfl, rfl, rfl, rfl, rfl, or_f hc69 rfl⟩
                      · rintro f ⟨hf1, hf3, hf5, hf7, hf8, hf11, hf13, hf14, hf16, hf18, hf19, hf20, hf129⟩
                        refine (JL.norm (i := 1) hf1 (JL.norm (i := 3) hf3 (JL.norm (i := 5) hf5 (JL.norm (i := 7) hf7 (JL.norm (i := 8) hf8 (JL.norm (i := 11) hf11 (JL.norm (i := 13) hf13 (JL.norm (i := 14) hf14 (JL.norm (i := 16) hf16 (JL.norm (i := 18) hf18 (JL.norm (i := 19) hf19 (JL.norm (i := 20) hf20 (JL.norm (i := 129) hf129 ?_)))))))))))))
                        refine JL.move .none rfl ?_
                        refine JL.cut 7 (fun f => f 1 = class__v0 ∧ f 3 = .pointer (some ⟨b1, 0, none⟩) ∧ f 5 = .pointer (some ⟨b2, 0, none⟩) ∧ f 7 = .pointer (some ⟨b20, 0, none⟩) ∧ f 8 = .pointer (some ⟨b40, 0, none⟩) ∧ f 11 = y44a_v0 ∧ f 13 = y47a_v0 ∧ f 14 = y47b_v0 ∧ f 16 = .int .i64 y50.1 ∧ f 18 = .int .i64 y51.1 ∧ f 19 = y51b_v0 ∧ f 20 = .int .i64 y51.2.2 ∧ f 137 = .bool ((((((((y42.2 != 0) || (y44.2 != 0)) || (y47.2.2 != 0)) || (y50.2 != 0)) || ((y51.2.2 != 0) && (y51.2.2 != 3))) || (decide (y37 < y42.1.Low))) || (decide (y42.1.High < y37))) || ((y44.1.length : Int) != (d.Ribs.length : Int)))) ?_ ?_
                        · intro hJ70
                          rcases bcases (((((((y42.2 != 0) || (y44.2 != 0)) || (y47.2.2 != 0)) || (y50.2 != 0)) || ((y51.2.2 != 0) && (y51.2.2 != 3))) || (decide (y37 < y42.1.Low))) || (decide (y42.1.High < y37))) with hc71 | hc71
                          · skip
                            refine JL.skip (.bool rfl rfl rfl hc71) rfl ?_
                            refine JL.skip (.bool rfl rfl rfl hc71) rfl ?_
                            refine JL.skip (.bool rfl rfl rfl hc71) rfl ?_
                            refine JL.skip (.bool rfl rfl rfl hc71) rfl ?_
                            refine JL.skip (.bool rfl rfl rfl hc71) rfl ?_
                            refine JL.skip (.bool rfl rfl rfl hc71) rfl ?_
                            refine JL.pick_t (b := (((((((y42.2 != 0) || (y44.2 != 0)) || (y47.2.2 != 0)) || (y50.2 != 0)) || ((y51.2.2 != 0) && (y51.2.2 != 3))) || (decide (y37 < y42.1.Low))) || (decide (y42.1.High < y37)))) rfl hc71 .none rfl ?_
                            exact hJ70 _ ⟨rfl, rfl, rfl, rfl, rfl, rfl, rfl, rfl, rfl, rfl, rfl, rfl, or_t hc71 rfl⟩
                          · skip
                            refine JL.move (.some rfl rfl rfl hc71) rfl ?_
                            refine JL.lenSL (R := R_Span) ul_27 (SL.mono R_Span_mono (HSub.trans hs48 hs52) hy44a_0) (.some rfl rfl rfl hc71) rfl ?_
                            refine JL.fieldAddr fo_30_1 rfl (.some rfl rfl rfl hc71) rfl ?_
                            refine JL.loadOwn 4 az_27 rfl rfl rfl (.some rfl rfl rfl hc71) rfl ?_
                            refine JL.lenSL (R := R_Span) ul_27 (SL.mono R_Span_mono (HSub.trans hs41 (HSub.trans hs45 (HSub.trans hs48 hs52))) hd_7) (.some rfl rfl rfl hc71) rfl ?_
                            refine JL.bin rfl rfl rfl (.some rfl rfl rfl hc71) rfl ?_
                            refine JL.pick_f (b := (((((((y42.2 != 0) || (y44.2 != 0)) || (y47.2.2 != 0)) || (y50.2 != 0)) || ((y51.2.2 != 0) && (y51.2.2 != 3))) || (decide (y37 < y42.1.Low))) || (decide (y42.1.High < y37)))) rfl hc71 .none rfl ?_
                            exact hJ70 _ ⟨rfl, rfl, rfl, rfl, rfl, rfl, rfl, rfl, rfl, rfl, rfl, rfl, or_f hc71 rfl⟩
                        · rintro f ⟨hf1, hf3, hf5, hf7, hf8, hf11, hf13, hf14, hf16, hf18, hf19, hf20, hf137⟩
                          refine (JL.norm (i := 1) hf1 (JL.norm (i := 3) hf3 (JL.norm (i := 5) hf5 (JL.norm (i := 7) hf7 (JL.norm (i := 8) hf8 (JL.norm (i := 11) hf11 (JL.norm (i := 13) hf13 (JL.norm (i := 14) hf14 (JL.norm (i := 16) hf16 (JL.norm (i := 18) hf18 (JL.norm (i := 19) hf19 (JL.norm (i := 20) hf20 (JL.norm (i := 137) hf137 ?_)))))))))))))
                          refine JL.move .none rfl ?_
                          refine JL.cut 7 (fun f => f 1 = class__v0 ∧ f 3 = .pointer (some ⟨b1, 0, none⟩) ∧ f 5 = .pointer (some ⟨b2, 0, none⟩) ∧ f 7 = .pointer (some ⟨b20, 0, none⟩) ∧ f 8 = .pointer (some ⟨b40, 0, none⟩) ∧ f 11 = y44a_v0 ∧ f 13 = y47a_v0 ∧ f 14 = y47b_v0 ∧ f 16 = .int .i64 y50.1 ∧ f 18 = .int .i64 y51.1 ∧ f 19 = y51b_v0 ∧ f 20 = .int .i64 y51.2.2 ∧ f 145 = .bool (((((((((y42.2 != 0) || (y44.2 != 0)) || (y47.2.2 != 0)) || (y50.2 != 0)) || ((y51.2.2 != 0) && (y51.2.2 != 3))) || (decide (y37 < y42.1.Low))) || (decide (y42.1.High < y37))) || ((y44.1.length : Int) != (d.Ribs.length : Int))) || (decide (40 < (w64 ((y47.1.length : Int) + (y47.2.1.length : Int))))))) ?_ ?_
                          · intro hJ72
                            rcases bcases ((((((((y42.2 != 0) || (y44.2 != 0)) || (y47.2.2 != 0)) || (y50.2 != 0)) || ((y51.2.2 != 0) && (y51.2.2 != 3))) || (decide (y37 < y42.1.Low))) || (decide (y42.1.High < y37))) || ((y44.1.length : Int) != (d.Ribs.length : Int))) with hc73 | hc73
                            · skip
                              refine JL.skip (.bool rfl rfl rfl hc73) rfl ?_
                              refine JL.skip (.bool rfl rfl rfl hc73) rfl ?_
                              refine JL.skip (.bool rfl rfl rfl hc73) rfl ?_
                              refine JL.skip (.bool rfl rfl rfl hc73) rfl ?_
                              refine JL.skip (.bool rfl rfl rfl hc73) rfl ?_
                              refine JL.skip (.bool rfl rfl rfl hc73) rfl ?_
                              refine JL.pick_t (b := ((((((((y42.2 != 0) || (y44.2 != 0)) || (y47.2.2 != 0)) || (y50.2 != 0)) || ((y51.2.2 != 0) && (y51.2.2 != 3))) || (decide (y37 < y42.1.Low))) || (decide (y42.1.High < y37))) || ((y44.1.length : Int) != (d.Ribs.length : Int)))) rfl hc73 .none rfl ?_
                              exact hJ72 _ ⟨rfl, rfl, rfl, rfl, rfl, rfl, rfl, rfl, rfl, rfl, rfl, rfl, or_t hc73 rfl⟩
                            · skip
                              refine JL.move (.some rfl rfl rfl hc73) rfl ?_
                              refine JL.lenSL (R := RInt) ul_28 (SL.mono RInt.mono hs52 hy47a_0) (.some rfl rfl rfl hc73) rfl ?_
                              refine JL.move (.some rfl rfl rfl hc73) rfl ?_
                              refine JL.lenSL (R := RInt) ul_28 (SL.mono RInt.mono hs52 hy47b_0) (.some rfl rfl rfl hc73) rfl ?_
                              refine JL.bin rfl rfl rfl (.some rfl rfl rfl hc73) rfl ?_
                              refine JL.bin rfl rfl rfl (.some rfl rfl rfl hc73) rfl ?_
                              refine JL.pick_f (b := ((((((((y42.2 != 0) || (y44.2 != 0)) || (y47.2.2 != 0)) || (y50.2 != 0)) || ((y51.2.2 != 0) && (y51.2.2 != 3))) || (decide (y37 < y42.1.Low))) || (decide (y42.1.High < y37))) || ((y44.1.length : Int) != (d.Ribs.length : Int)))) rfl hc73 .none rfl ?_
                              exact hJ72 _ ⟨rfl, rfl, rfl, rfl, rfl, rfl, rfl, rfl, rfl, rfl, rfl, rfl, or_f hc73 rfl⟩
                          · rintro f ⟨hf1, hf3, hf5, hf7, hf8, hf11, hf13, hf14, hf16, hf18, hf19, hf20, hf145⟩
                            refine (JL.norm (i := 1) hf1 (JL.norm (i := 3) hf3 (JL.norm (i := 5) hf5 (JL.norm (i := 7) hf7 (JL.norm (i := 8) hf8 (JL.norm (i := 11) hf11 (JL.norm (i := 13) hf13 (JL.norm (i := 14) hf14 (JL.norm (i := 16) hf16 (JL.norm (i := 18) hf18 (JL.norm (i := 19) hf19 (JL.norm (i := 20) hf20 (JL.norm (i := 145) hf145 ?_)))))))))))))
                            refine JL.done hQ ?_
                            refine JQ.go ?_
                            rcases ite_some hF with ⟨hc74, hF⟩ | ⟨hc74, hF⟩
                            · refine JC.cond_t (b := (((((((((y42.2 != 0) || (y44.2 != 0)) || (y47.2.2 != 0)) || (y50.2 != 0)) || ((y51.2.2 != 0) && (y51.2.2 != 3))) || (decide (y37 < y42.1.Low))) || (decide (y42.1.High < y37))) || ((y44.1.length : Int) != (d.Ribs.length : Int))) || (decide (40 < (w64 ((y47.1.length : Int) + (y47.2.1.length : Int))))))) rfl hc74 ?_
                              refine JC.seq ?_
                              refine JC.region (by rfl) ?_
                              intro hQ
                              refine JL.assign .none rfl ?_
                              refine JL.done hQ ?_
                              refine JQ.go ?_
                              refine JC.fresh (fun f => f 6 = .bool false) rfl ?_
                              rintro f hf6
                              refine (JC.norm (i := 6) hf6 ?_)
                              refine JC.ret ?_
                              refine JQ.ret_then ?_
                              obtain rfl := Option.some.inj hF
                              exact JQ.outS rfl (.tmp .nil) rfl
                            · refine JC.cond_f (b := (((((((((y42.2 != 0) || (y44.2 != 0)) || (y47.2.2 != 0)) || (y50.2 != 0)) || ((y51.2.2 != 0) && (y51.2.2 != 3))) || (decide (y37 < y42.1.Low))) || (decide (y42.1.High < y37))) || ((y44.1.length : Int) != (d.Ribs.length : Int))) || (decide (40 < (w64 ((y47.1.length : Int) + (y47.2.1.length : Int))))))) rfl hc74 ?_
                              refine JC.skip ?_
                              refine JQ.go ?_
                              refine JC.seq ?_
                              refine JC.region (by rfl) ?_
                              intro hQ
                              refine JL.loadOwn 4 az_30 rfl rfl rfl .none rfl ?_
                              refine JL.loadOwn 2 az_32 rfl rfl rfl .none rfl ?_
                              refine JL.loadOwn 1 az_78 rfl rfl rfl .none rfl ?_
                              obtain ⟨y75, hy75, hF⟩ := bind_some hF
                              refine JL.callH (c_ref05_Rounds n H52 d (.slice a28 d.Frame.Sections.length c29) (SL.mono R_Section_mono (HSub.trans hs41 (HSub.trans hs45 (HSub.trans hs48 hs52))) hd_0) (.slice a31 d.Ribs.length c32) (SL.mono R_Span_mono (HSub.trans hs41 (HSub.trans hs45 (HSub.trans hs48 hs52))) hd_7) (.slice a34 d.Shares.length c35) (SL.mono RInt.mono (HSub.trans hs41 (HSub.trans hs45 (HSub.trans hs48 hs52))) hd_8) y15 (ref05_Truth.mk y37 x_.Strengths) (.slice a25 x_.Strengths.length c26) (SL.mono RInt.mono (HSub.trans hs41 (HSub.trans hs45 (HSub.trans hs48 hs52))) hx__2) y75 hy75) rfl en_38 .none rfl ?_
                              intro H76 y75a_v0 hs76 hy75a_0
                              refine JL.assign .none rfl ?_
                              refine JL.done hQ ?_
                              refine JQ.go ?_
                              refine JC.seq ?_
                              refine JC.seq ?_
                              refine JC.region (by rfl) ?_
                              intro hQ
                              refine JL.assign .none rfl ?_
                              refine JL.done hQ ?_
                              refine JQ.go ?_
                              obtain ⟨r380, hlr380, hKr380⟩ := bind_some hF
                              refine JC.join (fun (_ : Unit) H379 f bs gs => f 1 = class__v0 ∧ f 3 = .pointer (some ⟨b1, 0, none⟩) ∧ f 8 = .pointer (some ⟨b40, 0, none⟩) ∧ f 16 = .int .i64 y50.1 ∧ bs = [(b40, .cells [.int .i64 y37, (.slice a25 x_.Strengths.length c26)].toArray 78), (b1, .cells [(.slice a28 d.Frame.Sections.length c29), .int .i64 d.Frame.Low, .int .i64 d.Frame.High, .int .i64 d.Frame.Ease.Num, .int .i64 d.Frame.Ease.Den, .int .i64 d.Frame.Rod, .int .i64 d.Frame.Case, (.slice a31 d.Ribs.length c32), (.slice a34 d.Shares.length c35)].toArray 30)] ∧ gs = [] ∧ HSub H76 H379 ∧ Sum.inr () = r380) ?_ ?_
                              · skip
                                refine JC.block ?_
                                refine JC.mask [false, true, true, true, true] [] ?_
                                refine JC.loop hlr380 (fun (r_581 : Int) H582 f bs gs => f 1 = class__v0 ∧ f 3 = .pointer (some ⟨b1, 0, none⟩) ∧ f 5 = .pointer (some ⟨b2, 0, none⟩) ∧ f 7 = .pointer (some ⟨b20, 0, none⟩) ∧ f 8 = .pointer (some ⟨b40, 0, none⟩) ∧ f 11 = y44a_v0 ∧ f 13 = y47a_v0 ∧ f 14 = y47b_v0 ∧ f 16 = .int .i64 y50.1 ∧ f 18 = .int .i64 y51.1 ∧ f 19 = y51b_v0 ∧ f 20 = .int .i64 y51.2.2 ∧ f 21 = y75a_v0 ∧ f 22 = .int .i64 r_581 ∧ bs = [(b40, .cells [.int .i64 y37, (.slice a25 x_.Strengths.length c26)].toArray 78), (b20, .cells [.int .i64 y15.Force, .int .i64 y15.At].toArray 32), (b2, .cells [.int .i64 x_.Pair.Arm, .int .i64 x_.Pair.Stretch, (.slice a25 x_.Strengths.length c26), .int .i64 x_.Gust].toArray 74), (b1, .cells [(.slice a28 d.Frame.Sections.length c29), .int .i64 d.Frame.Low, .int .i64 d.Frame.High, .int .i64 d.Frame.Ease.Num, .int .i64 d.Frame.Ease.Den, .int .i64 d.Frame.Rod, .int .i64 d.Frame.Case, (.slice a31 d.Ribs.length c32), (.slice a34 d.Shares.length c35)].toArray 30)] ∧ gs = [] ∧ HSub H76 H582) ⟨rfl, rfl, rfl, rfl, rfl, rfl, rfl, rfl, rfl, rfl, rfl, rfl, rfl, rfl, rfl, rfl, (HSub.refl _)⟩ ?_
                                rintro r_581 x584 H582 f bs gs ⟨hf1, hf3, hf5, hf7, hf8, hf11, hf13, hf14, hf16, hf18, hf19, hf20, hf21, hf22, rfl, rfl, hs582⟩ hF hr583
                                rw [F_law05_GustsTrue_s1] at hF
                                refine (JC.norm (i := 1) hf1 (JC.norm (i := 3) hf3 (JC.norm (i := 5) hf5 (JC.norm (i := 7) hf7 (JC.norm (i := 8) hf8 (JC.norm (i := 11) hf11 (JC.norm (i := 13) hf13 (JC.norm (i := 14) hf14 (JC.norm (i := 16) hf16 (JC.norm (i := 18) hf18 (JC.norm (i := 19) hf19 (JC.norm (i := 20) hf20 (JC.norm (i := 21) hf21 (JC.norm (i := 22) hf22 ?_))))))))))))))
                                refine JC.seq ?_
                                refine JC.seq ?_
                                refine JC.region (by rfl) ?_
                                intro hQ
                                refine JL.move .none rfl ?_
                                refine JL.move .none rfl ?_
                                refine JL.lenSL (R := RInt) ul_28 (SL.mono RInt.mono hs582 hy75a_0) .none rfl ?_
                                refine JL.bin rfl rfl rfl .none rfl ?_
                                refine JL.done hQ ?_
                                refine JQ.go ?_
                                rcases ite_some hF with ⟨hc585, hF⟩ | ⟨hc585, hF⟩
                                · refine JC.cond_t (b := decide (r_581 < (y75.length : Int))) rfl hc585 ?_
                                  refine JC.skip ?_
                                  refine JQ.go ?_
                                  refine JC.seq ?_
                                  refine JC.block ?_
                                  refine JC.seq ?_
                                  refine JC.seq ?_
                                  refine JC.region (by rfl) ?_
                                  intro hQ
                                  refine JL.loadOwn 3 az_30 rfl rfl rfl .none rfl ?_
                                  refine JL.loadOwn 1 az_32 rfl rfl rfl .none rfl ?_
                                  refine JL.fieldAddr fo_78_0 rfl .none rfl ?_
                                  refine JL.loadOwn 0 az_3 rfl rfl rfl .none rfl ?_
                                  refine JL.move .none rfl ?_
                                  obtain ⟨y586, hy586, hF⟩ := bind_some hF
                                  refine JL.callS (c_ref05_Load n H582 d (.slice a28 d.Frame.Sections.length c29) (SL.mono R_Section_mono (HSub.trans hs41 (HSub.trans hs45 (HSub.trans hs48 (HSub.trans hs52 (HSub.trans hs76 hs582))))) hd_0) (.slice a31 d.Ribs.length c32) (SL.mono R_Span_mono (HSub.trans hs41 (HSub.trans hs45 (HSub.trans hs48 (HSub.trans hs52 (HSub.trans hs76 hs582))))) hd_7) (.slice a34 d.Shares.length c35) (SL.mono RInt.mono (HSub.trans hs41 (HSub.trans hs45 (HSub.trans hs48 (HSub.trans hs52 (HSub.trans hs76 hs582))))) hd_8) y15 y37 r_581 y586 hy586) rfl en_39 .none rfl ?_
                                  refine JL.assign .none rfl ?_
                                  refine JL.done hQ ?_
                                  refine JQ.go ?_
                                  refine JC.fresh (fun f => f 1 = class__v0 ∧ f 3 = .pointer (some ⟨b1, 0, none⟩) ∧ f 5 = .pointer (some ⟨b2, 0, none⟩) ∧ f 7 = .pointer (some ⟨b20, 0, none⟩) ∧ f 8 = .pointer (some ⟨b40, 0, none⟩) ∧ f 11 = y44a_v0 ∧ f 13 = y47a_v0 ∧ f 14 = y47b_v0 ∧ f 16 = .int .i64 y50.1 ∧ f 18 = .int .i64 y51.1 ∧ f 19 = y51b_v0 ∧ f 20 = .int .i64 y51.2.2 ∧ f 21 = y75a_v0 ∧ f 22 = .int .i64 r_581 ∧ f 23 = .int .i64 y586) ⟨rfl, rfl, rfl, rfl, rfl, rfl, rfl, rfl, rfl, rfl, rfl, rfl, rfl, rfl, rfl⟩ ?_
                                  rintro f ⟨hf1, hf3, hf5, hf7, hf8, hf11, hf13, hf14, hf16, hf18, hf19, hf20, hf21, hf22, hf23⟩
                                  refine (JC.norm (i := 1) hf1 (JC.norm (i := 3) hf3 (JC.norm (i := 5) hf5 (JC.norm (i := 7) hf7 (JC.norm (i := 8) hf8 (JC.norm (i := 11) hf11 (JC.norm (i := 13) hf13 (JC.norm (i := 14) hf14 (JC.norm (i := 16) hf16 (JC.norm (i := 18) hf18 (JC.norm (i := 19) hf19 (JC.norm (i := 20) hf20 (JC.norm (i := 21) hf21 (JC.norm (i := 22) hf22 (JC.norm (i := 23) hf23 ?_)))))))))))))))
                                  refine JC.seq ?_
                                  refine JC.region (by rfl) ?_
                                  intro hQ
                                  refine JL.move .none rfl ?_
                                  refine JL.move .none rfl ?_
                                  refine JL.move .none rfl ?_
                                  obtain ⟨y587, hy587, hF⟩ := bind_some hF
                                  refine JL.indexSL (R := R_Span) sl_27 (SL.mono R_Span_mono (HSub.trans hs48 (HSub.trans hs52 (HSub.trans hs76 hs582))) hy44a_0) rfl hy587 .none rfl ?_
                                  rintro b588 o589 cs590 hc591 - rfl
                                  refine JL.fieldAddr fo_38_0 rfl .none rfl ?_
                                  refine JL.loadH 0 az_3 rfl hc591 rfl .none rfl ?_
                                  refine JL.bin rfl rfl rfl .none rfl ?_
                                  refine JL.move .none rfl ?_
                                  obtain ⟨p597, hp597, hF⟩ := bind_some hF
                                  refine JL.cut 8 (fun f => f 1 = class__v0 ∧ f 3 = .pointer (some ⟨b1, 0, none⟩) ∧ f 5 = .pointer (some ⟨b2, 0, none⟩) ∧ f 7 = .pointer (some ⟨b20, 0, none⟩) ∧ f 8 = .pointer (some ⟨b40, 0, none⟩) ∧ f 11 = y44a_v0 ∧ f 13 = y47a_v0 ∧ f 14 = y47b_v0 ∧ f 16 = .int .i64 y50.1 ∧ f 18 = .int .i64 y51.1 ∧ f 19 = y51b_v0 ∧ f 20 = .int .i64 y51.2.2 ∧ f 21 = y75a_v0 ∧ f 22 = .int .i64 r_581 ∧ f 177 = .bool p597) ?_ ?_
                                  · intro hJ598
                                    rcases ite_some hp597 with ⟨hc599, hF⟩ | ⟨hc599, hF⟩
                                    · skip
                                      refine JL.skip (.bool rfl rfl rfl hc599) rfl ?_
                                      refine JL.skip (.bool rfl rfl rfl hc599) rfl ?_
                                      refine JL.skip (.bool rfl rfl rfl hc599) rfl ?_
                                      refine JL.skip (.bool rfl rfl rfl hc599) rfl ?_
                                      refine JL.skip (.bool rfl rfl rfl hc599) rfl ?_
                                      refine JL.skip (.bool rfl rfl rfl hc599) rfl ?_
                                      refine JL.skip (.bool rfl rfl rfl hc599) rfl ?_
                                      refine JL.pick_t (b := decide (y586 < y587.Low)) rfl hc599 .none rfl ?_
                                      obtain rfl := Option.some.inj hF
                                      exact hJ598 _ ⟨rfl, rfl, rfl, rfl, rfl, rfl, rfl, rfl, rfl, rfl, rfl, rfl, rfl, rfl, rfl⟩
                                    · skip
                                      refine JL.move (.some rfl rfl rfl hc599) rfl ?_
                                      refine JL.move (.some rfl rfl rfl hc599) rfl ?_
                                      refine JL.move (.some rfl rfl rfl hc599) rfl ?_
                                      obtain ⟨y600, hy600, hF⟩ := bind_some hF
                                      refine JL.indexSL (R := R_Span) sl_27 (SL.mono R_Span_mono (HSub.trans hs48 (HSub.trans hs52 (HSub.trans hs76 hs582))) hy44a_0) rfl hy600 (.some rfl rfl rfl hc599) rfl ?_
                                      rintro b601 o602 cs603 hc604 - rfl
                                      refine JL.fieldAddr fo_38_1 rfl (.some rfl rfl rfl hc599) rfl ?_
                                      refine JL.loadH 1 az_3 rfl hc604 rfl (.some rfl rfl rfl hc599) rfl ?_
                                      refine JL.bin rfl rfl rfl (.some rfl rfl rfl hc599) rfl ?_
                                      refine JL.pick_f (b := decide (y586 < y587.Low)) rfl hc599 .none rfl ?_
                                      obtain rfl := Option.some.inj hF
                                      exact hJ598 _ ⟨rfl, rfl, rfl, rfl, rfl, rfl, rfl, rfl, rfl, rfl, rfl, rfl, rfl, rfl, rfl⟩
                                  · rintro f ⟨hf1, hf3, hf5, hf7, hf8, hf11, hf13, hf14, hf16, hf18, hf19, hf20, hf21, hf22, hf177⟩
                                    refine (JL.norm (i := 1) hf1 (JL.norm (i := 3) hf3 (JL.norm (i := 5) hf5 (JL.norm (i := 7) hf7 (JL.norm (i := 8) hf8 (JL.norm (i := 11) hf11 (JL.norm (i := 13) hf13 (JL.norm (i := 14) hf14 (JL.norm (i := 16) hf16 (JL.norm (i := 18) hf18 (JL.norm (i := 19) hf19 (JL.norm (i := 20) hf20 (JL.norm (i := 21) hf21 (JL.norm (i := 22) hf22 (JL.norm (i := 177) hf177 ?_)))))))))))))))
                                    refine JL.done hQ ?_
                                    refine JQ.go ?_
                                    rcases ite_some hF with ⟨hc605, hF⟩ | ⟨hc605, hF⟩
                                    · refine JC.cond_t (b := p597) rfl hc605 ?_
                                      refine JC.seq ?_
                                      refine JC.region (by rfl) ?_
                                      intro hQ
                                      refine JL.assign .none rfl ?_
                                      refine JL.done hQ ?_
                                      refine JQ.go ?_
                                      refine JC.fresh (fun f => f 6 = .bool false) rfl ?_
                                      rintro f hf6
                                      refine (JC.norm (i := 6) hf6 ?_)
                                      refine JC.ret ?_
                                      refine JQ.ret_then ?_
                                      refine JQ.ret_block ?_
                                      refine JQ.ret_then ?_
                                      refine JQ.ret_then ?_
                                      refine JQ.ret_block ?_
                                      refine JQ.ret_join ?_
                                      refine JQ.ret_then ?_
                                      obtain rfl := Option.some.inj hF
                                      have ehr583 := hr583 _ rfl
                                      subst ehr583
                                      have hF := hKr380
                                      try dsimp only at hF
                                      obtain rfl := Option.some.inj hF
                                      exact JQ.outS rfl (.tmp .nil) rfl
                                    · refine JC.cond_f (b := p597) rfl hc605 ?_
                                      refine JC.skip ?_
                                      refine JQ.go ?_
                                      refine JC.seq ?_
                                      refine JC.seq ?_
                                      refine JC.region (by rfl) ?_
                                      intro hQ
                                      refine JL.move .none rfl ?_
                                      refine JL.move .none rfl ?_
                                      obtain ⟨y606, hy606, hF⟩ := bind_some hF
                                      refine JL.callS (c_law05_in n H582 y47.1 y47a_v0 (SL.mono RInt.mono (HSub.trans hs52 (HSub.trans hs76 hs582)) hy47a_0) r_581 y606 hy606) rfl en_15 .none rfl ?_
                                      refine JL.move .none rfl ?_
                                      obtain ⟨p612, hp612, hF⟩ := bind_some hF
                                      refine JL.cut 6 (fun f => f 1 = class__v0 ∧ f 3 = .pointer (some ⟨b1, 0, none⟩) ∧ f 5 = .pointer (some ⟨b2, 0, none⟩) ∧ f 7 = .pointer (some ⟨b20, 0, none⟩) ∧ f 8 = .pointer (some ⟨b40, 0, none⟩) ∧ f 11 = y44a_v0 ∧ f 13 = y47a_v0 ∧ f 14 = y47b_v0 ∧ f 16 = .int .i64 y50.1 ∧ f 18 = .int .i64 y51.1 ∧ f 19 = y51b_v0 ∧ f 20 = .int .i64 y51.2.2 ∧ f 21 = y75a_v0 ∧ f 22 = .int .i64 r_581 ∧ f 187 = .bool p612) ?_ ?_
                                      · intro hJ613
                                        rcases ite_some hp612 with ⟨hc614, hF⟩ | ⟨hc614, hF⟩
                                        · skip
                                          refine JL.move (.some rfl rfl rfl hc614) rfl ?_
                                          refine JL.move (.some rfl rfl rfl hc614) rfl ?_
                                          obtain ⟨y615, hy615, hF⟩ := bind_some hF
                                          refine JL.indexSL (R := RInt) sl_28 (SL.mono RInt.mono hs582 hy75a_0) rfl hy615 (.some rfl rfl rfl hc614) rfl ?_
                                          rintro b616 o617 cs618 hc619 - rfl
                                          refine JL.loadH 0 az_3 rfl hc619 rfl (.some rfl rfl rfl hc614) rfl ?_
                                          refine JL.bin rfl rfl rfl (.some rfl rfl rfl hc614) rfl ?_
                                          refine JL.pick_t (b := y606) rfl hc614 .none rfl ?_
                                          obtain rfl := Option.some.inj hF
                                          exact hJ613 _ ⟨rfl, rfl, rfl, rfl, rfl, rfl, rfl, rfl, rfl, rfl, rfl, rfl, rfl, rfl, rfl⟩
                                        · skip
                                          refine JL.skip (.bool rfl rfl rfl hc614) rfl ?_
                                          refine JL.skip (.bool rfl rfl rfl hc614) rfl ?_
                                          refine JL.skip (.bool rfl rfl rfl hc614) rfl ?_
                                          refine JL.skip (.bool rfl rfl rfl hc614) rfl ?_
                                          refine JL.skip (.bool rfl rfl rfl hc614) rfl ?_
                                          refine JL.pick_f (b := y606) rfl hc614 .none rfl ?_
                                          obtain rfl := Option.some.inj hF
                                          exact hJ613 _ ⟨rfl, rfl, rfl, rfl, rfl, rfl, rfl, rfl, rfl, rfl, rfl, rfl, rfl, rfl, rfl⟩
                                      · rintro f ⟨hf1, hf3, hf5, hf7, hf8, hf11, hf13, hf14, hf16, hf18, hf19, hf20, hf21, hf22, hf187⟩
                                        refine (JL.norm (i := 1) hf1 (JL.norm (i := 3) hf3 (JL.norm (i := 5) hf5 (JL.norm (i := 7) hf7 (JL.norm (i := 8) hf8 (JL.norm (i := 11) hf11 (JL.norm (i := 13) hf13 (JL.norm (i := 14) hf14 (JL.norm (i := 16) hf16 (JL.norm (i := 18) hf18 (JL.norm (i := 19) hf19 (JL.norm (i := 20) hf20 (JL.norm (i := 21) hf21 (JL.norm (i := 22) hf22 (JL.norm (i := 187) hf187 ?_)))))))))))))))
                                        refine JL.move .none rfl ?_
                                        obtain ⟨p630, hp630, hF⟩ := bind_some hF
                                        refine JL.cut 12 (fun f => f 1 = class__v0 ∧ f 3 = .pointer (some ⟨b1, 0, none⟩) ∧ f 5 = .pointer (some ⟨b2, 0, none⟩) ∧ f 7 = .pointer (some ⟨b20, 0, none⟩) ∧ f 8 = .pointer (some ⟨b40, 0, none⟩) ∧ f 11 = y44a_v0 ∧ f 13 = y47a_v0 ∧ f 14 = y47b_v0 ∧ f 16 = .int .i64 y50.1 ∧ f 18 = .int .i64 y51.1 ∧ f 19 = y51b_v0 ∧ f 20 = .int .i64 y51.2.2 ∧ f 21 = y75a_v0 ∧ f 22 = .int .i64 r_581 ∧ f 200 = .bool p630) ?_ ?_
                                        · intro hJ631
                                          rcases ite_some hp630 with ⟨hc632, hF⟩ | ⟨hc632, hF⟩
                                          · skip
                                            refine JL.skip (.bool rfl rfl rfl hc632) rfl ?_
                                            refine JL.skip (.bool rfl rfl rfl hc632) rfl ?_
                                            refine JL.skip (.bool rfl rfl rfl hc632) rfl ?_
                                            refine JL.skip (.bool rfl rfl rfl hc632) rfl ?_
                                            refine JL.skip (.bool rfl rfl rfl hc632) rfl ?_
                                            refine JL.skip (.bool rfl rfl rfl hc632) rfl ?_
                                            refine JL.skip (.no rfl rfl rfl) rfl ?_
                                            refine JL.skip (.no rfl rfl rfl) rfl ?_
                                            refine JL.skip (.no rfl rfl rfl) rfl ?_
                                            refine JL.skip (.no rfl rfl rfl) rfl ?_
                                            refine JL.skip (.bool rfl rfl rfl hc632) rfl ?_
                                            refine JL.pick_t (b := p612) rfl hc632 .none rfl ?_
                                            obtain rfl := Option.some.inj hF
                                            exact hJ631 _ ⟨rfl, rfl, rfl, rfl, rfl, rfl, rfl, rfl, rfl, rfl, rfl, rfl, rfl, rfl, rfl⟩
                                          · skip
                                            refine JL.move (.some rfl rfl rfl hc632) rfl ?_
                                            refine JL.move (.some rfl rfl rfl hc632) rfl ?_
                                            obtain ⟨y633, hy633, hF⟩ := bind_some hF
                                            refine JL.indexSL (R := RInt) sl_28 (SL.mono RInt.mono hs582 hy75a_0) rfl hy633 (.some rfl rfl rfl hc632) rfl ?_
                                            rintro b634 o635 cs636 hc637 - rfl
                                            refine JL.loadH 0 az_3 rfl hc637 rfl (.some rfl rfl rfl hc632) rfl ?_
                                            refine JL.bin rfl rfl rfl (.some rfl rfl rfl hc632) rfl ?_
                                            refine JL.move (.some rfl rfl rfl hc632) rfl ?_
                                            obtain ⟨p639, hp639, hF⟩ := bind_some hF
                                            refine JL.cut 5 (fun f => f 1 = class__v0 ∧ f 3 = .pointer (some ⟨b1, 0, none⟩) ∧ f 5 = .pointer (some ⟨b2, 0, none⟩) ∧ f 7 = .pointer (some ⟨b20, 0, none⟩) ∧ f 8 = .pointer (some ⟨b40, 0, none⟩) ∧ f 11 = y44a_v0 ∧ f 13 = y47a_v0 ∧ f 14 = y47b_v0 ∧ f 16 = .int .i64 y50.1 ∧ f 18 = .int .i64 y51.1 ∧ f 19 = y51b_v0 ∧ f 20 = .int .i64 y51.2.2 ∧ f 21 = y75a_v0 ∧ f 22 = .int .i64 r_581 ∧ f 188 = .bool p612 ∧ f 189 = y75a_v0 ∧ f 190 = .int .i64 r_581 ∧ f 191 = .pointer (some ⟨b634, o635, none⟩) ∧ f 192 = .int .i64 y633 ∧ f 193 = .bool (decide (0 < y633)) ∧ f 194 = .bool (decide (0 < y633)) ∧ f 199 = .bool p639) ?_ ?_
                                            · intro hJ640
                                              rcases ite_some hp639 with ⟨hc641, hF⟩ | ⟨hc641, hF⟩
                                              · skip
                                                refine JL.move (.some rfl rfl rfl hc641) rfl ?_
                                                refine JL.move (.some rfl rfl rfl hc641) rfl ?_
                                                obtain ⟨y642, hy642, hF⟩ := bind_some hF
                                                refine JL.callS (c_law05_in n H582 y47.2.1 y47b_v0 (SL.mono RInt.mono (HSub.trans hs52 (HSub.trans hs76 hs582)) hy47b_0) r_581 y642 hy642) rfl en_15 (.some rfl rfl rfl hc641) rfl ?_
                                                refine JL.not rfl (.some rfl rfl rfl hc641) rfl ?_
                                                refine JL.pick_t (b := decide (0 < y633)) rfl hc641 (.some rfl rfl rfl hc632) rfl ?_
                                                obtain rfl := Option.some.inj hF
                                                exact hJ640 _ ⟨rfl, rfl, rfl, rfl, rfl, rfl, rfl, rfl, rfl, rfl, rfl, rfl, rfl, rfl, rfl, rfl, rfl, rfl, rfl, rfl, rfl, rfl⟩
                                              · skip
                                                refine JL.skip (.bool rfl rfl rfl hc641) rfl ?_
                                                refine JL.skip (.bool rfl rfl rfl hc641) rfl ?_
                                                refine JL.skip (.bool rfl rfl rfl hc641) rfl ?_
                                                refine JL.skip (.bool rfl rfl rfl hc641) rfl ?_
                                                refine JL.pick_f (b := decide (0 < y633)) rfl hc641 (.some rfl rfl rfl hc632) rfl ?_
                                                obtain rfl := Option.some.inj hF
                                                exact hJ640 _ ⟨rfl, rfl, rfl, rfl, rfl, rfl, rfl, rfl, rfl, rfl, rfl, rfl, rfl, rfl, rfl, rfl, rfl, rfl, rfl, rfl, rfl, rfl⟩
                                            · rintro f ⟨hf1, hf3, hf5, hf7, hf8, hf11, hf13, hf14, hf16, hf18, hf19, hf20, hf21, hf22, hf188, hf189, hf190, hf191, hf192, hf193, hf194, hf199⟩
                                              refine (JL.norm (i := 1) hf1 (JL.norm (i := 3) hf3 (JL.norm (i := 5) hf5 (JL.norm (i := 7) hf7 (JL.norm (i := 8) hf8 (JL.norm (i := 11) hf11 (JL.norm (i := 13) hf13 (JL.norm (i := 14) hf14 (JL.norm (i := 16) hf16 (JL.norm (i := 18) hf18 (JL.norm (i := 19) hf19 (JL.norm (i := 20) hf20 (JL.norm (i := 21) hf21 (JL.norm (i := 22) hf22 (JL.norm (i := 188) hf188 (JL.norm (i := 189) hf189 (JL.norm (i := 190) hf190 (JL.norm (i := 191) hf191 (JL.norm (i := 192) hf192 (JL.norm (i := 193) hf193 (JL.norm (i := 194) hf194 (JL.norm (i := 199) hf199 ?_))))))))))))))))))))))
                                              refine JL.pick_f (b := p612) rfl hc632 .none rfl ?_
                                              obtain rfl := Option.some.inj hF
                                              exact hJ631 _ ⟨rfl, rfl, rfl, rfl, rfl, rfl, rfl, rfl, rfl, rfl, rfl, rfl, rfl, rfl, rfl⟩
                                        · rintro f ⟨hf1, hf3, hf5, hf7, hf8, hf11, hf13, hf14, hf16, hf18, hf19, hf20, hf21, hf22, hf200⟩
                                          refine (JL.norm (i := 1) hf1 (JL.norm (i := 3) hf3 (JL.norm (i := 5) hf5 (JL.norm (i := 7) hf7 (JL.norm (i := 8) hf8 (JL.norm (i := 11) hf11 (JL.norm (i := 13) hf13 (JL.norm (i := 14) hf14 (JL.norm (i := 16) hf16 (JL.norm (i := 18) hf18 (JL.norm (i := 19) hf19 (JL.norm (i := 20) hf20 (JL.norm (i := 21) hf21 (JL.norm (i := 22) hf22 (JL.norm (i := 200) hf200 ?_)))))))))))))))
                                          refine JL.done hQ ?_
                                          refine JQ.go ?_
                                          rcases ite_some hF with ⟨hc643, hF⟩ | ⟨hc643, hF⟩
                                          · refine JC.cond_t (b := p630) rfl hc643 ?_
                                            refine JC.seq ?_
                                            refine JC.region (by rfl) ?_
                                            intro hQ
                                            refine JL.assign .none rfl ?_
                                            refine JL.done hQ ?_
                                            refine JQ.go ?_
                                            refine JC.fresh (fun f => f 6 = .bool false) rfl ?_
                                            rintro f hf6
                                            refine (JC.norm (i := 6) hf6 ?_)
                                            refine JC.ret ?_
                                            refine JQ.ret_then ?_
                                            refine JQ.ret_block ?_
                                            refine JQ.ret_then ?_
                                            refine JQ.ret_then ?_
                                            refine JQ.ret_block ?_
                                            refine JQ.ret_join ?_
                                            refine JQ.ret_then ?_
                                            obtain rfl := Option.some.inj hF
                                            have ehr583 := hr583 _ rfl
                                            subst ehr583
                                            have hF := hKr380
                                            try dsimp only at hF
                                            obtain rfl := Option.some.inj hF
                                            exact JQ.outS rfl (.tmp .nil) rfl
                                          · refine JC.cond_f (b := p630) rfl hc643 ?_
                                            refine JC.skip ?_
                                            refine JQ.go ?_
                                            refine JC.seq ?_
                                            refine JC.region (by rfl) ?_
                                            intro hQ
                                            refine JL.move .none rfl ?_
                                            refine JL.move .none rfl ?_
                                            obtain ⟨y644, hy644, hF⟩ := bind_some hF
                                            refine JL.indexSL (R := RInt) sl_28 (SL.mono RInt.mono hs582 hy75a_0) rfl hy644 .none rfl ?_
                                            rintro b645 o646 cs647 hc648 - rfl
                                            refine JL.loadH 0 az_3 rfl hc648 rfl .none rfl ?_
                                            refine JL.bin rfl rfl rfl .none rfl ?_
                                            refine JL.move .none rfl ?_
                                            obtain ⟨p664, hp664, hF⟩ := bind_some hF
                                            refine JL.cut 21 (fun f => f 1 = class__v0 ∧ f 3 = .pointer (some ⟨b1, 0, none⟩) ∧ f 5 = .pointer (some ⟨b2, 0, none⟩) ∧ f 7 = .pointer (some ⟨b20, 0, none⟩) ∧ f 8 = .pointer (some ⟨b40, 0, none⟩) ∧ f 11 = y44a_v0 ∧ f 13 = y47a_v0 ∧ f 14 = y47b_v0 ∧ f 16 = .int .i64 y50.1 ∧ f 18 = .int .i64 y51.1 ∧ f 19 = y51b_v0 ∧ f 20 = .int .i64 y51.2.2 ∧ f 21 = y75a_v0 ∧ f 22 = .int .i64 r_581 ∧ f 227 = .bool p664) ?_ ?_
                                            · intro hJ665
                                              rcases ite_some hp664 with ⟨hc666, hF⟩ | ⟨hc666, hF⟩
                                              · skip
                                                refine JL.move (.some rfl rfl rfl hc666) rfl ?_
                                                refine JL.bin rfl rfl rfl (.some rfl rfl rfl hc666) rfl ?_
                                                refine JL.move (.some rfl rfl rfl hc666) rfl ?_
                                                refine JL.cut 5 (fun f => f 1 = class__v0 ∧ f 3 = .pointer (some ⟨b1, 0, none⟩) ∧ f 5 = .pointer (some ⟨b2, 0, none⟩) ∧ f 7 = .pointer (some ⟨b20, 0, none⟩) ∧ f 8 = .pointer (some ⟨b40, 0, none⟩) ∧ f 11 = y44a_v0 ∧ f 13 = y47a_v0 ∧ f 14 = y47b_v0 ∧ f 16 = .int .i64 y50.1 ∧ f 18 = .int .i64 y51.1 ∧ f 19 = y51b_v0 ∧ f 20 = .int .i64 y51.2.2 ∧ f 21 = y75a_v0 ∧ f 22 = .int .i64 r_581 ∧ f 206 = .bool (y644 == 1) ∧ f 207 = .int .i64 y51.2.2 ∧ f 208 = .bool (y51.2.2 != 0) ∧ f 209 = .bool (y51.2.2 != 0) ∧ f 214 = .bool ((y51.2.2 != 0) || (decide (x_.Gust < y51.1)))) ?_ ?_
                                                · intro hJ667
                                                  rcases bcases (y51.2.2 != 0) with hc668 | hc668
                                                  · skip
                                                    refine JL.skip (.bool rfl rfl rfl hc668) rfl ?_
                                                    refine JL.skip (.bool rfl rfl rfl hc668) rfl ?_
                                                    refine JL.skip (.bool rfl rfl rfl hc668) rfl ?_
                                                    refine JL.skip (.bool rfl rfl rfl hc668) rfl ?_
                                                    refine JL.pick_t (b := (y51.2.2 != 0)) rfl hc668 (.some rfl rfl rfl hc666) rfl ?_
                                                    exact hJ667 _ ⟨rfl, rfl, rfl, rfl, rfl, rfl, rfl, rfl, rfl, rfl, rfl, rfl, rfl, rfl, rfl, rfl, rfl, rfl, or_t hc668 rfl⟩
                                                  · skip
                                                    refine JL.move (.some rfl rfl rfl hc668) rfl ?_
                                                    refine JL.fieldAddr fo_74_2 rfl (.some rfl rfl rfl hc668) rfl ?_
                                                    refine JL.loadOwn 2 az_3 rfl rfl rfl (.some rfl rfl rfl hc668) rfl ?_
                                                    refine JL.bin rfl rfl rfl (.some rfl rfl rfl hc668) rfl ?_
                                                    refine JL.pick_f (b := (y51.2.2 != 0)) rfl hc668 (.some rfl rfl rfl hc666) rfl ?_
                                                    exact hJ667 _ ⟨rfl, rfl, rfl, rfl, rfl, rfl, rfl, rfl, rfl, rfl, rfl, rfl, rfl, rfl, rfl, rfl, rfl, rfl, or_f hc668 rfl⟩
                                                · rintro f ⟨hf1, hf3, hf5, hf7, hf8, hf11, hf13, hf14, hf16, hf18, hf19, hf20, hf21, hf22, hf206, hf207, hf208, hf209, hf214⟩
                                                  refine (JL.norm (i := 1) hf1 (JL.norm (i := 3) hf3 (JL.norm (i := 5) hf5 (JL.norm (i := 7) hf7 (JL.norm (i := 8) hf8 (JL.norm (i := 11) hf11 (JL.norm (i := 13) hf13 (JL.norm (i := 14) hf14 (JL.norm (i := 16) hf16 (JL.norm (i := 18) hf18 (JL.norm (i := 19) hf19 (JL.norm (i := 20) hf20 (JL.norm (i := 21) hf21 (JL.norm (i := 22) hf22 (JL.norm (i := 206) hf206 (JL.norm (i := 207) hf207 (JL.norm (i := 208) hf208 (JL.norm (i := 209) hf209 (JL.norm (i := 214) hf214 ?_)))))))))))))))))))
                                                  refine JL.move (.some rfl rfl rfl hc666) rfl ?_
                                                  obtain ⟨p674, hp674, hF⟩ := bind_some hF
                                                  refine JL.cut 11 (fun f => f 1 = class__v0 ∧ f 3 = .pointer (some ⟨b1, 0, none⟩) ∧ f 5 = .pointer (some ⟨b2, 0, none⟩) ∧ f 7 = .pointer (some ⟨b20, 0, none⟩) ∧ f 8 = .pointer (some ⟨b40, 0, none⟩) ∧ f 11 = y44a_v0 ∧ f 13 = y47a_v0 ∧ f 14 = y47b_v0 ∧ f 16 = .int .i64 y50.1 ∧ f 18 = .int .i64 y51.1 ∧ f 19 = y51b_v0 ∧ f 20 = .int .i64 y51.2.2 ∧ f 21 = y75a_v0 ∧ f 22 = .int .i64 r_581 ∧ f 206 = .bool (y644 == 1) ∧ f 207 = .int .i64 y51.2.2 ∧ f 208 = .bool (y51.2.2 != 0) ∧ f 209 = .bool (y51.2.2 != 0) ∧ f 214 = .bool ((y51.2.2 != 0) || (decide (x_.Gust < y51.1))) ∧ f 215 = .bool ((y51.2.2 != 0) || (decide (x_.Gust < y51.1))) ∧ f 226 = .bool p674) ?_ ?_
                                                  · intro hJ675
                                                    rcases ite_some hp674 with ⟨hc676, hF⟩ | ⟨hc676, hF⟩
                                                    · skip
                                                      refine JL.skip (.bool rfl rfl rfl hc676) rfl ?_
                                                      refine JL.skip (.bool rfl rfl rfl hc676) rfl ?_
                                                      refine JL.skip (.bool rfl rfl rfl hc676) rfl ?_
                                                      refine JL.skip (.bool rfl rfl rfl hc676) rfl ?_
                                                      refine JL.skip (.bool rfl rfl rfl hc676) rfl ?_
                                                      refine JL.skip (.no rfl rfl rfl) rfl ?_
                                                      refine JL.skip (.no rfl rfl rfl) rfl ?_
                                                      refine JL.skip (.no rfl rfl rfl) rfl ?_
                                                      refine JL.skip (.no rfl rfl rfl) rfl ?_
                                                      refine JL.skip (.bool rfl rfl rfl hc676) rfl ?_
                                                      refine JL.pick_t (b := ((y51.2.2 != 0) || (decide (x_.Gust < y51.1)))) rfl hc676 (.some rfl rfl rfl hc666) rfl ?_
                                                      obtain rfl := Option.some.inj hF
                                                      exact hJ675 _ ⟨rfl, rfl, rfl, rfl, rfl, rfl, rfl, rfl, rfl, rfl, rfl, rfl, rfl, rfl, rfl, rfl, rfl, rfl, rfl, rfl, rfl⟩
                                                    · skip
                                                      refine JL.move (.some rfl rfl rfl hc676) rfl ?_
                                                      refine JL.fieldAddr fo_74_2 rfl (.some rfl rfl rfl hc676) rfl ?_
                                                      refine JL.loadOwn 2 az_3 rfl rfl rfl (.some rfl rfl rfl hc676) rfl ?_
                                                      refine JL.bin rfl rfl rfl (.some rfl rfl rfl hc676) rfl ?_
                                                      refine JL.move (.some rfl rfl rfl hc676) rfl ?_
                                                      obtain ⟨p678, hp678, hF⟩ := bind_some hF
                                                      refine JL.cut 5 (fun f => f 1 = class__v0 ∧ f 3 = .pointer (some ⟨b1, 0, none⟩) ∧ f 5 = .pointer (some ⟨b2, 0, none⟩) ∧ f 7 = .pointer (some ⟨b20, 0, none⟩) ∧ f 8 = .pointer (some ⟨b40, 0, none⟩) ∧ f 11 = y44a_v0 ∧ f 13 = y47a_v0 ∧ f 14 = y47b_v0 ∧ f 16 = .int .i64 y50.1 ∧ f 18 = .int .i64 y51.1 ∧ f 19 = y51b_v0 ∧ f 20 = .int .i64 y51.2.2 ∧ f 21 = y75a_v0 ∧ f 22 = .int .i64 r_581 ∧ f 206 = .bool (y644 == 1) ∧ f 207 = .int .i64 y51.2.2 ∧ f 208 = .bool (y51.2.2 != 0) ∧ f 209 = .bool (y51.2.2 != 0) ∧ f 214 = .bool ((y51.2.2 != 0) || (decide (x_.Gust < y51.1))) ∧ f 215 = .bool ((y51.2.2 != 0) || (decide (x_.Gust < y51.1))) ∧ f 216 = .int .i64 y51.1 ∧ f 217 = .pointer (some ⟨b2, 3, none⟩) ∧ f 218 = .int .i64 x_.Gust ∧ f 219 = .bool (y51.1 == x_.Gust) ∧ f 220 = .bool (y51.1 == x_.Gust) ∧ f 225 = .bool p678) ?_ ?_
                                                      · intro hJ679
                                                        rcases ite_some hp678 with ⟨hc680, hF⟩ | ⟨hc680, hF⟩
                                                        · skip
                                                          refine JL.move (.some rfl rfl rfl hc680) rfl ?_
                                                          refine JL.move (.some rfl rfl rfl hc680) rfl ?_
                                                          obtain ⟨y681, hy681, hF⟩ := bind_some hF
                                                          refine JL.callS (c_law05_in n H582 y51.2.1 y51b_v0 (SL.mono RInt.mono (HSub.trans hs76 hs582) hy51b_0) r_581 y681 hy681) rfl en_15 (.some rfl rfl rfl hc680) rfl ?_
                                                          refine JL.not rfl (.some rfl rfl rfl hc680) rfl ?_
                                                          refine JL.pick_t (b := (y51.1 == x_.Gust)) rfl hc680 (.some rfl rfl rfl hc676) rfl ?_
                                                          obtain rfl := Option.some.inj hF
                                                          exact hJ679 _ ⟨rfl, rfl, rfl, rfl, rfl, rfl, rfl, rfl, rfl, rfl, rfl, rfl, rfl, rfl, rfl, rfl, rfl, rfl, rfl, rfl, rfl, rfl, rfl, rfl, rfl, rfl⟩
                                                        · skip
                                                          refine JL.skip (.bool rfl rfl rfl hc680) rfl ?_
                                                          refine JL.skip (.bool rfl rfl rfl hc680) rfl ?_
                                                          refine JL.skip (.bool rfl rfl rfl hc680) rfl ?_
                                                          refine JL.skip (.bool rfl rfl rfl hc680) rfl ?_
                                                          refine JL.pick_f (b := (y51.1 == x_.Gust)) rfl hc680 (.some rfl rfl rfl hc676) rfl ?_
                                                          obtain rfl := Option.some.inj hF
                                                          exact hJ679 _ ⟨rfl, rfl, rfl, rfl, rfl, rfl, rfl, rfl, rfl, rfl, rfl, rfl, rfl, rfl, rfl, rfl, rfl, rfl, rfl, rfl, rfl, rfl, rfl, rfl, rfl, rfl⟩
                                                      · rintro f ⟨hf1, hf3, hf5, hf7, hf8, hf11, hf13, hf14, hf16, hf18, hf19, hf20, hf21, hf22, hf206, hf207, hf208, hf209, hf214, hf215, hf216, hf217, hf218, hf219, hf220, hf225⟩
                                                        refine (JL.norm (i := 1) hf1 (JL.norm (i := 3) hf3 (JL.norm (i := 5) hf5 (JL.norm (i := 7) hf7 (JL.norm (i := 8) hf8 (JL.norm (i := 11) hf11 (JL.norm (i := 13) hf13 (JL.norm (i := 14) hf14 (JL.norm (i := 16) hf16 (JL.norm (i := 18) hf18 (JL.norm (i := 19) hf19 (JL.norm (i := 20) hf20 (JL.norm (i := 21) hf21 (JL.norm (i := 22) hf22 (JL.norm (i := 206) hf206 (JL.norm (i := 207) hf207 (JL.norm (i := 208) hf208 (JL.norm (i := 209) hf209 (JL.norm (i := 214) hf214 (JL.norm (i := 215) hf215 (JL.norm (i := 216) hf216 (JL.norm (i := 217) hf217 (JL.norm (i := 218) hf218 (JL.norm (i := 219) hf219 (JL.norm (i := 220) hf220 (JL.norm (i := 225) hf225 ?_))))))))))))))))))))))))))
                                                        refine JL.pick_f (b := ((y51.2.2 != 0) || (decide (x_.Gust < y51.1)))) rfl hc676 (.some rfl rfl rfl hc666) rfl ?_
                                                        obtain rfl := Option.some.inj hF
                                                        exact hJ675 _ ⟨rfl, rfl, rfl, rfl, rfl, rfl, rfl, rfl, rfl, rfl, rfl, rfl, rfl, rfl, rfl, rfl, rfl, rfl, rfl, rfl, rfl⟩
                                                  · rintro f ⟨hf1, hf3, hf5, hf7, hf8, hf11, hf13, hf14, hf16, hf18, hf19, hf20, hf21, hf22, hf206, hf207, hf208, hf209, hf214, hf215, hf226⟩
                                                    refine (JL.norm (i := 1) hf1 (JL.norm (i := 3) hf3 (JL.norm (i := 5) hf5 (JL.norm (i := 7) hf7 (JL.norm (i := 8) hf8 (JL.norm (i := 11) hf11 (JL.norm (i := 13) hf13 (JL.norm (i := 14) hf14 (JL.norm (i := 16) hf16 (JL.norm (i := 18) hf18 (JL.norm (i := 19) hf19 (JL.norm (i := 20) hf20 (JL.norm (i := 21) hf21 (JL.norm (i := 22) hf22 (JL.norm (i := 206) hf206 (JL.norm (i := 207) hf207 (JL.norm (i := 208) hf208 (JL.norm (i := 209) hf209 (JL.norm (i := 214) hf214 (JL.norm (i := 215) hf215 (JL.norm (i := 226) hf226 ?_)))))))))))))))))))))
                                                    refine JL.pick_t (b := (y644 == 1)) rfl hc666 .none rfl ?_
                                                    obtain rfl := Option.some.inj hF
                                                    exact hJ665 _ ⟨rfl, rfl, rfl, rfl, rfl, rfl, rfl, rfl, rfl, rfl, rfl, rfl, rfl, rfl, rfl⟩
                                              · skip
                                                refine JL.skip (.bool rfl rfl rfl hc666) rfl ?_
                                                refine JL.skip (.bool rfl rfl rfl hc666) rfl ?_
                                                refine JL.skip (.bool rfl rfl rfl hc666) rfl ?_
                                                refine JL.skip (.no rfl rfl rfl) rfl ?_
                                                refine JL.skip (.no rfl rfl rfl) rfl ?_
                                                refine JL.skip (.no rfl rfl rfl) rfl ?_
                                                refine JL.skip (.no rfl rfl rfl) rfl ?_
                                                refine JL.skip (.bool rfl rfl rfl hc666) rfl ?_
                                                refine JL.skip (.bool rfl rfl rfl hc666) rfl ?_
                                                refine JL.skip (.no rfl rfl rfl) rfl ?_
                                                refine JL.skip (.no rfl rfl rfl) rfl ?_
                                                refine JL.skip (.no rfl rfl rfl) rfl ?_
                                                refine JL.skip (.no rfl rfl rfl) rfl ?_
                                                refine JL.skip (.no rfl rfl rfl) rfl ?_
                                                refine JL.skip (.no rfl rfl rfl) rfl ?_
                                                refine JL.skip (.no rfl rfl rfl) rfl ?_
                                                refine JL.skip (.no rfl rfl rfl) rfl ?_
                                                refine JL.skip (.no rfl rfl rfl) rfl ?_
                                                refine JL.skip (.no rfl rfl rfl) rfl ?_
                                                refine JL.skip (.bool rfl rfl rfl hc666) rfl ?_
                                                refine JL.pick_f (b := (y644 == 1)) rfl hc666 .none rfl ?_
                                                obtain rfl := Option.some.inj hF
                                                exact hJ665 _ ⟨rfl, rfl, rfl, rfl, rfl, rfl, rfl, rfl, rfl, rfl, rfl, rfl, rfl, rfl, rfl⟩
                                            · rintro f ⟨hf1, hf3, hf5, hf7, hf8, hf11, hf13, hf14, hf16, hf18, hf19, hf20, hf21, hf22, hf227⟩
                                              refine (JL.norm (i := 1) hf1 (JL.norm (i := 3) hf3 (JL.norm (i := 5) hf5 (JL.norm (i := 7) hf7 (JL.norm (i := 8) hf8 (JL.norm (i := 11) hf11 (JL.norm (i := 13) hf13 (JL.norm (i := 14) hf14 (JL.norm (i := 16) hf16 (JL.norm (i := 18) hf18 (JL.norm (i := 19) hf19 (JL.norm (i := 20) hf20 (JL.norm (i := 21) hf21 (JL.norm (i := 22) hf22 (JL.norm (i := 227) hf227 ?_)))))))))))))))
                                              refine JL.done hQ ?_
                                              refine JQ.go ?_
                                              rcases ite_some hF with ⟨hc682, hF⟩ | ⟨hc682, hF⟩
                                              · refine JC.cond_t (b := p664) rfl hc682 ?_
                                                refine JC.seq ?_
                                                refine JC.region (by rfl) ?_
                                                intro hQ
                                                refine JL.assign .none rfl ?_
                                                refine JL.done hQ ?_
                                                refine JQ.go ?_
                                                refine JC.fresh (fun f => f 6 = .bool false) rfl ?_
                                                rintro f hf6
                                                refine (JC.norm (i := 6) hf6 ?_)
                                                refine JC.ret ?_
                                                refine JQ.ret_block ?_
                                                refine JQ.ret_then ?_
                                                refine JQ.ret_then ?_
                                                refine JQ.ret_block ?_
                                                refine JQ.ret_join ?_
                                                refine JQ.ret_then ?_
                                                obtain rfl := Option.some.inj hF
                                                have ehr583 := hr583 _ rfl
                                                subst ehr583
                                                have hF := hKr380
                                                try dsimp only at hF
                                                obtain rfl := Option.some.inj hF
                                                exact JQ.outS rfl (.tmp .nil) rfl
                                              · refine JC.cond_f (b := p664) rfl hc682 ?_
                                                refine JC.skip ?_
                                                refine JQ.normal_block ?_
                                                refine JQ.go ?_
                                                refine JC.region (by rfl) ?_
                                                intro hQ
                                                refine JL.move .none rfl ?_
                                                refine JL.bin rfl rfl rfl .none rfl ?_
                                                refine JL.assign .none rfl ?_
                                                refine JL.done hQ ?_
                                                obtain rfl := Option.some.inj hF
                                                exact JQ.next rfl ⟨rfl, rfl, rfl, rfl, rfl, rfl, rfl, rfl, rfl, rfl, rfl, rfl, rfl, rfl, rfl, rfl, hs582⟩
                                · refine JC.cond_f (b := decide (r_581 < (y75.length : Int))) rfl hc585 ?_
                                  refine JC.exit ?_
                                  refine JQ.exit_then ?_
                                  refine JQ.exit_then ?_
                                  refine JQ.exit_block ?_
                                  obtain rfl := Option.some.inj hF
                                  have ehr583 := hr583 _ rfl
                                  subst ehr583
                                  refine JQ.mask [true, false, false, true] [] ?_
                                  exact JQ.join () ⟨rfl, rfl, rfl, rfl, rfl, rfl, hs582, rfl⟩
                              · rintro _ H379 f bs gs ⟨hf1, hf3, hf8, hf16, rfl, rfl, hs379, rfl⟩
                                have hF := hKr380
                                try dsimp only at hF
                                refine (JQ.norm (i := 1) hf1 (JQ.norm (i := 3) hf3 (JQ.norm (i := 8) hf8 (JQ.norm (i := 16) hf16 ?_))))
                                refine JQ.go ?_
                                refine JC.seq ?_
                                refine JC.region (by rfl) ?_
                                intro hQ
                                refine JL.loadOwn 1 az_30 rfl rfl rfl .none rfl ?_
                                refine JL.move .none rfl ?_
                                refine JL.loadOwn 0 az_78 rfl rfl rfl .none rfl ?_
                                obtain ⟨y683, hy683, hF⟩ := bind_some hF
                                refine JL.callS (c_ref05_StandsIn n H379 d (.slice a28 d.Frame.Sections.length c29) (SL.mono R_Section_mono (HSub.trans hs41 (HSub.trans hs45 (HSub.trans hs48 (HSub.trans hs52 (HSub.trans hs76 hs379))))) hd_0) (.slice a31 d.Ribs.length c32) (SL.mono R_Span_mono (HSub.trans hs41 (HSub.trans hs45 (HSub.trans hs48 (HSub.trans hs52 (HSub.trans hs76 hs379))))) hd_7) (.slice a34 d.Shares.length c35) (SL.mono RInt.mono (HSub.trans hs41 (HSub.trans hs45 (HSub.trans hs48 (HSub.trans hs52 (HSub.trans hs76 hs379))))) hd_8) class_ class__v0 (SL.mono R_Gust_mono (HSub.trans hs41 (HSub.trans hs45 (HSub.trans hs48 (HSub.trans hs52 (HSub.trans hs76 hs379))))) hclass__0) (ref05_Truth.mk y37 x_.Strengths) (.slice a25 x_.Strengths.length c26) (SL.mono RInt.mono (HSub.trans hs41 (HSub.trans hs45 (HSub.trans hs48 (HSub.trans hs52 (HSub.trans hs76 hs379))))) hx__2) y683 hy683) rfl en_40 .none rfl ?_
                                refine JL.assign .none rfl ?_
                                refine JL.done hQ ?_
                                refine JQ.go ?_
                                refine JC.seq ?_
                                refine JC.seq ?_
                                refine JC.region (by rfl) ?_
                                intro hQ
                                refine JL.move .none rfl ?_
                                refine JL.done hQ ?_
                                refine JQ.go ?_
                                refine JC.block ?_
                                refine JC.seq ?_
                                refine JC.region (by rfl) ?_
                                intro hQ
                                refine JL.bin rfl rfl rfl .none rfl ?_
                                refine JL.assign .none rfl ?_
                                refine JL.done hQ ?_
                                refine JQ.go ?_
                                rcases ite_some hF with ⟨hc684, hF⟩ | ⟨hc684, hF⟩
                                · refine JC.cond_t (b := (y50.1 == 1)) rfl hc684 ?_
                                  refine JC.seq ?_
                                  refine JC.region (by rfl) ?_
                                  intro hQ
                                  refine JL.move .none rfl ?_
                                  refine JL.move .none rfl ?_
                                  obtain ⟨p686, hp686, hF⟩ := bind_some hF
                                  refine JL.cut 2 (fun f => f 238 = .bool p686) ?_ ?_
                                  · intro hJ687
                                    rcases ite_some hp686 with ⟨hc688, hF⟩ | ⟨hc688, hF⟩
                                    · skip
                                      obtain ⟨y689, hy689, hF⟩ := bind_some hF
                                      refine JL.callS (c_law05_works n H379 y689 hy689) rfl en_12 (.some rfl rfl rfl hc688) rfl ?_
                                      refine JL.pick_t (b := y683) rfl hc688 .none rfl ?_
                                      obtain rfl := Option.some.inj hF
                                      exact hJ687 _ (rfl)
                                    · skip
                                      refine JL.skip (.bool rfl rfl rfl hc688) rfl ?_
                                      refine JL.pick_f (b := y683) rfl hc688 .none rfl ?_
                                      obtain rfl := Option.some.inj hF
                                      exact hJ687 _ (rfl)
                                  · rintro f hf238
                                    refine (JL.norm (i := 238) hf238 ?_)
                                    refine JL.assign .none rfl ?_
                                    refine JL.done hQ ?_
                                    refine JQ.go ?_
                                    refine JC.ret ?_
                                    refine JQ.ret_block ?_
                                    refine JQ.ret_then ?_
                                    obtain rfl := Option.some.inj hF
                                    exact JQ.outS rfl (.tmp .nil) rfl
                                · refine JC.cond_f (b := (y50.1 == 1)) rfl hc684 ?_
                                  refine JC.seq ?_
                                  refine JC.region (by rfl) ?_
                                  intro hQ
                                  refine JL.bin rfl rfl rfl .none rfl ?_
                                  refine JL.assign .none rfl ?_
                                  refine JL.done hQ ?_
                                  refine JQ.go ?_
                                  refine JC.fresh (fun f => f 16 = .int .i64 y50.1 ∧ f 24 = .bool y683 ∧ f 239 = .bool (y50.1 == 2)) ⟨rfl, rfl, rfl⟩ ?_
                                  rintro f ⟨hf16, hf24, hf239⟩
                                  refine (JC.norm (i := 16) hf16 (JC.norm (i := 24) hf24 (JC.norm (i := 239) hf239 ?_)))
                                  rcases ite_some hF with ⟨hc690, hF⟩ | ⟨hc690, hF⟩
                                  · refine JC.cond_t (b := (y50.1 == 2)) rfl hc690 ?_
                                    refine JC.seq ?_
                                    refine JC.region (by rfl) ?_
                                    intro hQ
                                    refine JL.move .none rfl ?_
                                    refine JL.not rfl .none rfl ?_
                                    refine JL.move .none rfl ?_
                                    obtain ⟨p692, hp692, hF⟩ := bind_some hF
                                    refine JL.cut 2 (fun f => f 245 = .bool p692) ?_ ?_
                                    · intro hJ693
                                      rcases ite_some hp692 with ⟨hc694, hF⟩ | ⟨hc694, hF⟩
                                      · skip
                                        obtain ⟨y695, hy695, hF⟩ := bind_some hF
                                        refine JL.callS (c_law05_works n H379 y695 hy695) rfl en_12 (.some rfl rfl rfl hc694) rfl ?_
                                        refine JL.pick_t (b := (!y683)) rfl hc694 .none rfl ?_
                                        obtain rfl := Option.some.inj hF
                                        exact hJ693 _ (rfl)
                                      · skip
                                        refine JL.skip (.bool rfl rfl rfl hc694) rfl ?_
                                        refine JL.pick_f (b := (!y683)) rfl hc694 .none rfl ?_
                                        obtain rfl := Option.some.inj hF
                                        exact hJ693 _ (rfl)
                                    · rintro f hf245
                                      refine (JL.norm (i := 245) hf245 ?_)
                                      refine JL.assign .none rfl ?_
                                      refine JL.done hQ ?_
                                      refine JQ.go ?_
                                      refine JC.ret ?_
                                      refine JQ.ret_block ?_
                                      refine JQ.ret_then ?_
                                      obtain rfl := Option.some.inj hF
                                      exact JQ.outS rfl (.tmp .nil) rfl
                                  · refine JC.cond_f (b := (y50.1 == 2)) rfl hc690 ?_
                                    refine JC.skip ?_
                                    refine JQ.normal_block ?_
                                    refine JQ.go ?_
                                    refine JC.seq ?_
                                    refine JC.region (by rfl) ?_
                                    intro hQ
                                    refine JL.move .none rfl ?_
                                    refine JL.bin rfl rfl rfl .none rfl ?_
                                    refine JL.move .none rfl ?_
                                    obtain ⟨p697, hp697, hF⟩ := bind_some hF
                                    refine JL.cut 2 (fun f => f 250 = .bool p697) ?_ ?_
                                    · intro hJ698
                                      rcases ite_some hp697 with ⟨hc699, hF⟩ | ⟨hc699, hF⟩
                                      · skip
                                        obtain ⟨y700, hy700, hF⟩ := bind_some hF
                                        refine JL.callS (c_law05_works n H379 y700 hy700) rfl en_12 (.some rfl rfl rfl hc699) rfl ?_
                                        refine JL.pick_t (b := (y50.1 == 3)) rfl hc699 .none rfl ?_
                                        obtain rfl := Option.some.inj hF
                                        exact hJ698 _ (rfl)
                                      · skip
                                        refine JL.skip (.bool rfl rfl rfl hc699) rfl ?_
                                        refine JL.pick_f (b := (y50.1 == 3)) rfl hc699 .none rfl ?_
                                        obtain rfl := Option.some.inj hF
                                        exact hJ698 _ (rfl)
                                    · rintro f hf250
                                      refine (JL.norm (i := 250) hf250 ?_)
                                      refine JL.assign .none rfl ?_
                                      refine JL.done hQ ?_
                                      refine JQ.go ?_
                                      refine JC.ret ?_
                                      obtain rfl := Option.some.inj hF
                                      exact JQ.outS rfl (.tmp .nil) rfl
          intro nd40_0
          refine JA.take 0 (listed' := #[true, false, false, false, false, false, false, false, false]) hQ rfl (by kernel_rfl) (by kernel_rfl) (by kernel_rfl) (by kernel_rfl) (by kernel_rfl) hE (HSub.refl _) (.cons_cons _ (.cons_cons _ (.cons_cons _ (List.nil_sublist _)))) ?_
          refine JL.loadOwn 2 az_30 rfl rfl rfl .none rfl ?_
          refine JA.cont ?_
          refine JA.take 1 (listed' := #[true, true, false, false, false, false, false, false, false]) hQ rfl (by kernel_rfl) (by kernel_rfl) (by kernel_rfl) (by kernel_rfl) (by kernel_rfl) hE (HSub.refl _) (.cons_cons _ (.cons_cons _ (.cons_cons _ (List.nil_sublist _)))) ?_
          refine JL.fieldAddr fo_74_0 rfl .none rfl ?_
          refine JA.cont ?_
          refine JA.take 2 (listed' := #[true, true, true, false, false, false, false, false, false]) hQ rfl (by kernel_rfl) (by kernel_rfl) (by kernel_rfl) (by kernel_rfl) (by kernel_rfl) hE (HSub.refl _) (.cons_cons _ (.cons_cons _ (.cons_cons _ (List.nil_sublist _)))) ?_
          refine JL.loadOwn 1 az_72 rfl rfl rfl .none rfl ?_
          refine JA.cont ?_
          refine JA.take 4 (listed' := #[true, true, true, false, true, false, false, false, false]) hQ rfl (by kernel_rfl) (by kernel_rfl) (by kernel_rfl) (by kernel_rfl) (by kernel_rfl) hE (HSub.refl _) (.cons_cons _ (.cons_cons _ (.cons_cons _ (List.nil_sublist _)))) ?_
          refine JL.fieldAddr fo_74_1 rfl .none rfl ?_
          refine JA.cont ?_
          refine JA.take 5 (listed' := #[true, true, true, false, true, true, false, false, false]) hQ rfl (by kernel_rfl) (by kernel_rfl) (by kernel_rfl) (by kernel_rfl) (by kernel_rfl) hE (HSub.refl _) (.cons_cons _ (.cons_cons _ (.cons_cons _ (List.nil_sublist _)))) ?_
          refine JL.loadOwn 1 az_28 rfl rfl rfl .none rfl ?_
          refine JA.cont ?_
          refine JA.many [3, 7] (by kernel_rfl) (by simp) (all_cons ⟨_, #[true, true, true, true, true, true, false, false, false], rfl, (by kernel_rfl), ?_⟩ (all_one ⟨_, #[true, true, true, false, true, true, false, true, false], rfl, (by kernel_rfl), ?_⟩))
          · skip
            refine JL.callS (c_ref05_LiftOf n H d (.slice a28 d.Frame.Sections.length c29) hd_0 (.slice a31 d.Ribs.length c32) hd_7 (.slice a34 d.Shares.length c35) hd_8 x_.Pair y37 hy37) rfl en_37 .none rfl ?_
            refine JA.after hE (HSub.refl _) (.cons_cons _ (.cons_cons _ (.cons_cons _ (List.nil_sublist _)))) ?_
            refine JA.take 6 (listed' := #[true, true, true, true, true, true, true, false, false]) hQ rfl (by kernel_rfl) (by kernel_rfl) (by kernel_rfl) (by kernel_rfl) (by kernel_rfl) hE (HSub.refl _) (.cons_cons _ (.cons_cons _ (.cons_cons _ (List.nil_sublist _)))) ?_
            refine JL.build (l := [.int .i64 y37, (.slice a25 x_.Strengths.length c26)]) (by kernel_rfl) .none rfl ?_
            refine JA.cont ?_
            refine JA.many [7] (by kernel_rfl) (by simp) (all_one ⟨_, #[true, true, true, true, true, true, true, true, false], rfl, (by kernel_rfl), ?_⟩)
            refine JL.alloc ze_78 .none rfl ?_
            intro b701
            refine JA.after hE (HSub.refl _) (.cons _ (.cons_cons _ (.cons_cons _ (.cons_cons _ (List.nil_sublist _))))) ?_
            exact nd40_0 _ _ _ _ ⟨b701, rfl, rfl, rfl, rfl, rfl, rfl, rfl, rfl, (HSub.refl _)⟩
          · skip
            refine JL.alloc ze_78 .none rfl ?_
            intro b702
            refine JA.after hE (HSub.refl _) (.cons _ (.cons_cons _ (.cons_cons _ (.cons_cons _ (List.nil_sublist _))))) ?_
            refine JA.many [3] (by kernel_rfl) (by simp) (all_one ⟨_, #[true, true, true, true, true, true, false, true, false], rfl, (by kernel_rfl), ?_⟩)
            refine JL.callS (c_ref05_LiftOf n H d (.slice a28 d.Frame.Sections.length c29) hd_0 (.slice a31 d.Ribs.length c32) hd_7 (.slice a34 d.Shares.length c35) hd_8 x_.Pair y37 hy37) rfl en_37 .none rfl ?_
            refine JA.after hE (HSub.refl _) (.cons _ (.cons_cons _ (.cons_cons _ (.cons_cons _ (List.nil_sublist _))))) ?_
            refine JA.take 6 (listed' := #[true, true, true, true, true, true, true, true, false]) hQ rfl (by kernel_rfl) (by kernel_rfl) (by kernel_rfl) (by kernel_rfl) (by kernel_rfl) hE (HSub.refl _) (.cons _ (.cons_cons _ (.cons_cons _ (.cons_cons _ (List.nil_sublist _))))) ?_
            refine JL.build (l := [.int .i64 y37, (.slice a25 x_.Strengths.length c26)]) (by kernel_rfl) .none rfl ?_
            refine JA.cont ?_
            exact nd40_0 _ _ _ _ ⟨b702, rfl, rfl, rfl, rfl, rfl, rfl, rfl, rfl, (HSub.refl _)⟩

end Go.Proofs.Ytcpnnfdhafbemaa
