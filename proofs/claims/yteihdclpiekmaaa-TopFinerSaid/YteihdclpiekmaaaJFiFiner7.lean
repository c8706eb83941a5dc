/-
  A part of the proof of FiFiner: the texts FiGenK8, FiGenK9, FiGenK10.
-/
import Derived.Test.YteihdclpiekmaaaJFiFiner6
section
set_option maxRecDepth 100000
set_option maxHeartbeats 40000000
namespace Go.Proofs.Yteihdclpiekmaaa
open Go Go.RowKit Go.Dec
set_option linter.unusedVariables false
-- 97 ferrule/ferruleref05.Copy
def F_ref05_Copy (n : Nat) (d : Canopy) : Option Canopy :=
 (F_ref01_Copy n d.Frame).bind fun y4 => (lim (([] : List Span) ++ d.Ribs)).bind fun l9 => (lim (([] : List Int) ++ d.Shares)).bind fun l15 => some (Canopy.mk y4 l9 l15)
theorem x_ref05_Copy (n : Nat) (H : Hp) (d : Canopy) (d_v0 : Value) (hd_0 : SL H 7 R_Section d_v0 d.Frame.Sections) (d_v7 : Value) (hd_7 : SL H 2 R_Span d_v7 d.Ribs) (d_v8 : Value) (hd_8 : SL H 1 RInt d_v8 d.Shares) (y : Canopy) (hF : F_ref05_Copy n d = some y) : XC Try.prog 97 [.agg [d_v0, .int .i64 d.Frame.Low, .int .i64 d.Frame.High, .int .i64 d.Frame.Ease.Num, .int .i64 d.Frame.Ease.Den, .int .i64 d.Frame.Rod, .int .i64 d.Frame.Case, d_v7, d_v8].toArray] H (fun H' v gs' => ∃ (y_v0 : Value) (y_xs0 : List Value) (y_v1 : Value) (y_xs1 : List Value) (y_v2 : Value) (y_xs2 : List Value), v = .agg [y_v0, .int .i64 y.Frame.Low, .int .i64 y.Frame.High, .int .i64 y.Frame.Ease.Num, .int .i64 y.Frame.Ease.Den, .int .i64 y.Frame.Rod, .int .i64 y.Frame.Case, y_v1, y_v2].toArray ∧ gs' = [⟨y_v2, 3, 1, y.Shares.length, y_xs2⟩, ⟨y_v1, 39, 2, y.Ribs.length, y_xs1⟩, ⟨y_v0, 68, 7, y.Frame.Sections.length, y_xs0⟩] ∧ CH H' 7 R_Section y_xs0 y.Frame.Sections ∧ CH H' 2 R_Span y_xs1 y.Ribs ∧ CH H' 1 RInt y_xs2 y.Shares) := by
 rw [F_ref05_Copy] at hF
 refine XC.of (N := 20) Try.func97 rfl rfl rfl fun w => ?_
 refine JC.seq (JC.region (by rfl) ?_)
 intro hQ
 refine JL.box (cs := [d_v0, .int .i64 d.Frame.Low, .int .i64 d.Frame.High, .int .i64 d.Frame.Ease.Num, .int .i64 d.Frame.Ease.Den, .int .i64 d.Frame.Rod, .int .i64 d.Frame.Case, d_v7, d_v8]) rfl .none rfl ?_
 intro b1
 refine JL.alloc ze_76 .none rfl ?_
 intro b2
 refine JL.done hQ (JQ.go (JC.seq (JC.region (by rfl) ?_)))
 intro hQ
 refine JL.loadOwn 1 az_76 rfl rfl rfl .none rfl ?_
 refine JL.alloc ze_76 .none rfl ?_
 intro b3
 refine JL.storeOwn 0 (cs := [d_v0, .int .i64 d.Frame.Low, .int .i64 d.Frame.High, .int .i64 d.Frame.Ease.Num, .int .i64 d.Frame.Ease.Den, .int .i64 d.Frame.Rod, .int .i64 d.Frame.Case, d_v7, d_v8]) az_76 rfl rfl rfl (one_cons (SL.one hd_0) (one_cons rfl (one_cons rfl (one_cons rfl (one_cons rfl (one_cons rfl (one_cons rfl (one_cons (SL.one hd_7) (one_cons (SL.one hd_8) one_nil))))))))) rfl rfl .none ?_
 refine JL.done hQ (JQ.go (JC.seq (JC.region (by rfl) ?_)))
 intro hQ
 refine JL.fieldAddr fo_76_0 rfl .none rfl ?_
 refine JL.loadOwn 2 az_53 rfl rfl rfl .none rfl ?_
 obtain ⟨y4, hy4, hF⟩ := bind_some hF
 refine JL.callXC (x_ref01_Copy n H d.Frame d_v0 hd_0 y4 hy4) rfl en_27 .none rfl ?_
 rintro H5 vv6 _ hs5 ⟨y4_v0, y4_xs0, rfl, rfl, hy4_0⟩
 refine JL.fieldAddr fo_76_0 rfl .none rfl ?_
 refine JL.oneG 0 rfl (fun ho8 => ?_)
 refine JL.storeOwn 0 (cs := [y4_v0, .int .i64 y4.Low, .int .i64 y4.High, .int .i64 y4.Ease.Num, .int .i64 y4.Ease.Den, .int .i64 y4.Rod, .int .i64 y4.Case]) az_53 rfl rfl rfl (one_cons ho8.1 (one_cons rfl (one_cons rfl (one_cons rfl (one_cons rfl (one_cons rfl (one_cons rfl one_nil))))))) rfl rfl .none ?_
 refine JL.done hQ (JQ.go (JC.seq ?_))
 obtain ⟨l11, hl11, hF⟩ := bind_some hF
 obtain ⟨l17, hl17, hF⟩ := bind_some hF
 refine JC.mixed 12 12 #[false, false, false, false, false, false, false, false, false, false, false, false] [(b2, .cells [.slice none 0 0, .int .i64 0, .int .i64 0, .int .i64 0, .int .i64 0, .int .i64 0, .int .i64 0, .slice none 0 0, .slice none 0 0].toArray 76), (b1, .cells [d_v0, .int .i64 d.Frame.Low, .int .i64 d.Frame.High, .int .i64 d.Frame.Ease.Num, .int .i64 d.Frame.Ease.Den, .int .i64 d.Frame.Rod, .int .i64 d.Frame.Case, d_v7, d_v8].toArray 76)] (by rfl) mo_ (by kernel_rfl) (by kernel_rfl) ?_
 intro hQ hE
 refine JA.cut 4 #[true, true, true, true, true, true, true, false, true, false, false, false] (fun H118 f bs gs => ∃ (v108 : Value) (v101 : Value) (xs102 : List Value), f 2 = .pointer (some ⟨b2, 0, none⟩) ∧ f 3 = .pointer (some ⟨b3, 0, none⟩) ∧ f 12 = v101 ∧ f 13 = v108 ∧ f 15 = d_v8 ∧ f 17 = .pointer (some ⟨b3, 7, none⟩) ∧ bs = [(b3, .cells [y4_v0, .int .i64 y4.Low, .int .i64 y4.High, .int .i64 y4.Ease.Num, .int .i64 y4.Ease.Den, .int .i64 y4.Rod, .int .i64 y4.Case, d_v7, d_v8].toArray 76), (b2, .cells [.slice none 0 0, .int .i64 0, .int .i64 0, .int .i64 0, .int .i64 0, .int .i64 0, .int .i64 0, .slice none 0 0, .slice none 0 0].toArray 76), (b1, .cells [d_v0, .int .i64 d.Frame.Low, .int .i64 d.Frame.High, .int .i64 d.Frame.Ease.Num, .int .i64 d.Frame.Ease.Den, .int .i64 d.Frame.Rod, .int .i64 d.Frame.Case, d_v7, d_v8].toArray 76)] ∧ gs = [⟨v108, 3, 1, 0, []⟩, ⟨v101, 39, 2, l11.length, xs102⟩, ⟨y4_v0, 68, 7, y4.Sections.length, y4_xs0⟩] ∧ CH H118 2 R_Span xs102 l11 ∧ HSub H5 H118) ?_ ?_
 ·rintro H118 f bs gs ⟨v108, v101, xs102, hf2, hf3, hf12, hf13, hf15, hf17, rfl, rfl, hm119, hs118⟩
  refine (JA.norm (i := 2) hf2 (JA.norm (i := 3) hf3 (JA.norm (i := 12) hf12 (JA.norm (i := 13) hf13 (JA.norm (i := 15) hf15 (JA.norm (i := 17) hf17 ?_))))))
  refine JA.many [7] (by kernel_rfl) (by simp) (all_one ⟨_, #[true, true, true, true, true, true, true, true, true, false, false, false], rfl, (by kernel_rfl), ?_⟩)
  refine JL.appD (R := RInt) 0 (l := ([] : List Int)) (m := d.Shares) ap_23 rfl ⟨rfl, rfl⟩ rfl CH.nil rfl (SL.mono RInt.mono (HSub.trans hs5 hs118) hd_8) (RInt.one _) hl17 .none rfl ?_
  intro v120 xs121 hch122
  refine JA.after hE hs118 (.cons _ (.cons_cons _ (.cons_cons _ (List.nil_sublist _)))) ?_
  refine JA.many [9] (by kernel_rfl) (by simp) (all_one ⟨_, #[true, true, true, true, true, true, true, true, true, true, false, false], rfl, (by kernel_rfl), ?_⟩)
  refine JL.oneG 1 rfl (fun ho123 => ?_)
  refine JL.storeOwn 0 (cs := [v101]) az_24 rfl ho123.2 rfl (one_cons ho123.1 one_nil) rfl rfl .none ?_
  refine JA.after hE hs118 (.cons _ (.cons_cons _ (.cons_cons _ (List.nil_sublist _)))) ?_
  refine JA.take 10 (listed' := #[true, true, true, true, true, true, true, true, true, true, true, false]) hQ rfl (by kernel_rfl) (by kernel_rfl) (by kernel_rfl) (by kernel_rfl) (by kernel_rfl) hE hs118 (.cons _ (.cons_cons _ (.cons_cons _ (List.nil_sublist _)))) ?_
  refine JL.fieldAddr fo_76_2 rfl .none rfl ?_
  refine JA.cont ?_
  refine JA.many [11] (by kernel_rfl) (by simp) (all_one ⟨_, #[true, true, true, true, true, true, true, true, true, true, true, true], rfl, (by kernel_rfl), ?_⟩)
  refine JL.oneG 0 rfl (fun ho124 => ?_)
  refine JL.storeOwn 0 (cs := [v120]) az_23 rfl ho124.2 rfl (one_cons ho124.1 one_nil) rfl rfl .none ?_
  refine JA.after hE hs118 (.cons _ (.cons_cons _ (.cons_cons _ (List.nil_sublist _)))) ?_
  refine JA.done hQ (by kernel_rfl) ?_
  refine JQ.go (JC.seq (JC.region (by rfl) ?_))
  intro hQ
  refine JL.loadOwn 0 az_76 rfl rfl rfl .none rfl ?_
  refine JL.oneG 2 rfl (fun ho125 => ?_)
  refine JL.oneG 1 rfl (fun ho126 => ?_)
  refine JL.oneG 0 rfl (fun ho127 => ?_)
  refine JL.storeOwn 1 (cs := [y4_v0, .int .i64 y4.Low, .int .i64 y4.High, .int .i64 y4.Ease.Num, .int .i64 y4.Ease.Den, .int .i64 y4.Rod, .int .i64 y4.Case, v101, v120]) az_76 rfl rfl rfl (one_cons ho125.1 (one_cons rfl (one_cons rfl (one_cons rfl (one_cons rfl (one_cons rfl (one_cons rfl (one_cons ho126.1 (one_cons ho127.1 one_nil))))))))) rfl rfl .none ?_
  refine JL.done hQ (JQ.go (JC.ret ?_))
  obtain rfl := Option.some.inj hF
  exact JQ.outX rfl (.cell 1 az_76 rfl rfl rfl .nil) ⟨y4_v0, y4_xs0, v101, xs102, v120, xs121, rfl, rfl, (CH.mono R_Section_mono hs118 hy4_0), hm119, hch122⟩
 intro nd117_0
 refine JA.cut 6 #[true, true, true, false, true, true, true, false, false, false, false, false] (fun H128 f bs gs => ∃ (v104 : Value) (v97 : Value), f 2 = .pointer (some ⟨b2, 0, none⟩) ∧ f 3 = .pointer (some ⟨b3, 0, none⟩) ∧ f 9 = v97 ∧ f 11 = d_v7 ∧ f 13 = v104 ∧ f 15 = d_v8 ∧ bs = [(b3, .cells [y4_v0, .int .i64 y4.Low, .int .i64 y4.High, .int .i64 y4.Ease.Num, .int .i64 y4.Ease.Den, .int .i64 y4.Rod, .int .i64 y4.Case, d_v7, d_v8].toArray 76), (b2, .cells [.slice none 0 0, .int .i64 0, .int .i64 0, .int .i64 0, .int .i64 0, .int .i64 0, .int .i64 0, .slice none 0 0, .slice none 0 0].toArray 76), (b1, .cells [d_v0, .int .i64 d.Frame.Low, .int .i64 d.Frame.High, .int .i64 d.Frame.Ease.Num, .int .i64 d.Frame.Ease.Den, .int .i64 d.Frame.Rod, .int .i64 d.Frame.Case, d_v7, d_v8].toArray 76)] ∧ gs = [⟨v104, 3, 1, 0, []⟩, ⟨v97, 39, 2, 0, []⟩, ⟨y4_v0, 68, 7, y4.Sections.length, y4_xs0⟩] ∧ HSub H5 H128) ?_ ?_
 ·rintro H128 f bs gs ⟨v104, v97, hf2, hf3, hf9, hf11, hf13, hf15, rfl, rfl, hs128⟩
  refine (JA.norm (i := 2) hf2 (JA.norm (i := 3) hf3 (JA.norm (i := 9) hf9 (JA.norm (i := 11) hf11 (JA.norm (i := 13) hf13 (JA.norm (i := 15) hf15 ?_))))))
  refine JA.many [3] (by kernel_rfl) (by simp) (all_one ⟨_, #[true, true, true, true, true, true, true, false, false, false, false, false], rfl, (by kernel_rfl), ?_⟩)
  refine JL.appD (R := R_Span) 1 (l := ([] : List Span)) (m := d.Ribs) ap_24 rfl ⟨rfl, rfl⟩ rfl CH.nil rfl (SL.mono R_Span_mono (HSub.trans hs5 hs128) hd_7) (R_Span_one _) hl11 .none rfl ?_
  intro v129 xs130 hch131
  refine JA.after hE hs128 (.cons _ (.cons_cons _ (.cons_cons _ (List.nil_sublist _)))) ?_
  refine JA.take 8 (listed' := #[true, true, true, true, true, true, true, false, true, false, false, false]) hQ rfl (by kernel_rfl) (by kernel_rfl) (by kernel_rfl) (by kernel_rfl) (by kernel_rfl) hE hs128 (.cons _ (.cons_cons _ (.cons_cons _ (List.nil_sublist _)))) ?_
  refine JL.fieldAddr fo_76_1 rfl .none rfl ?_
  refine JA.cont ?_
  exact nd117_0 _ _ _ _ ⟨v104, v129, xs130, rfl, rfl, rfl, rfl, rfl, rfl, rfl, rfl, hch131, hs128⟩
 intro nd117_1
 refine JA.take 1 (listed' := #[false, true, false, false, false, false, false, false, false, false, false, false]) hQ rfl (by kernel_rfl) (by kernel_rfl) (by kernel_rfl) (by kernel_rfl) (by kernel_rfl) hE (HSub.refl _) (.cons _ (.cons_cons _ (.cons_cons _ (List.nil_sublist _)))) ?_
 refine JL.fieldAddr fo_76_1 rfl .none rfl ?_
 refine JA.cont ?_
 refine JA.take 2 (listed' := #[false, true, true, false, false, false, false, false, false, false, false, false]) hQ rfl (by kernel_rfl) (by kernel_rfl) (by kernel_rfl) (by kernel_rfl) (by kernel_rfl) hE (HSub.refl _) (.cons _ (.cons_cons _ (.cons_cons _ (List.nil_sublist _)))) ?_
 refine JL.loadOwn 1 az_24 rfl rfl rfl .none rfl ?_
 refine JA.cont ?_
 refine JA.take 5 (listed' := #[false, true, true, false, false, true, false, false, false, false, false, false]) hQ rfl (by kernel_rfl) (by kernel_rfl) (by kernel_rfl) (by kernel_rfl) (by kernel_rfl) hE (HSub.refl _) (.cons _ (.cons_cons _ (.cons_cons _ (List.nil_sublist _)))) ?_
 refine JL.fieldAddr fo_76_2 rfl .none rfl ?_
 refine JA.cont ?_
 refine JA.take 6 (listed' := #[false, true, true, false, false, true, true, false, false, false, false, false]) hQ rfl (by kernel_rfl) (by kernel_rfl) (by kernel_rfl) (by kernel_rfl) (by kernel_rfl) hE (HSub.refl _) (.cons _ (.cons_cons _ (.cons_cons _ (List.nil_sublist _)))) ?_
 refine JL.loadOwn 1 az_23 rfl rfl rfl .none rfl ?_
 refine JA.cont ?_
 refine JA.many [0, 4] (by kernel_rfl) (by simp) (all_cons ⟨_, #[true, true, true, false, false, true, true, false, false, false, false, false], rfl, (by kernel_rfl), ?_⟩ (all_one ⟨_, #[false, true, true, false, true, true, true, false, false, false, false, false], rfl, (by kernel_rfl), ?_⟩))
 ·skip
  refine JL.emptySlice ap_24 .none rfl ?_
  intro v132
  refine JA.after hE (HSub.refl _) (.cons _ (.cons_cons _ (.cons_cons _ (List.nil_sublist _)))) ?_
  refine JA.many [3, 4] (by kernel_rfl) (by simp) (all_cons ⟨_, #[true, true, true, true, false, true, true, false, false, false, false, false], rfl, (by kernel_rfl), ?_⟩ (all_one ⟨_, #[true, true, true, false, true, true, true, false, false, false, false, false], rfl, (by kernel_rfl), ?_⟩))
  ·skip
   refine JL.appD (R := R_Span) 0 (l := ([] : List Span)) (m := d.Ribs) ap_24 rfl ⟨rfl, rfl⟩ rfl CH.nil rfl (SL.mono R_Span_mono hs5 hd_7) (R_Span_one _) hl11 .none rfl ?_
   intro v134 xs135 hch136
   refine JA.after hE (HSub.refl _) (.cons _ (.cons_cons _ (.cons_cons _ (List.nil_sublist _)))) ?_
   refine JA.take 8 (listed' := #[true, true, true, true, false, true, true, false, true, false, false, false]) hQ rfl (by kernel_rfl) (by kernel_rfl) (by kernel_rfl) (by kernel_rfl) (by kernel_rfl) hE (HSub.refl _) (.cons _ (.cons_cons _ (.cons_cons _ (List.nil_sublist _)))) ?_
   refine JL.fieldAddr fo_76_1 rfl .none rfl ?_
   refine JA.cont ?_
   refine JA.many [4] (by kernel_rfl) (by simp) (all_one ⟨_, #[true, true, true, true, true, true, true, false, true, false, false, false], rfl, (by kernel_rfl), ?_⟩)
   refine JL.emptySlice ap_23 .none rfl ?_
   intro v137
   refine JA.after hE (HSub.refl _) (.cons _ (.cons_cons _ (.cons_cons _ (List.nil_sublist _)))) ?_
   exact nd117_0 _ _ _ _ ⟨v137, v134, xs135, rfl, rfl, rfl, rfl, rfl, rfl, rfl, rfl, hch136, (HSub.refl _)⟩
  ·skip
   refine JL.emptySlice ap_23 .none rfl ?_
   intro v139
   refine JA.after hE (HSub.refl _) (.cons _ (.cons_cons _ (.cons_cons _ (List.nil_sublist _)))) ?_
   exact nd117_1 _ _ _ _ ⟨v139, v132, rfl, rfl, rfl, rfl, rfl, rfl, rfl, rfl, (HSub.refl _)⟩
 ·skip
  refine JL.emptySlice ap_23 .none rfl ?_
  intro v141
  refine JA.after hE (HSub.refl _) (.cons _ (.cons_cons _ (.cons_cons _ (List.nil_sublist _)))) ?_
  refine JA.many [0] (by kernel_rfl) (by simp) (all_one ⟨_, #[true, true, true, false, true, true, true, false, false, false, false, false], rfl, (by kernel_rfl), ?_⟩)
  refine JL.emptySlice ap_24 .none rfl ?_
  intro v143
  refine JA.after hE (HSub.refl _) (.cons _ (.cons_cons _ (.cons_cons _ (List.nil_sublist _)))) ?_
  refine JA.permG (swapAt_perm 0 _) ?_
  exact nd117_1 _ _ _ _ ⟨v141, v143, rfl, rfl, rfl, rfl, rfl, rfl, rfl, rfl, (HSub.refl _)⟩
-- 43 ferrule/ferruleref13.Copy
def F_ref13_Copy (n : Nat) (r : Run) : Option Run :=
 (F_ref05_Copy n r.Canopy).bind fun y4 => (lim (([] : List Blow) ++ r.Blows)).bind fun l9 => (lim (([] : List Meter) ++ r.Meters)).bind fun l15 => some (Run.mk y4 l9 l15 r.Wrong)
theorem x_ref13_Copy (n : Nat) (H : Hp) (r : Run) (r_v0 : Value) (hr_0 : SL H 7 R_Section r_v0 r.Canopy.Frame.Sections) (r_v7 : Value) (hr_7 : SL H 2 R_Span r_v7 r.Canopy.Ribs) (r_v8 : Value) (hr_8 : SL H 1 RInt r_v8 r.Canopy.Shares) (r_v9 : Value) (hr_9 : SL H 3 R_Blow r_v9 r.Blows) (r_v10 : Value) (hr_10 : SL H 2 R_Meter r_v10 r.Meters) (y : Run) (hF : F_ref13_Copy n r = some y) : XC Try.prog 43 [.agg [r_v0, .int .i64 r.Canopy.Frame.Low, .int .i64 r.Canopy.Frame.High, .int .i64 r.Canopy.Frame.Ease.Num, .int .i64 r.Canopy.Frame.Ease.Den, .int .i64 r.Canopy.Frame.Rod, .int .i64 r.Canopy.Frame.Case, r_v7, r_v8, r_v9, r_v10, .int .i64 r.Wrong].toArray] H (fun H' v gs' => ∃ (y_v0 : Value) (y_xs0 : List Value) (y_v1 : Value) (y_xs1 : List Value) (y_v2 : Value) (y_xs2 : List Value) (y_v3 : Value) (y_xs3 : List Value) (y_v4 : Value) (y_xs4 : List Value), v = .agg [y_v0, .int .i64 y.Canopy.Frame.Low, .int .i64 y.Canopy.Frame.High, .int .i64 y.Canopy.Frame.Ease.Num, .int .i64 y.Canopy.Frame.Ease.Den, .int .i64 y.Canopy.Frame.Rod, .int .i64 y.Canopy.Frame.Case, y_v1, y_v2, y_v3, y_v4, .int .i64 y.Wrong].toArray ∧ gs' = [⟨y_v4, 206, 2, y.Meters.length, y_xs4⟩, ⟨y_v3, 98, 3, y.Blows.length, y_xs3⟩, ⟨y_v2, 3, 1, y.Canopy.Shares.length, y_xs2⟩, ⟨y_v1, 39, 2, y.Canopy.Ribs.length, y_xs1⟩, ⟨y_v0, 68, 7, y.Canopy.Frame.Sections.length, y_xs0⟩] ∧ CH H' 7 R_Section y_xs0 y.Canopy.Frame.Sections ∧ CH H' 2 R_Span y_xs1 y.Canopy.Ribs ∧ CH H' 1 RInt y_xs2 y.Canopy.Shares ∧ CH H' 3 R_Blow y_xs3 y.Blows ∧ CH H' 2 R_Meter y_xs4 y.Meters) := by
 rw [F_ref13_Copy] at hF
 refine XC.of (N := 20) Try.func43 rfl rfl rfl fun w => ?_
 refine JC.seq (JC.region (by rfl) ?_)
 intro hQ
 refine JL.box (cs := [r_v0, .int .i64 r.Canopy.Frame.Low, .int .i64 r.Canopy.Frame.High, .int .i64 r.Canopy.Frame.Ease.Num, .int .i64 r.Canopy.Frame.Ease.Den, .int .i64 r.Canopy.Frame.Rod, .int .i64 r.Canopy.Frame.Case, r_v7, r_v8, r_v9, r_v10, .int .i64 r.Wrong]) rfl .none rfl ?_
 intro b1
 refine JL.alloc ze_90 .none rfl ?_
 intro b2
 refine JL.done hQ (JQ.go (JC.seq (JC.region (by rfl) ?_)))
 intro hQ
 refine JL.loadOwn 1 az_90 rfl rfl rfl .none rfl ?_
 refine JL.alloc ze_90 .none rfl ?_
 intro b3
 refine JL.storeOwn 0 (cs := [r_v0, .int .i64 r.Canopy.Frame.Low, .int .i64 r.Canopy.Frame.High, .int .i64 r.Canopy.Frame.Ease.Num, .int .i64 r.Canopy.Frame.Ease.Den, .int .i64 r.Canopy.Frame.Rod, .int .i64 r.Canopy.Frame.Case, r_v7, r_v8, r_v9, r_v10, .int .i64 r.Wrong]) az_90 rfl rfl rfl (one_cons (SL.one hr_0) (one_cons rfl (one_cons rfl (one_cons rfl (one_cons rfl (one_cons rfl (one_cons rfl (one_cons (SL.one hr_7) (one_cons (SL.one hr_8) (one_cons (SL.one hr_9) (one_cons (SL.one hr_10) (one_cons rfl one_nil)))))))))))) rfl rfl .none ?_
 refine JL.done hQ (JQ.go (JC.seq (JC.region (by rfl) ?_)))
 intro hQ
 refine JL.fieldAddr fo_90_0 rfl .none rfl ?_
 refine JL.loadOwn 2 az_76 rfl rfl rfl .none rfl ?_
 obtain ⟨y4, hy4, hF⟩ := bind_some hF
 refine JL.callXC (x_ref05_Copy n H r.Canopy r_v0 hr_0 r_v7 hr_7 r_v8 hr_8 y4 hy4) rfl en_97 .none rfl ?_
 rintro H5 vv6 _ hs5 ⟨y4_v0, y4_xs0, y4_v1, y4_xs1, y4_v2, y4_xs2, rfl, rfl, hy4_0, hy4_1, hy4_2⟩
 refine JL.fieldAddr fo_90_0 rfl .none rfl ?_
 refine JL.oneG 2 rfl (fun ho10 => ?_)
 refine JL.oneG 1 rfl (fun ho11 => ?_)
 refine JL.oneG 0 rfl (fun ho12 => ?_)
 refine JL.storeOwn 0 (cs := [y4_v0, .int .i64 y4.Frame.Low, .int .i64 y4.Frame.High, .int .i64 y4.Frame.Ease.Num, .int .i64 y4.Frame.Ease.Den, .int .i64 y4.Frame.Rod, .int .i64 y4.Frame.Case, y4_v1, y4_v2]) az_76 rfl rfl rfl (one_cons ho10.1 (one_cons rfl (one_cons rfl (one_cons rfl (one_cons rfl (one_cons rfl (one_cons rfl (one_cons ho11.1 (one_cons ho12.1 one_nil))))))))) rfl rfl .none ?_
 refine JL.done hQ (JQ.go (JC.seq ?_))
 obtain ⟨l15, hl15, hF⟩ := bind_some hF
 obtain ⟨l21, hl21, hF⟩ := bind_some hF
 refine JC.mixed 12 12 #[false, false, false, false, false, false, false, false, false, false, false, false] [(b2, .cells [.slice none 0 0, .int .i64 0, .int .i64 0, .int .i64 0, .int .i64 0, .int .i64 0, .int .i64 0, .slice none 0 0, .slice none 0 0, .slice none 0 0, .slice none 0 0, .int .i64 0].toArray 90), (b1, .cells [r_v0, .int .i64 r.Canopy.Frame.Low, .int .i64 r.Canopy.Frame.High, .int .i64 r.Canopy.Frame.Ease.Num, .int .i64 r.Canopy.Frame.Ease.Den, .int .i64 r.Canopy.Frame.Rod, .int .i64 r.Canopy.Frame.Case, r_v7, r_v8, r_v9, r_v10, .int .i64 r.Wrong].toArray 90)] (by rfl) mo_ (by kernel_rfl) (by kernel_rfl) ?_
 intro hQ hE
 refine JA.cut 4 #[true, true, true, true, true, true, true, false, true, false, false, false] (fun H122 f bs gs => ∃ (v112 : Value) (v105 : Value) (xs106 : List Value), f 2 = .pointer (some ⟨b2, 0, none⟩) ∧ f 3 = .pointer (some ⟨b3, 0, none⟩) ∧ f 12 = v105 ∧ f 13 = v112 ∧ f 15 = r_v10 ∧ f 17 = .pointer (some ⟨b3, 9, none⟩) ∧ bs = [(b3, .cells [y4_v0, .int .i64 y4.Frame.Low, .int .i64 y4.Frame.High, .int .i64 y4.Frame.Ease.Num, .int .i64 y4.Frame.Ease.Den, .int .i64 y4.Frame.Rod, .int .i64 y4.Frame.Case, y4_v1, y4_v2, r_v9, r_v10, .int .i64 r.Wrong].toArray 90), (b2, .cells [.slice none 0 0, .int .i64 0, .int .i64 0, .int .i64 0, .int .i64 0, .int .i64 0, .int .i64 0, .slice none 0 0, .slice none 0 0, .slice none 0 0, .slice none 0 0, .int .i64 0].toArray 90), (b1, .cells [r_v0, .int .i64 r.Canopy.Frame.Low, .int .i64 r.Canopy.Frame.High, .int .i64 r.Canopy.Frame.Ease.Num, .int .i64 r.Canopy.Frame.Ease.Den, .int .i64 r.Canopy.Frame.Rod, .int .i64 r.Canopy.Frame.Case, r_v7, r_v8, r_v9, r_v10, .int .i64 r.Wrong].toArray 90)] ∧ gs = [⟨v112, 206, 2, 0, []⟩, ⟨v105, 98, 3, l15.length, xs106⟩, ⟨y4_v2, 3, 1, y4.Shares.length, y4_xs2⟩, ⟨y4_v1, 39, 2, y4.Ribs.length, y4_xs1⟩, ⟨y4_v0, 68, 7, y4.Frame.Sections.length, y4_xs0⟩] ∧ CH H122 3 R_Blow xs106 l15 ∧ HSub H5 H122) ?_ ?_
 ·rintro H122 f bs gs ⟨v112, v105, xs106, hf2, hf3, hf12, hf13, hf15, hf17, rfl, rfl, hm123, hs122⟩
  refine (JA.norm (i := 2) hf2 (JA.norm (i := 3) hf3 (JA.norm (i := 12) hf12 (JA.norm (i := 13) hf13 (JA.norm (i := 15) hf15 (JA.norm (i := 17) hf17 ?_))))))
  refine JA.many [7] (by kernel_rfl) (by simp) (all_one ⟨_, #[true, true, true, true, true, true, true, true, true, false, false, false], rfl, (by kernel_rfl), ?_⟩)
  refine JL.appD (R := R_Meter) 0 (l := ([] : List Meter)) (m := r.Meters) ap_88 rfl ⟨rfl, rfl⟩ rfl CH.nil rfl (SL.mono R_Meter_mono (HSub.trans hs5 hs122) hr_10) (R_Meter_one _) hl21 .none rfl ?_
  intro v124 xs125 hch126
  refine JA.after hE hs122 (.cons _ (.cons_cons _ (.cons_cons _ (List.nil_sublist _)))) ?_
  refine JA.many [9] (by kernel_rfl) (by simp) (all_one ⟨_, #[true, true, true, true, true, true, true, true, true, true, false, false], rfl, (by kernel_rfl), ?_⟩)
  refine JL.oneG 1 rfl (fun ho127 => ?_)
  refine JL.storeOwn 0 (cs := [v105]) az_87 rfl ho127.2 rfl (one_cons ho127.1 one_nil) rfl rfl .none ?_
  refine JA.after hE hs122 (.cons _ (.cons_cons _ (.cons_cons _ (List.nil_sublist _)))) ?_
  refine JA.take 10 (listed' := #[true, true, true, true, true, true, true, true, true, true, true, false]) hQ rfl (by kernel_rfl) (by kernel_rfl) (by kernel_rfl) (by kernel_rfl) (by kernel_rfl) hE hs122 (.cons _ (.cons_cons _ (.cons_cons _ (List.nil_sublist _)))) ?_
  refine JL.fieldAddr fo_90_2 rfl .none rfl ?_
  refine JA.cont ?_
  refine JA.many [11] (by kernel_rfl) (by simp) (all_one ⟨_, #[true, true, true, true, true, true, true, true, true, true, true, true], rfl, (by kernel_rfl), ?_⟩)
  refine JL.oneG 0 rfl (fun ho128 => ?_)
  refine JL.storeOwn 0 (cs := [v124]) az_88 rfl ho128.2 rfl (one_cons ho128.1 one_nil) rfl rfl .none ?_
  refine JA.after hE hs122 (.cons _ (.cons_cons _ (.cons_cons _ (List.nil_sublist _)))) ?_
  refine JA.done hQ (by kernel_rfl) ?_
  refine JQ.go (JC.seq (JC.region (by rfl) ?_))
  intro hQ
  refine JL.loadOwn 0 az_90 rfl rfl rfl .none rfl ?_
  refine JL.oneG 4 rfl (fun ho129 => ?_)
  refine JL.oneG 3 rfl (fun ho130 => ?_)
  refine JL.oneG 2 rfl (fun ho131 => ?_)
  refine JL.oneG 1 rfl (fun ho132 => ?_)
  refine JL.oneG 0 rfl (fun ho133 => ?_)
  refine JL.storeOwn 1 (cs := [y4_v0, .int .i64 y4.Frame.Low, .int .i64 y4.Frame.High, .int .i64 y4.Frame.Ease.Num, .int .i64 y4.Frame.Ease.Den, .int .i64 y4.Frame.Rod, .int .i64 y4.Frame.Case, y4_v1, y4_v2, v105, v124, .int .i64 r.Wrong]) az_90 rfl rfl rfl (one_cons ho129.1 (one_cons rfl (one_cons rfl (one_cons rfl (one_cons rfl (one_cons rfl (one_cons rfl (one_cons ho130.1 (one_cons ho131.1 (one_cons ho132.1 (one_cons ho133.1 (one_cons rfl one_nil)))))))))))) rfl rfl .none ?_
  refine JL.done hQ (JQ.go (JC.ret ?_))
  obtain rfl := Option.some.inj hF
  exact JQ.outX rfl (.cell 1 az_90 rfl rfl rfl .nil) ⟨y4_v0, y4_xs0, y4_v1, y4_xs1, y4_v2, y4_xs2, v105, xs106, v124, xs125, rfl, rfl, (CH.mono R_Section_mono hs122 hy4_0), (CH.mono R_Span_mono hs122 hy4_1), (CH.mono RInt.mono hs122 hy4_2), hm123, hch126⟩
 intro nd121_0
 refine JA.cut 6 #[true, true, true, false, true, true, true, false, false, false, false, false] (fun H134 f bs gs => ∃ (v108 : Value) (v101 : Value), f 2 = .pointer (some ⟨b2, 0, none⟩) ∧ f 3 = .pointer (some ⟨b3, 0, none⟩) ∧ f 9 = v101 ∧ f 11 = r_v9 ∧ f 13 = v108 ∧ f 15 = r_v10 ∧ bs = [(b3, .cells [y4_v0, .int .i64 y4.Frame.Low, .int .i64 y4.Frame.High, .int .i64 y4.Frame.Ease.Num, .int .i64 y4.Frame.Ease.Den, .int .i64 y4.Frame.Rod, .int .i64 y4.Frame.Case, y4_v1, y4_v2, r_v9, r_v10, .int .i64 r.Wrong].toArray 90), (b2, .cells [.slice none 0 0, .int .i64 0, .int .i64 0, .int .i64 0, .int .i64 0, .int .i64 0, .int .i64 0, .slice none 0 0, .slice none 0 0, .slice none 0 0, .slice none 0 0, .int .i64 0].toArray 90), (b1, .cells [r_v0, .int .i64 r.Canopy.Frame.Low, .int .i64 r.Canopy.Frame.High, .int .i64 r.Canopy.Frame.Ease.Num, .int .i64 r.Canopy.Frame.Ease.Den, .int .i64 r.Canopy.Frame.Rod, .int .i64 r.Canopy.Frame.Case, r_v7, r_v8, r_v9, r_v10, .int .i64 r.Wrong].toArray 90)] ∧ gs = [⟨v108, 206, 2, 0, []⟩, ⟨v101, 98, 3, 0, []⟩, ⟨y4_v2, 3, 1, y4.Shares.length, y4_xs2⟩, ⟨y4_v1, 39, 2, y4.Ribs.length, y4_xs1⟩, ⟨y4_v0, 68, 7, y4.Frame.Sections.length, y4_xs0⟩] ∧ HSub H5 H134) ?_ ?_
 ·rintro H134 f bs gs ⟨v108, v101, hf2, hf3, hf9, hf11, hf13, hf15, rfl, rfl, hs134⟩
  refine (JA.norm (i := 2) hf2 (JA.norm (i := 3) hf3 (JA.norm (i := 9) hf9 (JA.norm (i := 11) hf11 (JA.norm (i := 13) hf13 (JA.norm (i := 15) hf15 ?_))))))
  refine JA.many [3] (by kernel_rfl) (by simp) (all_one ⟨_, #[true, true, true, true, true, true, true, false, false, false, false, false], rfl, (by kernel_rfl), ?_⟩)
  refine JL.appD (R := R_Blow) 1 (l := ([] : List Blow)) (m := r.Blows) ap_87 rfl ⟨rfl, rfl⟩ rfl CH.nil rfl (SL.mono R_Blow_mono (HSub.trans hs5 hs134) hr_9) (R_Blow_one _) hl15 .none rfl ?_
  intro v135 xs136 hch137
  refine JA.after hE hs134 (.cons _ (.cons_cons _ (.cons_cons _ (List.nil_sublist _)))) ?_
  refine JA.take 8 (listed' := #[true, true, true, true, true, true, true, false, true, false, false, false]) hQ rfl (by kernel_rfl) (by kernel_rfl) (by kernel_rfl) (by kernel_rfl) (by kernel_rfl) hE hs134 (.cons _ (.cons_cons _ (.cons_cons _ (List.nil_sublist _)))) ?_
  refine JL.fieldAddr fo_90_1 rfl .none rfl ?_
  refine JA.cont ?_
  exact nd121_0 _ _ _ _ ⟨v108, v135, xs136, rfl, rfl, rfl, rfl, rfl, rfl, rfl, rfl, hch137, hs134⟩
 intro nd121_1
 refine JA.take 1 (listed' := #[false, true, false, false, false, false, false, false, false, false, false, false]) hQ rfl (by kernel_rfl) (by kernel_rfl) (by kernel_rfl) (by kernel_rfl) (by kernel_rfl) hE (HSub.refl _) (.cons _ (.cons_cons _ (.cons_cons _ (List.nil_sublist _)))) ?_
 refine JL.fieldAddr fo_90_1 rfl .none rfl ?_
 refine JA.cont ?_
 refine JA.take 2 (listed' := #[false, true, true, false, false, false, false, false, false, false, false, false]) hQ rfl (by kernel_rfl) (by kernel_rfl) (by kernel_rfl) (by kernel_rfl) (by kernel_rfl) hE (HSub.refl _) (.cons _ (.cons_cons _ (.cons_cons _ (List.nil_sublist _)))) ?_
 refine JL.loadOwn 1 az_87 rfl rfl rfl .none rfl ?_
 refine JA.cont ?_
 refine JA.take 5 (listed' := #[false, true, true, false, false, true, false, false, false, false, false, false]) hQ rfl (by kernel_rfl) (by kernel_rfl) (by kernel_rfl) (by kernel_rfl) (by kernel_rfl) hE (HSub.refl _) (.cons _ (.cons_cons _ (.cons_cons _ (List.nil_sublist _)))) ?_
 refine JL.fieldAddr fo_90_2 rfl .none rfl ?_
 refine JA.cont ?_
 refine JA.take 6 (listed' := #[false, true, true, false, false, true, true, false, false, false, false, false]) hQ rfl (by kernel_rfl) (by kernel_rfl) (by kernel_rfl) (by kernel_rfl) (by kernel_rfl) hE (HSub.refl _) (.cons _ (.cons_cons _ (.cons_cons _ (List.nil_sublist _)))) ?_
 refine JL.loadOwn 1 az_88 rfl rfl rfl .none rfl ?_
 refine JA.cont ?_
 refine JA.many [0, 4] (by kernel_rfl) (by simp) (all_cons ⟨_, #[true, true, true, false, false, true, true, false, false, false, false, false], rfl, (by kernel_rfl), ?_⟩ (all_one ⟨_, #[false, true, true, false, true, true, true, false, false, false, false, false], rfl, (by kernel_rfl), ?_⟩))
 ·skip
  refine JL.emptySlice ap_87 .none rfl ?_
  intro v138
  refine JA.after hE (HSub.refl _) (.cons _ (.cons_cons _ (.cons_cons _ (List.nil_sublist _)))) ?_
  refine JA.many [3, 4] (by kernel_rfl) (by simp) (all_cons ⟨_, #[true, true, true, true, false, true, true, false, false, false, false, false], rfl, (by kernel_rfl), ?_⟩ (all_one ⟨_, #[true, true, true, false, true, true, true, false, false, false, false, false], rfl, (by kernel_rfl), ?_⟩))
  ·skip
   refine JL.appD (R := R_Blow) 0 (l := ([] : List Blow)) (m := r.Blows) ap_87 rfl ⟨rfl, rfl⟩ rfl CH.nil rfl (SL.mono R_Blow_mono hs5 hr_9) (R_Blow_one _) hl15 .none rfl ?_
   intro v140 xs141 hch142
   refine JA.after hE (HSub.refl _) (.cons _ (.cons_cons _ (.cons_cons _ (List.nil_sublist _)))) ?_
   refine JA.take 8 (listed' := #[true, true, true, true, false, true, true, false, true, false, false, false]) hQ rfl (by kernel_rfl) (by kernel_rfl) (by kernel_rfl) (by kernel_rfl) (by kernel_rfl) hE (HSub.refl _) (.cons _ (.cons_cons _ (.cons_cons _ (List.nil_sublist _)))) ?_
   refine JL.fieldAddr fo_90_1 rfl .none rfl ?_
   refine JA.cont ?_
   refine JA.many [4] (by kernel_rfl) (by simp) (all_one ⟨_, #[true, true, true, true, true, true, true, false, true, false, false, false], rfl, (by kernel_rfl), ?_⟩)
   refine JL.emptySlice ap_88 .none rfl ?_
   intro v143
   refine JA.after hE (HSub.refl _) (.cons _ (.cons_cons _ (.cons_cons _ (List.nil_sublist _)))) ?_
   exact nd121_0 _ _ _ _ ⟨v143, v140, xs141, rfl, rfl, rfl, rfl, rfl, rfl, rfl, rfl, hch142, (HSub.refl _)⟩
  ·skip
   refine JL.emptySlice ap_88 .none rfl ?_
   intro v145
   refine JA.after hE (HSub.refl _) (.cons _ (.cons_cons _ (.cons_cons _ (List.nil_sublist _)))) ?_
   exact nd121_1 _ _ _ _ ⟨v145, v138, rfl, rfl, rfl, rfl, rfl, rfl, rfl, rfl, (HSub.refl _)⟩
 ·skip
  refine JL.emptySlice ap_88 .none rfl ?_
  intro v147
  refine JA.after hE (HSub.refl _) (.cons _ (.cons_cons _ (.cons_cons _ (List.nil_sublist _)))) ?_
  refine JA.many [0] (by kernel_rfl) (by simp) (all_one ⟨_, #[true, true, true, false, true, true, true, false, false, false, false, false], rfl, (by kernel_rfl), ?_⟩)
  refine JL.emptySlice ap_87 .none rfl ?_
  intro v149
  refine JA.after hE (HSub.refl _) (.cons _ (.cons_cons _ (.cons_cons _ (List.nil_sublist _)))) ?_
  refine JA.permG (swapAt_perm 0 _) ?_
  exact nd121_1 _ _ _ _ ⟨v147, v149, rfl, rfl, rfl, rfl, rfl, rfl, rfl, rfl, (HSub.refl _)⟩
end Go.Proofs.Yteihdclpiekmaaa
end
section
set_option maxRecDepth 100000
set_option maxHeartbeats 40000000
namespace Go.Proofs.Yteihdclpiekmaaa
open Go Go.RowKit Go.Dec
set_option linter.unusedVariables false
-- 143 ferrule/gusts.ask$1
def F_gusts_ask_1 (n : Nat) (g : Gust) (c_0 : Canopy) : Option Bool :=
 (F_gusts_within n g.Force 0 99).bind fun y2 => (if (!y2) = true then (some true) else ((F_gusts_within n g.At 0 (w64 ((c_0.Ribs.length : Int) - 1))).bind fun y7 => some (!y7)) : Option Bool).bind fun p4 => some p4
theorem c_gusts_ask_1 (n : Nat) (H : Hp) (g : Gust) (c_0 : Canopy) (c_0_v0 : Value) (hc_0_0 : SL H 7 R_Section c_0_v0 c_0.Frame.Sections) (c_0_v7 : Value) (hc_0_7 : SL H 2 R_Span c_0_v7 c_0.Ribs) (c_0_v8 : Value) (hc_0_8 : SL H 1 RInt c_0_v8 c_0.Shares) (c_0_b : Nat) (c_0_c : Cells H c_0_b 0 [c_0_v0, .int .i64 c_0.Frame.Low, .int .i64 c_0.Frame.High, .int .i64 c_0.Frame.Ease.Num, .int .i64 c_0.Frame.Ease.Den, .int .i64 c_0.Frame.Rod, .int .i64 c_0.Frame.Case, c_0_v7, c_0_v8]) (y : Bool) (hF : F_gusts_ask_1 n g c_0 = some y) : SC Try.prog 143 [.agg [.int .i64 g.Force, .int .i64 g.At].toArray, .pointer (some ⟨c_0_b, 0, none⟩)] (.bool y) H := by
 rw [F_gusts_ask_1] at hF
 refine SC.of (N := 18) Try.func143 rfl rfl rfl fun w => ?_
 refine JC.seq (JC.region (by rfl) ?_)
 intro hQ
 refine JL.box (cs := [.int .i64 g.Force, .int .i64 g.At]) rfl .none rfl ?_
 intro b1
 refine JL.assign .none rfl ?_
 refine JL.done hQ (JQ.go (JC.seq (JC.region (by rfl) ?_)))
 intro hQ
 refine JL.fieldAddr fo_86_0 rfl .none rfl ?_
 refine JL.loadOwn 0 az_3 rfl rfl rfl .none rfl ?_
 obtain ⟨y2, hy2, hF⟩ := bind_some hF
 refine JL.callS (c_gusts_within n H g.Force 0 99 y2 hy2) rfl en_137 .none rfl ?_
 refine JL.not rfl .none rfl ?_
 refine JL.move .none rfl ?_
 obtain ⟨p4, hp4, hF⟩ := bind_some hF
 refine JL.cut 9 (fun f => f 17 = .bool p4) ?_ ?_
 ·intro hJ5
  rcases ite_some hp4 with ⟨hc6, hF⟩ | ⟨hc6, hF⟩
  ·skip
   refine JL.skip (.bool rfl rfl rfl hc6) rfl ?_
   refine JL.skip (.bool rfl rfl rfl hc6) rfl ?_
   refine JL.skip (.bool rfl rfl rfl hc6) rfl ?_
   refine JL.skip (.bool rfl rfl rfl hc6) rfl ?_
   refine JL.skip (.bool rfl rfl rfl hc6) rfl ?_
   refine JL.skip (.bool rfl rfl rfl hc6) rfl ?_
   refine JL.skip (.bool rfl rfl rfl hc6) rfl ?_
   refine JL.skip (.bool rfl rfl rfl hc6) rfl ?_
   refine JL.pick_t (b := (!y2)) rfl hc6 .none rfl ?_
   obtain rfl := Option.some.inj hF
   exact hJ5 _ (rfl)
  ·skip
   refine JL.fieldAddr fo_86_1 rfl (.some rfl rfl rfl hc6) rfl ?_
   refine JL.loadOwn 0 az_3 rfl rfl rfl (.some rfl rfl rfl hc6) rfl ?_
   refine JL.fieldAddr fo_76_1 rfl (.some rfl rfl rfl hc6) rfl ?_
   refine JL.loadH 7 az_24 rfl c_0_c rfl (.some rfl rfl rfl hc6) rfl ?_
   refine JL.lenSL (R := R_Span) ul_24 hc_0_7 (.some rfl rfl rfl hc6) rfl ?_
   refine JL.bin rfl rfl rfl (.some rfl rfl rfl hc6) rfl ?_
   obtain ⟨y7, hy7, hF⟩ := bind_some hF
   refine JL.callS (c_gusts_within n H g.At 0 (w64 ((c_0.Ribs.length : Int) - 1)) y7 hy7) rfl en_137 (.some rfl rfl rfl hc6) rfl ?_
   refine JL.not rfl (.some rfl rfl rfl hc6) rfl ?_
   refine JL.pick_f (b := (!y2)) rfl hc6 .none rfl ?_
   obtain rfl := Option.some.inj hF
   exact hJ5 _ (rfl)
 ·rintro f hf17
  refine (JL.norm (i := 17) hf17 ?_)
  refine JL.assign .none rfl ?_
  refine JL.done hQ (JQ.go (JC.ret ?_))
  obtain rfl := Option.some.inj hF
  exact JQ.outS rfl (.tmp .nil) rfl
-- 179 slices.IndexFunc[[]ferrule/api.Gust,ferrule/api.Gust]
def F_slices_IndexFunc___api_Gust_api_Gust__s1 (n : Nat) (s : List Gust) (f_ : Gust → Option Bool) : Int → Option (Int ⊕ (Int ⊕ Unit))
 | x_55 => if decide (x_55 < (s.length : Int)) = true then ((geti s x_55).bind fun y60 => (f_ y60).bind fun y65 => if y65 = true then (some (Sum.inr (Sum.inl x_55))) else (some (Sum.inl (w64 (x_55 + 1))))) else (some (Sum.inr (Sum.inr ())))
def F_slices_IndexFunc___api_Gust_api_Gust_ (n : Nat) (s : List Gust) (f_ : Gust → Option Bool) : Option Int :=
 (loopO n (F_slices_IndexFunc___api_Gust_api_Gust__s1 n s f_) 0).bind fun r34 => match r34 with | .inl o => some o | .inr _ => some (-1)
theorem c_slices_IndexFunc___api_Gust_api_Gust_ (n : Nat) (H : Hp) (s : List Gust) (s_v0 : Value) (hs_0 : SL H 2 R_Gust s_v0 s) (f_ : Gust → Option Bool) (f__k : Nat) (f__c : List Value) (f__e : Ent Try.prog f__k) (f__h : ∀ H', HSub H H' → ∀ (a0_ : Gust) (y : Bool), f_ a0_ = some y → SC Try.prog f__k ([.agg [.int .i64 a0_.Force, .int .i64 a0_.At].toArray] ++ f__c) (.bool y) H') (y : Int) (hF : F_slices_IndexFunc___api_Gust_api_Gust_ n s f_ = some y) : SC Try.prog 179 [s_v0, .func (.func f__k) #[] f__c.toArray] (.int .i64 y) H := by
 rw [F_slices_IndexFunc___api_Gust_api_Gust_] at hF
 refine SC.of (N := 19) Try.func179 rfl rfl rfl fun w => ?_
 refine JC.seq (JC.region (by rfl) ?_)
 intro hQ
 refine JL.assign .none rfl ?_
 refine JL.done hQ (JQ.go (JC.seq (JC.seq (JC.region (by rfl) ?_))))
 intro hQ
 refine JL.move .none rfl ?_
 refine JL.lenSL (R := R_Gust) ul_103 hs_0 .none rfl ?_
 refine JL.move .none rfl ?_
 refine JL.done hQ (JQ.go ?_)
 obtain ⟨r34, hlr34, hKr34⟩ := bind_some hF
 refine JC.join (fun (_ : Unit) H33 f bs gs => bs = [] ∧ gs = [] ∧ HSub H H33 ∧ Sum.inr () = r34) ?_ ?_
 ·skip
  refine JC.block (JC.loop hlr34 (fun (x_55 : Int) H56 f bs gs => f 0 = s_v0 ∧ f 1 = .func (.func f__k) #[] f__c.toArray ∧ f 7 = .int .i64 (s.length : Int) ∧ f 8 = .int .i64 x_55 ∧ bs = [] ∧ gs = [] ∧ HSub H H56) ⟨rfl, rfl, rfl, rfl, rfl, rfl, (HSub.refl _)⟩ ?_)
  rintro x_55 x58 H56 f bs gs ⟨hf0, hf1, hf7, hf8, rfl, rfl, hs56⟩ hF hr57
  rw [F_slices_IndexFunc___api_Gust_api_Gust__s1] at hF
  refine (JC.norm (i := 0) hf0 (JC.norm (i := 1) hf1 (JC.norm (i := 7) hf7 (JC.norm (i := 8) hf8 ?_))))
  refine JC.seq (JC.region (by rfl) ?_)
  intro hQ
  refine JL.bin rfl rfl rfl .none rfl ?_
  refine JL.done hQ (JQ.go (JC.seq ?_))
  rcases ite_some hF with ⟨hc59, hF⟩ | ⟨hc59, hF⟩
  ·refine JC.cond_t (b := decide (x_55 < (s.length : Int))) rfl hc59 ?_
   refine JC.skip (JQ.go (JC.seq (JC.block (JC.seq (JC.region (by rfl) ?_)))))
   intro hQ
   refine JL.move .none rfl ?_
   refine JL.assign .none rfl ?_
   refine JL.done hQ (JQ.go (JC.seq (JC.region (by rfl) ?_)))
   intro hQ
   refine JL.move .none rfl ?_
   refine JL.move .none rfl ?_
   refine JL.move .none rfl ?_
   obtain ⟨y60, hy60, hF⟩ := bind_some hF
   refine JL.indexSL (R := R_Gust) sl_103 (SL.mono R_Gust_mono hs56 hs_0) rfl hy60 .none rfl ?_
   rintro b61 o62 cs63 hc64 - rfl
   refine JL.loadH 0 az_86 rfl hc64 rfl .none rfl ?_
   obtain ⟨y65, hy65, hF⟩ := bind_some hF
   refine JL.callV rfl (f__h H56 hs56 y60 y65 hy65) rfl f__e .none rfl ?_
   refine JL.done hQ (JQ.go ?_)
   rcases ite_some hF with ⟨hc66, hF⟩ | ⟨hc66, hF⟩
   ·refine JC.cond_t (b := y65) rfl hc66 ?_
    refine JC.seq (JC.region (by rfl) ?_)
    intro hQ
    refine JL.move .none rfl ?_
    refine JL.assign .none rfl ?_
    refine JL.done hQ (JQ.go (JC.fresh (fun f => f 4 = .int .i64 x_55) rfl ?_))
    rintro f hf4
    refine (JC.norm (i := 4) hf4 ?_)
    refine JC.ret (JQ.ret_block (JQ.ret_then (JQ.ret_then (JQ.ret_block (JQ.ret_join (JQ.ret_then ?_))))))
    obtain rfl := Option.some.inj hF
    have ehr57 := hr57 _ rfl
    subst ehr57
    have hF := hKr34
    try dsimp only at hF
    obtain rfl := Option.some.inj hF
    exact JQ.outS rfl (.tmp .nil) rfl
   ·refine JC.cond_f (b := y65) rfl hc66 ?_
    refine JC.skip (JQ.normal_block (JQ.go (JC.region (by rfl) ?_)))
    intro hQ
    refine JL.bin rfl rfl rfl .none rfl ?_
    refine JL.move .none rfl ?_
    refine JL.done hQ ?_
    obtain rfl := Option.some.inj hF
    exact JQ.next rfl ⟨rfl, rfl, rfl, rfl, rfl, rfl, hs56⟩
  ·refine JC.cond_f (b := decide (x_55 < (s.length : Int))) rfl hc59 ?_
   refine JC.exit (JQ.exit_then (JQ.exit_then (JQ.exit_block ?_)))
   obtain rfl := Option.some.inj hF
   have ehr57 := hr57 _ rfl
   subst ehr57
   exact JQ.join () ⟨rfl, rfl, hs56, rfl⟩
 ·rintro _ H33 f bs gs ⟨rfl, rfl, hs33, rfl⟩
  have hF := hKr34
  try dsimp only at hF
  refine JQ.go (JC.seq (JC.region (by rfl) ?_))
  intro hQ
  refine JL.assign .none rfl ?_
  refine JL.done hQ (JQ.go (JC.ret ?_))
  obtain rfl := Option.some.inj hF
  exact JQ.outS rfl (.tmp .nil) rfl
-- 144 slices.ContainsFunc[[]ferrule/api.Gust,ferrule/api.Gust]
def F_slices_ContainsFunc___api_Gust_api_Gust_ (n : Nat) (s : List Gust) (f_ : Gust → Option Bool) : Option Bool :=
 (F_slices_IndexFunc___api_Gust_api_Gust_ n s f_).bind fun y1 => some (decide (0 ≤ y1))
theorem c_slices_ContainsFunc___api_Gust_api_Gust_ (n : Nat) (H : Hp) (s : List Gust) (s_v0 : Value) (hs_0 : SL H 2 R_Gust s_v0 s) (f_ : Gust → Option Bool) (f__k : Nat) (f__c : List Value) (f__e : Ent Try.prog f__k) (f__h : ∀ H', HSub H H' → ∀ (a0_ : Gust) (y : Bool), f_ a0_ = some y → SC Try.prog f__k ([.agg [.int .i64 a0_.Force, .int .i64 a0_.At].toArray] ++ f__c) (.bool y) H') (y : Bool) (hF : F_slices_ContainsFunc___api_Gust_api_Gust_ n s f_ = some y) : SC Try.prog 144 [s_v0, .func (.func f__k) #[] f__c.toArray] (.bool y) H := by
 rw [F_slices_ContainsFunc___api_Gust_api_Gust_] at hF
 refine SC.of (N := 9) Try.func144 rfl rfl rfl fun w => ?_
 refine JC.seq (JC.region (by rfl) ?_)
 intro hQ
 refine JL.assign .none rfl ?_
 refine JL.done hQ (JQ.go (JC.seq (JC.region (by rfl) ?_)))
 intro hQ
 refine JL.move .none rfl ?_
 refine JL.move .none rfl ?_
 obtain ⟨y1, hy1, hF⟩ := bind_some hF
 refine JL.callS (c_slices_IndexFunc___api_Gust_api_Gust_ n H s s_v0 hs_0 f_ f__k f__c f__e (fun H' hs' => f__h H' hs') y1 hy1) rfl en_179 .none rfl ?_
 refine JL.bin rfl rfl rfl .none rfl ?_
 refine JL.assign .none rfl ?_
 refine JL.done hQ (JQ.go (JC.ret ?_))
 obtain rfl := Option.some.inj hF
 exact JQ.outS rfl (.tmp .nil) rfl
-- 87 ferrule/gusts.ask
def F_gusts_ask (n : Nat) (d : Canopy) (class_ : List Gust) : Option Int :=
 (F_gusts_Check n d).bind fun y2 => if (y2 != 0) = true then (some y2) else ((if decide (20 < (class_.length : Int)) = true then (some true) else ((F_slices_ContainsFunc___api_Gust_api_Gust_ n class_ (fun a0_ => F_gusts_ask_1 n a0_ d)).bind fun y13 => some y13) : Option Bool).bind fun p7 => if p7 = true then (some 1) else (some 0))
theorem c_gusts_ask (n : Nat) (H : Hp) (d : Canopy) (d_v0 : Value) (hd_0 : SL H 7 R_Section d_v0 d.Frame.Sections) (d_v7 : Value) (hd_7 : SL H 2 R_Span d_v7 d.Ribs) (d_v8 : Value) (hd_8 : SL H 1 RInt d_v8 d.Shares) (class_ : List Gust) (class__v0 : Value) (hclass__0 : SL H 2 R_Gust class__v0 class_) (y : Int) (hF : F_gusts_ask n d class_ = some y) : SC Try.prog 87 [.agg [d_v0, .int .i64 d.Frame.Low, .int .i64 d.Frame.High, .int .i64 d.Frame.Ease.Num, .int .i64 d.Frame.Ease.Den, .int .i64 d.Frame.Rod, .int .i64 d.Frame.Case, d_v7, d_v8].toArray, class__v0] (.int .i64 y) H := by
 rw [F_gusts_ask] at hF
 refine SC.of (N := 21) Try.func87 rfl rfl rfl fun w => ?_
 refine JC.seq (JC.region (by rfl) ?_)
 intro hQ
 refine JL.box (cs := [d_v0, .int .i64 d.Frame.Low, .int .i64 d.Frame.High, .int .i64 d.Frame.Ease.Num, .int .i64 d.Frame.Ease.Den, .int .i64 d.Frame.Rod, .int .i64 d.Frame.Case, d_v7, d_v8]) rfl .none rfl ?_
 intro b1
 refine JL.assign .none rfl ?_
 refine JL.done hQ (JQ.go (JC.seq (JC.seq (JC.region (by rfl) ?_))))
 intro hQ
 refine JL.loadOwn 0 az_76 rfl rfl rfl .none rfl ?_
 obtain ⟨y2, hy2, hF⟩ := bind_some hF
 refine JL.callS (c_gusts_Check n H d d_v0 hd_0 d_v7 hd_7 d_v8 hd_8 y2 hy2) rfl en_84 .none rfl ?_
 refine JL.assign .none rfl ?_
 refine JL.done hQ (JQ.go (JC.seq (JC.region (by rfl) ?_)))
 intro hQ
 refine JL.move .none rfl ?_
 refine JL.bin rfl rfl rfl .none rfl ?_
 refine JL.done hQ (JQ.go ?_)
 rcases ite_some hF with ⟨hc3, hF⟩ | ⟨hc3, hF⟩
 ·refine JC.cond_t (b := (y2 != 0)) rfl hc3 ?_
  refine JC.seq (JC.region (by rfl) ?_)
  intro hQ
  refine JL.move .none rfl ?_
  refine JL.assign .none rfl ?_
  refine JL.done hQ (JQ.go (JC.ret (JQ.ret_then ?_)))
  obtain rfl := Option.some.inj hF
  exact JQ.outS rfl (.tmp .nil) rfl
 ·refine JC.cond_f (b := (y2 != 0)) rfl hc3 ?_
  refine JC.skip (JQ.go (JC.seq (JC.region (by rfl) ?_)))
  intro hQ
  refine JL.makeFunc .none rfl ?_
  refine JL.assign .none rfl ?_
  refine JL.done hQ (JQ.go (JC.seq (JC.seq (JC.region (by rfl) ?_))))
  intro hQ
  refine JL.move .none rfl ?_
  refine JL.lenSL (R := R_Gust) ul_103 hclass__0 .none rfl ?_
  refine JL.bin rfl rfl rfl .none rfl ?_
  refine JL.move .none rfl ?_
  obtain ⟨p7, hp7, hF⟩ := bind_some hF
  refine JL.cutW 4 (fun H8 f bs gs => f 20 = .bool p7 ∧ bs = [] ∧ gs = [] ∧ HSub H H8) ?_ ?_
  ·intro hJ9
   rcases ite_some hp7 with ⟨hc10, hF⟩ | ⟨hc10, hF⟩
   ·skip
    refine JL.skip (.bool rfl rfl rfl hc10) rfl ?_
    refine JL.skip (.bool rfl rfl rfl hc10) rfl ?_
    refine JL.skip (.bool rfl rfl rfl hc10) rfl ?_
    refine JL.pick_t (b := decide (20 < (class_.length : Int))) rfl hc10 .none rfl ?_
    obtain rfl := Option.some.inj hF
    refine JL.mask [false] [] ?_
    exact hJ9 _ _ _ _ ⟨rfl, rfl, rfl, (HSub.refl _)⟩
   ·skip
    refine JL.move (.some rfl rfl rfl hc10) rfl ?_
    refine JL.move (.some rfl rfl rfl hc10) rfl ?_
    refine JL.freezeC 0 (l := [d_v0, .int .i64 d.Frame.Low, .int .i64 d.Frame.High, .int .i64 d.Frame.Ease.Num, .int .i64 d.Frame.Ease.Den, .int .i64 d.Frame.Rod, .int .i64 d.Frame.Case, d_v7, d_v8]) rfl ?_
    intro H11 hs11 hc12
    obtain ⟨y13, hy13, hF⟩ := bind_some hF
    refine JL.callS (c_slices_ContainsFunc___api_Gust_api_Gust_ n H11 class_ class__v0 (SL.mono R_Gust_mono hs11 hclass__0) (fun a0_ => F_gusts_ask_1 n a0_ d) 143 [.pointer (some ⟨b1, 0, none⟩)] en_143 (fun H' hs' a0_ y' hy' => c_gusts_ask_1 n H' a0_ d d_v0 (SL.mono R_Section_mono hs' (SL.mono R_Section_mono hs11 hd_0)) d_v7 (SL.mono R_Span_mono hs' (SL.mono R_Span_mono hs11 hd_7)) d_v8 (SL.mono RInt.mono hs' (SL.mono RInt.mono hs11 hd_8)) b1 (Cells.mono hs' hc12) y' hy') y13 hy13) rfl en_144 (.some rfl rfl rfl hc10) rfl ?_
    refine JL.pick_f (b := decide (20 < (class_.length : Int))) rfl hc10 .none rfl ?_
    obtain rfl := Option.some.inj hF
    refine JL.mask [] [] ?_
    exact hJ9 _ _ _ _ ⟨rfl, rfl, rfl, hs11⟩
  ·rintro H8 f bs gs ⟨hf20, rfl, rfl, hs8⟩
   refine (JL.norm (i := 20) hf20 ?_)
   refine JL.done hQ (JQ.go ?_)
   rcases ite_some hF with ⟨hc14, hF⟩ | ⟨hc14, hF⟩
   ·refine JC.cond_t (b := p7) rfl hc14 ?_
    refine JC.seq (JC.region (by rfl) ?_)
    intro hQ
    refine JL.assign .none rfl ?_
    refine JL.done hQ (JQ.go (JC.ret (JQ.ret_then ?_)))
    obtain rfl := Option.some.inj hF
    exact JQ.outS rfl (.tmp .nil) rfl
   ·refine JC.cond_f (b := p7) rfl hc14 ?_
    refine JC.skip (JQ.go (JC.seq (JC.region (by rfl) ?_)))
    intro hQ
    refine JL.assign .none rfl ?_
    refine JL.done hQ (JQ.go (JC.ret ?_))
    obtain rfl := Option.some.inj hF
    exact JQ.outS rfl (.tmp .nil) rfl
end Go.Proofs.Yteihdclpiekmaaa
end
section
set_option maxRecDepth 100000
set_option maxHeartbeats 40000000
namespace Go.Proofs.Yteihdclpiekmaaa
open Go Go.RowKit Go.Dec
set_option linter.unusedVariables false
-- 88 ferrule/gusts.ends
def F_gusts_ends_s1 (n : Nat) (d : Canopy) : Int × List Int × List Int → Option ((Int × List Int × List Int) ⊕ (List Int × List Int))
 | (x_1387, out_1388, out_1389) => if decide (x_1387 < (d.Ribs.length : Int)) = true then ((geti d.Ribs x_1387).bind fun y1394 => (lim (out_1388 ++ [y1394.High])).bind fun l1401 => (lim (out_1389 ++ [y1394.Low])).bind fun l1406 => some (Sum.inl ((w64 (x_1387 + 1)), l1401, l1406))) else (some (Sum.inr (out_1388, out_1389)))
def F_gusts_ends (n : Nat) (d : Canopy) : Option (gusts_blown × gusts_blown) :=
 (F_gusts_lift n d).bind fun y4 => (loopO n (F_gusts_ends_s1 n d) (0, ([] : List Int), ([] : List Int))).bind fun r1010 => match r1010 with | (out_1007, out_1008) => some ((gusts_blown.mk y4.Low out_1007 d.Shares), (gusts_blown.mk y4.High out_1008 d.Shares))
theorem c_gusts_ends (n : Nat) (H : Hp) (d : Canopy) (d_v0 : Value) (hd_0 : SL H 7 R_Section d_v0 d.Frame.Sections) (d_v7 : Value) (hd_7 : SL H 2 R_Span d_v7 d.Ribs) (d_v8 : Value) (hd_8 : SL H 1 RInt d_v8 d.Shares) (y : gusts_blown × gusts_blown) (hF : F_gusts_ends n d = some y) : HC Try.prog 88 [.agg [d_v0, .int .i64 d.Frame.Low, .int .i64 d.Frame.High, .int .i64 d.Frame.Ease.Num, .int .i64 d.Frame.Ease.Den, .int .i64 d.Frame.Rod, .int .i64 d.Frame.Case, d_v7, d_v8].toArray] H (fun H' v => ∃ ra_v1 ra_v2 rb_v1 rb_v2 : Value, v = .tuple [.agg [.int .i64 y.1.lift, ra_v1, ra_v2].toArray, .agg [.int .i64 y.2.lift, rb_v1, rb_v2].toArray].toArray ∧ SL H' 1 RInt ra_v1 y.1.ribs ∧ SL H' 1 RInt ra_v2 y.1.shares ∧ SL H' 1 RInt rb_v1 y.2.ribs ∧ SL H' 1 RInt rb_v2 y.2.shares) := by
 rw [F_gusts_ends] at hF
 refine HC.of (N := 43) Try.func88 rfl rfl rfl fun w => ?_
 refine JC.seq (JC.region (by rfl) ?_)
 intro hQ
 refine JL.box (cs := [d_v0, .int .i64 d.Frame.Low, .int .i64 d.Frame.High, .int .i64 d.Frame.Ease.Num, .int .i64 d.Frame.Ease.Den, .int .i64 d.Frame.Rod, .int .i64 d.Frame.Case, d_v7, d_v8]) rfl .none rfl ?_
 intro b1
 refine JL.alloc ze_156 .none rfl ?_
 intro b2
 refine JL.alloc ze_156 .none rfl ?_
 intro b3
 refine JL.done hQ (JQ.go (JC.seq (JC.region (by rfl) ?_)))
 intro hQ
 refine JL.loadOwn 2 az_76 rfl rfl rfl .none rfl ?_
 obtain ⟨y4, hy4, hF⟩ := bind_some hF
 refine JL.callS (c_gusts_lift n H d d_v0 hd_0 d_v7 hd_7 d_v8 hd_8 y4 hy4) rfl en_85 .none rfl ?_
 refine JL.alloc ze_39 .none rfl ?_
 intro b5
 refine JL.storeOwn 0 (cs := [.int .i64 y4.Low, .int .i64 y4.High]) az_39 rfl rfl rfl (one_cons rfl (one_cons rfl one_nil)) rfl rfl .none ?_
 refine JL.done hQ (JQ.go (JC.seq ?_))
 obtain ⟨a9, c10, rfl, hh11⟩ := hd_0
 have hd_0 : SL H 7 R_Section (.slice a9 d.Frame.Sections.length c10) d.Frame.Sections := ⟨a9, c10, rfl, hh11⟩
 obtain ⟨a12, c13, rfl, hh14⟩ := hd_7
 have hd_7 : SL H 2 R_Span (.slice a12 d.Ribs.length c13) d.Ribs := ⟨a12, c13, rfl, hh14⟩
 obtain ⟨a15, c16, rfl, hh17⟩ := hd_8
 have hd_8 : SL H 1 RInt (.slice a15 d.Shares.length c16) d.Shares := ⟨a15, c16, rfl, hh17⟩
 refine JC.mixed 12 12 #[false, false, false, false, false, false, false, false, false, false, false, false] [(b5, .cells [.int .i64 y4.Low, .int .i64 y4.High].toArray 39), (b1, .cells [(.slice a9 d.Frame.Sections.length c10), .int .i64 d.Frame.Low, .int .i64 d.Frame.High, .int .i64 d.Frame.Ease.Num, .int .i64 d.Frame.Ease.Den, .int .i64 d.Frame.Rod, .int .i64 d.Frame.Case, (.slice a12 d.Ribs.length c13), (.slice a15 d.Shares.length c16)].toArray 76)] (by rfl) mo_ (by kernel_rfl) (by kernel_rfl) ?_
 intro hQ hE
 refine JA.take 0 (listed' := #[true, false, false, false, false, false, false, false, false, false, false, false]) hQ rfl (by kernel_rfl) (by kernel_rfl) (by kernel_rfl) (by kernel_rfl) (by kernel_rfl) hE (HSub.refl _) (.cons_cons _ (.cons _ (.cons _ (.cons_cons _ (List.nil_sublist _))))) ?_
 refine JL.fieldAddr fo_39_0 rfl .none rfl ?_
 refine JA.cont ?_
 refine JA.take 1 (listed' := #[true, true, false, false, false, false, false, false, false, false, false, false]) hQ rfl (by kernel_rfl) (by kernel_rfl) (by kernel_rfl) (by kernel_rfl) (by kernel_rfl) hE (HSub.refl _) (.cons_cons _ (.cons _ (.cons _ (.cons_cons _ (List.nil_sublist _))))) ?_
 refine JL.loadOwn 0 az_3 rfl rfl rfl .none rfl ?_
 refine JA.cont ?_
 refine JA.take 2 (listed' := #[true, true, true, false, false, false, false, false, false, false, false, false]) hQ rfl (by kernel_rfl) (by kernel_rfl) (by kernel_rfl) (by kernel_rfl) (by kernel_rfl) hE (HSub.refl _) (.cons_cons _ (.cons _ (.cons _ (.cons_cons _ (List.nil_sublist _))))) ?_
 refine JL.fieldAddr fo_76_2 rfl .none rfl ?_
 refine JA.cont ?_
 refine JA.take 3 (listed' := #[true, true, true, true, false, false, false, false, false, false, false, false]) hQ rfl (by kernel_rfl) (by kernel_rfl) (by kernel_rfl) (by kernel_rfl) (by kernel_rfl) hE (HSub.refl _) (.cons_cons _ (.cons _ (.cons _ (.cons_cons _ (List.nil_sublist _))))) ?_
 refine JL.loadOwn 1 az_23 rfl rfl rfl .none rfl ?_
 refine JA.cont ?_
 refine JA.take 4 (listed' := #[true, true, true, true, true, false, false, false, false, false, false, false]) hQ rfl (by kernel_rfl) (by kernel_rfl) (by kernel_rfl) (by kernel_rfl) (by kernel_rfl) hE (HSub.refl _) (.cons_cons _ (.cons _ (.cons _ (.cons_cons _ (List.nil_sublist _))))) ?_
 refine JL.build (l := [.int .i64 y4.Low, .slice none 0 0, (.slice a15 d.Shares.length c16)]) (by kernel_rfl) .none rfl ?_
 refine JA.cont ?_
 refine JA.take 5 (listed' := #[true, true, true, true, true, true, false, false, false, false, false, false]) hQ rfl (by kernel_rfl) (by kernel_rfl) (by kernel_rfl) (by kernel_rfl) (by kernel_rfl) hE (HSub.refl _) (.cons_cons _ (.cons _ (.cons _ (.cons_cons _ (List.nil_sublist _))))) ?_
 refine JL.fieldAddr fo_39_1 rfl .none rfl ?_
 refine JA.cont ?_
 refine JA.take 6 (listed' := #[true, true, true, true, true, true, true, false, false, false, false, false]) hQ rfl (by kernel_rfl) (by kernel_rfl) (by kernel_rfl) (by kernel_rfl) (by kernel_rfl) hE (HSub.refl _) (.cons_cons _ (.cons _ (.cons _ (.cons_cons _ (List.nil_sublist _))))) ?_
 refine JL.loadOwn 0 az_3 rfl rfl rfl .none rfl ?_
 refine JA.cont ?_
 refine JA.take 7 (listed' := #[true, true, true, true, true, true, true, true, false, false, false, false]) hQ rfl (by kernel_rfl) (by kernel_rfl) (by kernel_rfl) (by kernel_rfl) (by kernel_rfl) hE (HSub.refl _) (.cons_cons _ (.cons _ (.cons _ (.cons_cons _ (List.nil_sublist _))))) ?_
 refine JL.fieldAddr fo_76_2 rfl .none rfl ?_
 refine JA.cont ?_
 refine JA.take 8 (listed' := #[true, true, true, true, true, true, true, true, true, false, false, false]) hQ rfl (by kernel_rfl) (by kernel_rfl) (by kernel_rfl) (by kernel_rfl) (by kernel_rfl) hE (HSub.refl _) (.cons_cons _ (.cons _ (.cons _ (.cons_cons _ (List.nil_sublist _))))) ?_
 refine JL.loadOwn 1 az_23 rfl rfl rfl .none rfl ?_
 refine JA.cont ?_
 refine JA.take 9 (listed' := #[true, true, true, true, true, true, true, true, true, true, false, false]) hQ rfl (by kernel_rfl) (by kernel_rfl) (by kernel_rfl) (by kernel_rfl) (by kernel_rfl) hE (HSub.refl _) (.cons_cons _ (.cons _ (.cons _ (.cons_cons _ (List.nil_sublist _))))) ?_
 refine JL.build (l := [.int .i64 y4.High, .slice none 0 0, (.slice a15 d.Shares.length c16)]) (by kernel_rfl) .none rfl ?_
 refine JA.cont ?_
 refine JA.many [10] (by kernel_rfl) (by simp) (all_one ⟨_, #[true, true, true, true, true, true, true, true, true, true, true, false], rfl, (by kernel_rfl), ?_⟩)
 refine JL.storeOwn 2 (cs := [.int .i64 y4.Low, .slice none 0 0, (.slice a15 d.Shares.length c16)]) az_156 rfl rfl rfl (one_cons rfl (one_cons rfl (one_cons (SL.one hd_8) one_nil))) rfl rfl .none ?_
 refine JA.after hE (HSub.refl _) (.cons_cons _ (.cons _ (.cons _ (.cons_cons _ (List.nil_sublist _))))) ?_
 refine JA.many [11] (by kernel_rfl) (by simp) (all_one ⟨_, #[true, true, true, true, true, true, true, true, true, true, true, true], rfl, (by kernel_rfl), ?_⟩)
 refine JL.storeOwn 1 (cs := [.int .i64 y4.High, .slice none 0 0, (.slice a15 d.Shares.length c16)]) az_156 rfl rfl rfl (one_cons rfl (one_cons rfl (one_cons (SL.one hd_8) one_nil))) rfl rfl .none ?_
 refine JA.after hE (HSub.refl _) (.cons_cons _ (.cons _ (.cons _ (.cons_cons _ (List.nil_sublist _))))) ?_
 refine JA.done hQ (by kernel_rfl) ?_
 refine JQ.go (JC.fresh (fun f => f 1 = .pointer (some ⟨b1, 0, none⟩) ∧ f 2 = .pointer (some ⟨b2, 0, none⟩) ∧ f 3 = .pointer (some ⟨b3, 0, none⟩)) ⟨rfl, rfl, rfl⟩ ?_)
 rintro f ⟨hf1, hf2, hf3⟩
 refine (JC.norm (i := 1) hf1 (JC.norm (i := 2) hf2 (JC.norm (i := 3) hf3 ?_)))
 refine JC.seq (JC.seq (JC.region (by rfl) ?_))
 intro hQ
 refine JL.fieldAddr fo_76_1 rfl .none rfl ?_
 refine JL.loadOwn 3 az_24 rfl rfl rfl .none rfl ?_
 refine JL.lenSL (R := R_Span) ul_24 hd_7 .none rfl ?_
 refine JL.move .none rfl ?_
 refine JL.done hQ (JQ.go (JC.newNil (e := 3) (sz := 1) ?_))
 refine JC.newNil (e := 3) (sz := 1) ?_
 obtain ⟨r1010, hlr1010, hKr1010⟩ := bind_some hF
 refine JC.join (fun (x : List Int × List Int) H1009 f bs gs => match x with | (out_1007, out_1008) => ∃ (vout_1007 : Value) (xsout_1007 : List Value) (vout_1008 : Value) (xsout_1008 : List Value), f 2 = .pointer (some ⟨b2, 0, none⟩) ∧ f 3 = .pointer (some ⟨b3, 0, none⟩) ∧ bs = [(b3, .cells [.int .i64 y4.High, vout_1008, (.slice a15 d.Shares.length c16)].toArray 156), (b2, .cells [.int .i64 y4.Low, vout_1007, (.slice a15 d.Shares.length c16)].toArray 156)] ∧ gs = [⟨vout_1007, 3, 1, out_1007.length, xsout_1007⟩, ⟨vout_1008, 3, 1, out_1008.length, xsout_1008⟩] ∧ CH H1009 1 RInt xsout_1007 out_1007 ∧ CH H1009 1 RInt xsout_1008 out_1008 ∧ HSub H H1009 ∧ (out_1007, out_1008) = r1010) ?_ ?_
 ·skip
  refine JC.block (JC.mask [false, true, true, false] [true, true] ?_)
  refine JC.loop hlr1010 (fun (x : Int × List Int × List Int) H1390 f bs gs => match x with | (x_1387, out_1388, out_1389) => ∃ (vout_1388 : Value) (xsout_1388 : List Value) (vout_1389 : Value) (xsout_1389 : List Value), f 2 = .pointer (some ⟨b2, 0, none⟩) ∧ f 3 = .pointer (some ⟨b3, 0, none⟩) ∧ f 20 = (.slice a12 d.Ribs.length c13) ∧ f 21 = .int .i64 (d.Ribs.length : Int) ∧ f 22 = .int .i64 x_1387 ∧ bs = [(b3, .cells [.int .i64 y4.High, vout_1389, (.slice a15 d.Shares.length c16)].toArray 156), (b2, .cells [.int .i64 y4.Low, vout_1388, (.slice a15 d.Shares.length c16)].toArray 156)] ∧ gs = [⟨vout_1388, 3, 1, out_1388.length, xsout_1388⟩, ⟨vout_1389, 3, 1, out_1389.length, xsout_1389⟩] ∧ CH H1390 1 RInt xsout_1388 out_1388 ∧ CH H1390 1 RInt xsout_1389 out_1389 ∧ HSub H H1390) ⟨(.slice none 0 0), [], (.slice none 0 0), [], rfl, rfl, rfl, rfl, rfl, rfl, rfl, CH.nil, CH.nil, (HSub.refl _)⟩ ?_
  rintro ⟨x_1387, out_1388, out_1389⟩ x1392 H1390 f bs gs ⟨vout_1388, xsout_1388, vout_1389, xsout_1389, hf2, hf3, hf20, hf21, hf22, rfl, rfl, hout_1388, hout_1389, hs1390⟩ hF hr1391
  rw [F_gusts_ends_s1] at hF
  refine (JC.norm (i := 2) hf2 (JC.norm (i := 3) hf3 (JC.norm (i := 20) hf20 (JC.norm (i := 21) hf21 (JC.norm (i := 22) hf22 ?_)))))
  refine JC.seq (JC.region (by rfl) ?_)
  intro hQ
  refine JL.bin rfl rfl rfl .none rfl ?_
  refine JL.done hQ (JQ.go (JC.seq ?_))
  rcases ite_some hF with ⟨hc1393, hF⟩ | ⟨hc1393, hF⟩
  ·refine JC.cond_t (b := decide (x_1387 < (d.Ribs.length : Int))) rfl hc1393 ?_
   refine JC.skip (JQ.go (JC.seq (JC.block (JC.seq (JC.region (by rfl) ?_)))))
   intro hQ
   obtain ⟨y1394, hy1394, hF⟩ := bind_some hF
   refine JL.indexSL (R := R_Span) sl_24 (SL.mono R_Span_mono hs1390 hd_7) rfl hy1394 .none rfl ?_
   rintro b1395 o1396 cs1397 hc1398 - rfl
   refine JL.loadH 0 az_39 rfl hc1398 rfl .none rfl ?_
   refine JL.alloc ze_39 .none rfl ?_
   intro b1399
   refine JL.storeOwn 0 (cs := [.int .i64 y1394.Low, .int .i64 y1394.High]) az_39 rfl rfl rfl (one_cons rfl (one_cons rfl one_nil)) rfl rfl .none ?_
   refine JL.done hQ (JQ.go ?_)
   obtain ⟨l1401, hl1401, hF⟩ := bind_some hF
   obtain ⟨l1406, hl1406, hF⟩ := bind_some hF
   refine JC.mixed 16 16 #[false, false, false, false, false, false, false, false, false, false, false, false, false, false, false, false] [(b1399, .cells [.int .i64 y1394.Low, .int .i64 y1394.High].toArray 39)] (by rfl) mo_ (by kernel_rfl) (by kernel_rfl) ?_
   intro hQ hE
   refine JA.cut 4 #[true, true, true, true, true, true, true, true, true, true, true, false, true, false, false, false] (fun H1525 f bs gs => ∃ (b1516 : Nat) (b1492 : Nat) (v1498 : Value) (xs1499 : List Value), f 2 = .pointer (some ⟨b2, 0, none⟩) ∧ f 3 = .pointer (some ⟨b3, 0, none⟩) ∧ f 20 = (.slice a12 d.Ribs.length c13) ∧ f 21 = .int .i64 (d.Ribs.length : Int) ∧ f 22 = .int .i64 x_1387 ∧ f 31 = v1498 ∧ f 33 = vout_1389 ∧ f 36 = .slice (some ⟨b1516, 0, none⟩) 1 1 ∧ f 38 = .pointer (some ⟨b2, 1, none⟩) ∧ bs = [(b1516, .cells [.int .i64 y1394.Low].toArray 3), (b1492, .cells [.int .i64 y1394.High].toArray 3), (b1399, .cells [.int .i64 y1394.Low, .int .i64 y1394.High].toArray 39), (b3, .cells [.int .i64 y4.High, vout_1389, (.slice a15 d.Shares.length c16)].toArray 156), (b2, .cells [.int .i64 y4.Low, vout_1388, (.slice a15 d.Shares.length c16)].toArray 156)] ∧ gs = [⟨v1498, 3, 1, l1401.length, xs1499⟩, ⟨vout_1389, 3, 1, out_1389.length, xsout_1389⟩] ∧ CH H1525 1 RInt xs1499 l1401 ∧ HSub H1390 H1525) ?_ ?_
   ·rintro H1525 f bs gs ⟨b1516, b1492, v1498, xs1499, hf2, hf3, hf20, hf21, hf22, hf31, hf33, hf36, hf38, rfl, rfl, hm1526, hs1525⟩
    refine (JA.norm (i := 2) hf2 (JA.norm (i := 3) hf3 (JA.norm (i := 20) hf20 (JA.norm (i := 21) hf21 (JA.norm (i := 22) hf22 (JA.norm (i := 31) hf31 (JA.norm (i := 33) hf33 (JA.norm (i := 36) hf36 (JA.norm (i := 38) hf38 ?_)))))))))
    refine JA.many [11] (by kernel_rfl) (by simp) (all_one ⟨_, #[true, true, true, true, true, true, true, true, true, true, true, true, true, false, false, false], rfl, (by kernel_rfl), ?_⟩)
    refine JL.appO (R := RInt) 1 0 (l := out_1389) (m := [y1394.Low]) ap_23 rfl ⟨rfl, rfl⟩ rfl (CH.mono RInt.mono hs1525 hout_1389) rfl rfl rfl (CH.cons (cs := [.int .i64 y1394.Low]) rfl rfl CH.nil) rfl (one_cons rfl one_nil) hl1406 .none rfl ?_
    intro v1527 xs1528 hch1529
    refine JA.after hE hs1525 (.cons _ (.cons _ (.cons_cons _ (.cons _ (.cons _ (List.nil_sublist _)))))) ?_
    refine JA.many [13] (by kernel_rfl) (by simp) (all_one ⟨_, #[true, true, true, true, true, true, true, true, true, true, true, true, true, true, false, false], rfl, (by kernel_rfl), ?_⟩)
    refine JL.oneG 0 rfl (fun ho1530 => ?_)
    refine JL.storeOwn 4 (cs := [v1498]) az_23 rfl ho1530.2 rfl (one_cons ho1530.1 one_nil) rfl rfl .none ?_
    refine JA.after hE hs1525 (.cons _ (.cons _ (.cons_cons _ (.cons _ (.cons _ (List.nil_sublist _)))))) ?_
    refine JA.take 14 (listed' := #[true, true, true, true, true, true, true, true, true, true, true, true, true, true, true, false]) hQ rfl (by kernel_rfl) (by kernel_rfl) (by kernel_rfl) (by kernel_rfl) (by kernel_rfl) hE hs1525 (.cons _ (.cons _ (.cons_cons _ (.cons _ (.cons _ (List.nil_sublist _)))))) ?_
    refine JL.fieldAddr fo_156_1 rfl .none rfl ?_
    refine JA.cont ?_
    refine JA.many [15] (by kernel_rfl) (by simp) (all_one ⟨_, #[true, true, true, true, true, true, true, true, true, true, true, true, true, true, true, true], rfl, (by kernel_rfl), ?_⟩)
    refine JL.oneG 1 rfl (fun ho1531 => ?_)
    refine JL.storeOwn 3 (cs := [v1527]) az_23 rfl ho1531.2 rfl (one_cons ho1531.1 one_nil) rfl rfl .none ?_
    refine JA.after hE hs1525 (.cons _ (.cons _ (.cons_cons _ (.cons _ (.cons _ (List.nil_sublist _)))))) ?_
    refine JA.done hQ (by kernel_rfl) ?_
    refine JQ.normal_block (JQ.go (JC.region (by rfl) ?_))
    intro hQ
    refine JL.bin rfl rfl rfl .none rfl ?_
    refine JL.move .none rfl ?_
    refine JL.done hQ ?_
    obtain rfl := Option.some.inj hF
    refine JQ.mask [false, false, false, true, true] [true, true] ?_
    exact JQ.next rfl ⟨v1498, xs1499, v1527, xs1528, rfl, rfl, rfl, rfl, rfl, rfl, rfl, hm1526, hch1529, (HSub.trans hs1390 hs1525)⟩
   intro nd1524_0
   refine JA.cut 5 #[true, true, true, true, true, true, true, true, true, true, false, false, true, false, false, false] (fun H1532 f bs gs => ∃ (b1492 : Nat) (v1498 : Value) (xs1499 : List Value), f 2 = .pointer (some ⟨b2, 0, none⟩) ∧ f 3 = .pointer (some ⟨b3, 0, none⟩) ∧ f 20 = (.slice a12 d.Ribs.length c13) ∧ f 21 = .int .i64 (d.Ribs.length : Int) ∧ f 22 = .int .i64 x_1387 ∧ f 31 = v1498 ∧ f 33 = vout_1389 ∧ f 35 = .int .i64 y1394.Low ∧ f 38 = .pointer (some ⟨b2, 1, none⟩) ∧ bs = [(b1492, .cells [.int .i64 y1394.High].toArray 3), (b1399, .cells [.int .i64 y1394.Low, .int .i64 y1394.High].toArray 39), (b3, .cells [.int .i64 y4.High, vout_1389, (.slice a15 d.Shares.length c16)].toArray 156), (b2, .cells [.int .i64 y4.Low, vout_1388, (.slice a15 d.Shares.length c16)].toArray 156)] ∧ gs = [⟨v1498, 3, 1, l1401.length, xs1499⟩, ⟨vout_1389, 3, 1, out_1389.length, xsout_1389⟩] ∧ CH H1532 1 RInt xs1499 l1401 ∧ HSub H1390 H1532) ?_ ?_
   ·rintro H1532 f bs gs ⟨b1492, v1498, xs1499, hf2, hf3, hf20, hf21, hf22, hf31, hf33, hf35, hf38, rfl, rfl, hm1533, hs1532⟩
    refine (JA.norm (i := 2) hf2 (JA.norm (i := 3) hf3 (JA.norm (i := 20) hf20 (JA.norm (i := 21) hf21 (JA.norm (i := 22) hf22 (JA.norm (i := 31) hf31 (JA.norm (i := 33) hf33 (JA.norm (i := 35) hf35 (JA.norm (i := 38) hf38 ?_)))))))))
    refine JA.many [10] (by kernel_rfl) (by simp) (all_one ⟨_, #[true, true, true, true, true, true, true, true, true, true, true, false, true, false, false, false], rfl, (by kernel_rfl), ?_⟩)
    refine JL.buildSlice (e := 3) (l := [.int .i64 y1394.Low]) (by kernel_rfl) .none rfl ?_
    intro b1534
    refine JA.after hE hs1532 (.cons _ (.cons _ (.cons_cons _ (.cons _ (.cons _ (List.nil_sublist _)))))) ?_
    exact nd1524_0 _ _ _ _ ⟨b1534, b1492, v1498, xs1499, rfl, rfl, rfl, rfl, rfl, rfl, rfl, rfl, rfl, rfl, rfl, hm1533, hs1532⟩
   intro nd1524_1
   refine JA.cut 5 #[true, true, true, true, true, true, true, false, true, true, true, false, true, false, false, false] (fun H1535 f bs gs => ∃ (b1507 : Nat) (b1492 : Nat) (v1498 : Value) (xs1499 : List Value), f 2 = .pointer (some ⟨b2, 0, none⟩) ∧ f 3 = .pointer (some ⟨b3, 0, none⟩) ∧ f 20 = (.slice a12 d.Ribs.length c13) ∧ f 21 = .int .i64 (d.Ribs.length : Int) ∧ f 22 = .int .i64 x_1387 ∧ f 31 = v1498 ∧ f 32 = .pointer (some ⟨b3, 1, none⟩) ∧ f 36 = .slice (some ⟨b1507, 0, none⟩) 1 1 ∧ f 38 = .pointer (some ⟨b2, 1, none⟩) ∧ bs = [(b1507, .cells [.int .i64 y1394.Low].toArray 3), (b1492, .cells [.int .i64 y1394.High].toArray 3), (b1399, .cells [.int .i64 y1394.Low, .int .i64 y1394.High].toArray 39), (b3, .cells [.int .i64 y4.High, vout_1389, (.slice a15 d.Shares.length c16)].toArray 156), (b2, .cells [.int .i64 y4.Low, vout_1388, (.slice a15 d.Shares.length c16)].toArray 156)] ∧ gs = [⟨v1498, 3, 1, l1401.length, xs1499⟩, ⟨vout_1389, 3, 1, out_1389.length, xsout_1389⟩] ∧ CH H1535 1 RInt xs1499 l1401 ∧ HSub H1390 H1535) ?_ ?_
   ·rintro H1535 f bs gs ⟨b1507, b1492, v1498, xs1499, hf2, hf3, hf20, hf21, hf22, hf31, hf32, hf36, hf38, rfl, rfl, hm1536, hs1535⟩
    refine (JA.norm (i := 2) hf2 (JA.norm (i := 3) hf3 (JA.norm (i := 20) hf20 (JA.norm (i := 21) hf21 (JA.norm (i := 22) hf22 (JA.norm (i := 31) hf31 (JA.norm (i := 32) hf32 (JA.norm (i := 36) hf36 (JA.norm (i := 38) hf38 ?_)))))))))
    refine JA.many [7] (by kernel_rfl) (by simp) (all_one ⟨_, #[true, true, true, true, true, true, true, true, true, true, true, false, true, false, false, false], rfl, (by kernel_rfl), ?_⟩)
    refine JL.loadOwn 3 az_23 rfl rfl rfl .none rfl ?_
    refine JA.after hE hs1535 (.cons _ (.cons _ (.cons_cons _ (.cons _ (.cons _ (List.nil_sublist _)))))) ?_
    exact nd1524_0 _ _ _ _ ⟨b1507, b1492, v1498, xs1499, rfl, rfl, rfl, rfl, rfl, rfl, rfl, rfl, rfl, rfl, rfl, hm1536, hs1535⟩
   intro nd1524_2
   refine JA.cut 6 #[true, true, true, true, true, false, true, true, true, true, true, false, false, false, false, false] (fun H1537 f bs gs => ∃ (b1511 : Nat) (b1492 : Nat), f 2 = .pointer (some ⟨b2, 0, none⟩) ∧ f 3 = .pointer (some ⟨b3, 0, none⟩) ∧ f 20 = (.slice a12 d.Ribs.length c13) ∧ f 21 = .int .i64 (d.Ribs.length : Int) ∧ f 22 = .int .i64 x_1387 ∧ f 27 = vout_1388 ∧ f 30 = .slice (some ⟨b1492, 0, none⟩) 1 1 ∧ f 33 = vout_1389 ∧ f 36 = .slice (some ⟨b1511, 0, none⟩) 1 1 ∧ bs = [(b1511, .cells [.int .i64 y1394.Low].toArray 3), (b1492, .cells [.int .i64 y1394.High].toArray 3), (b1399, .cells [.int .i64 y1394.Low, .int .i64 y1394.High].toArray 39), (b3, .cells [.int .i64 y4.High, vout_1389, (.slice a15 d.Shares.length c16)].toArray 156), (b2, .cells [.int .i64 y4.Low, vout_1388, (.slice a15 d.Shares.length c16)].toArray 156)] ∧ gs = [⟨vout_1388, 3, 1, out_1388.length, xsout_1388⟩, ⟨vout_1389, 3, 1, out_1389.length, xsout_1389⟩] ∧ HSub H1390 H1537) ?_ ?_
   ·rintro H1537 f bs gs ⟨b1511, b1492, hf2, hf3, hf20, hf21, hf22, hf27, hf30, hf33, hf36, rfl, rfl, hs1537⟩
    refine (JA.norm (i := 2) hf2 (JA.norm (i := 3) hf3 (JA.norm (i := 20) hf20 (JA.norm (i := 21) hf21 (JA.norm (i := 22) hf22 (JA.norm (i := 27) hf27 (JA.norm (i := 30) hf30 (JA.norm (i := 33) hf33 (JA.norm (i := 36) hf36 ?_)))))))))
    refine JA.many [5] (by kernel_rfl) (by simp) (all_one ⟨_, #[true, true, true, true, true, true, true, true, true, true, true, false, false, false, false, false], rfl, (by kernel_rfl), ?_⟩)
    refine JL.appO (R := RInt) 0 1 (l := out_1388) (m := [y1394.High]) ap_23 rfl ⟨rfl, rfl⟩ rfl (CH.mono RInt.mono hs1537 hout_1388) rfl rfl rfl (CH.cons (cs := [.int .i64 y1394.High]) rfl rfl CH.nil) rfl (one_cons rfl one_nil) hl1401 .none rfl ?_
    intro v1538 xs1539 hch1540
    refine JA.after hE hs1537 (.cons _ (.cons _ (.cons_cons _ (.cons _ (.cons _ (List.nil_sublist _)))))) ?_
    refine JA.take 12 (listed' := #[true, true, true, true, true, true, true, true, true, true, true, false, true, false, false, false]) hQ rfl (by kernel_rfl) (by kernel_rfl) (by kernel_rfl) (by kernel_rfl) (by kernel_rfl) hE hs1537 (.cons _ (.cons _ (.cons_cons _ (.cons _ (.cons _ (List.nil_sublist _)))))) ?_
    refine JL.fieldAddr fo_156_1 rfl .none rfl ?_
    refine JA.cont ?_
    exact nd1524_0 _ _ _ _ ⟨b1511, b1492, v1538, xs1539, rfl, rfl, rfl, rfl, rfl, rfl, rfl, rfl, rfl, rfl, rfl, hch1540, hs1537⟩
   intro nd1524_3
   refine JA.cut 7 #[true, true, true, true, true, false, true, true, true, true, false, false, false, false, false, false] (fun H1541 f bs gs => ∃ (b1492 : Nat), f 2 = .pointer (some ⟨b2, 0, none⟩) ∧ f 3 = .pointer (some ⟨b3, 0, none⟩) ∧ f 20 = (.slice a12 d.Ribs.length c13) ∧ f 21 = .int .i64 (d.Ribs.length : Int) ∧ f 22 = .int .i64 x_1387 ∧ f 27 = vout_1388 ∧ f 30 = .slice (some ⟨b1492, 0, none⟩) 1 1 ∧ f 33 = vout_1389 ∧ f 35 = .int .i64 y1394.Low ∧ bs = [(b1492, .cells [.int .i64 y1394.High].toArray 3), (b1399, .cells [.int .i64 y1394.Low, .int .i64 y1394.High].toArray 39), (b3, .cells [.int .i64 y4.High, vout_1389, (.slice a15 d.Shares.length c16)].toArray 156), (b2, .cells [.int .i64 y4.Low, vout_1388, (.slice a15 d.Shares.length c16)].toArray 156)] ∧ gs = [⟨vout_1388, 3, 1, out_1388.length, xsout_1388⟩, ⟨vout_1389, 3, 1, out_1389.length, xsout_1389⟩] ∧ HSub H1390 H1541) ?_ ?_
   ·rintro H1541 f bs gs ⟨b1492, hf2, hf3, hf20, hf21, hf22, hf27, hf30, hf33, hf35, rfl, rfl, hs1541⟩
    refine (JA.norm (i := 2) hf2 (JA.norm (i := 3) hf3 (JA.norm (i := 20) hf20 (JA.norm (i := 21) hf21 (JA.norm (i := 22) hf22 (JA.norm (i := 27) hf27 (JA.norm (i := 30) hf30 (JA.norm (i := 33) hf33 (JA.norm (i := 35) hf35 ?_)))))))))
    refine JA.many [5, 10] (by kernel_rfl) (by simp) (all_cons ⟨_, #[true, true, true, true, true, true, true, true, true, true, false, false, false, false, false, false], rfl, (by kernel_rfl), ?_⟩ (all_one ⟨_, #[true, true, true, true, true, false, true, true, true, true, true, false, false, false, false, false], rfl, (by kernel_rfl), ?_⟩))
    ·skip
     refine JL.appO (R := RInt) 0 0 (l := out_1388) (m := [y1394.High]) ap_23 rfl ⟨rfl, rfl⟩ rfl (CH.mono RInt.mono hs1541 hout_1388) rfl rfl rfl (CH.cons (cs := [.int .i64 y1394.High]) rfl rfl CH.nil) rfl (one_cons rfl one_nil) hl1401 .none rfl ?_
     intro v1542 xs1543 hch1544
     refine JA.after hE hs1541 (.cons _ (.cons_cons _ (.cons _ (.cons _ (List.nil_sublist _))))) ?_
     refine JA.take 12 (listed' := #[true, true, true, true, true, true, true, true, true, true, false, false, true, false, false, false]) hQ rfl (by kernel_rfl) (by kernel_rfl) (by kernel_rfl) (by kernel_rfl) (by kernel_rfl) hE hs1541 (.cons _ (.cons_cons _ (.cons _ (.cons _ (List.nil_sublist _))))) ?_
     refine JL.fieldAddr fo_156_1 rfl .none rfl ?_
     refine JA.cont ?_
     exact nd1524_1 _ _ _ _ ⟨b1492, v1542, xs1543, rfl, rfl, rfl, rfl, rfl, rfl, rfl, rfl, rfl, rfl, rfl, hch1544, hs1541⟩
    ·skip
     refine JL.buildSlice (e := 3) (l := [.int .i64 y1394.Low]) (by kernel_rfl) .none rfl ?_
     intro b1545
     refine JA.after hE hs1541 (.cons _ (.cons _ (.cons_cons _ (.cons _ (.cons _ (List.nil_sublist _)))))) ?_
     exact nd1524_3 _ _ _ _ ⟨b1545, b1492, rfl, rfl, rfl, rfl, rfl, rfl, rfl, rfl, rfl, rfl, rfl, hs1541⟩
   intro nd1524_4
   refine JA.cut 7 #[true, true, true, true, true, false, true, false, true, true, true, false, false, false, false, false] (fun H1546 f bs gs => ∃ (b1501 : Nat) (b1492 : Nat), f 2 = .pointer (some ⟨b2, 0, none⟩) ∧ f 3 = .pointer (some ⟨b3, 0, none⟩) ∧ f 20 = (.slice a12 d.Ribs.length c13) ∧ f 21 = .int .i64 (d.Ribs.length : Int) ∧ f 22 = .int .i64 x_1387 ∧ f 27 = vout_1388 ∧ f 30 = .slice (some ⟨b1492, 0, none⟩) 1 1 ∧ f 32 = .pointer (some ⟨b3, 1, none⟩) ∧ f 36 = .slice (some ⟨b1501, 0, none⟩) 1 1 ∧ bs = [(b1501, .cells [.int .i64 y1394.Low].toArray 3), (b1492, .cells [.int .i64 y1394.High].toArray 3), (b1399, .cells [.int .i64 y1394.Low, .int .i64 y1394.High].toArray 39), (b3, .cells [.int .i64 y4.High, vout_1389, (.slice a15 d.Shares.length c16)].toArray 156), (b2, .cells [.int .i64 y4.Low, vout_1388, (.slice a15 d.Shares.length c16)].toArray 156)] ∧ gs = [⟨vout_1388, 3, 1, out_1388.length, xsout_1388⟩, ⟨vout_1389, 3, 1, out_1389.length, xsout_1389⟩] ∧ HSub H1390 H1546) ?_ ?_
   ·rintro H1546 f bs gs ⟨b1501, b1492, hf2, hf3, hf20, hf21, hf22, hf27, hf30, hf32, hf36, rfl, rfl, hs1546⟩
    refine (JA.norm (i := 2) hf2 (JA.norm (i := 3) hf3 (JA.norm (i := 20) hf20 (JA.norm (i := 21) hf21 (JA.norm (i := 22) hf22 (JA.norm (i := 27) hf27 (JA.norm (i := 30) hf30 (JA.norm (i := 32) hf32 (JA.norm (i := 36) hf36 ?_)))))))))
    refine JA.many [5, 7] (by kernel_rfl) (by simp) (all_cons ⟨_, #[true, true, true, true, true, true, true, false, true, true, true, false, false, false, false, false], rfl, (by kernel_rfl), ?_⟩ (all_one ⟨_, #[true, true, true, true, true, false, true, true, true, true, true, false, false, false, false, false], rfl, (by kernel_rfl), ?_⟩))
    ·skip
     refine JL.appO (R := RInt) 0 1 (l := out_1388) (m := [y1394.High]) ap_23 rfl ⟨rfl, rfl⟩ rfl (CH.mono RInt.mono hs1546 hout_1388) rfl rfl rfl (CH.cons (cs := [.int .i64 y1394.High]) rfl rfl CH.nil) rfl (one_cons rfl one_nil) hl1401 .none rfl ?_
     intro v1547 xs1548 hch1549
     refine JA.after hE hs1546 (.cons _ (.cons _ (.cons_cons _ (.cons _ (.cons _ (List.nil_sublist _)))))) ?_
     refine JA.take 12 (listed' := #[true, true, true, true, true, true, true, false, true, true, true, false, true, false, false, false]) hQ rfl (by kernel_rfl) (by kernel_rfl) (by kernel_rfl) (by kernel_rfl) (by kernel_rfl) hE hs1546 (.cons _ (.cons _ (.cons_cons _ (.cons _ (.cons _ (List.nil_sublist _)))))) ?_
     refine JL.fieldAddr fo_156_1 rfl .none rfl ?_
     refine JA.cont ?_
     exact nd1524_2 _ _ _ _ ⟨b1501, b1492, v1547, xs1548, rfl, rfl, rfl, rfl, rfl, rfl, rfl, rfl, rfl, rfl, rfl, hch1549, hs1546⟩
    ·skip
     refine JL.loadOwn 3 az_23 rfl rfl rfl .none rfl ?_
     refine JA.after hE hs1546 (.cons _ (.cons _ (.cons_cons _ (.cons _ (.cons _ (List.nil_sublist _)))))) ?_
     exact nd1524_3 _ _ _ _ ⟨b1501, b1492, rfl, rfl, rfl, rfl, rfl, rfl, rfl, rfl, rfl, rfl, rfl, hs1546⟩
   intro nd1524_5
   refine JA.cut 7 #[true, true, true, true, false, false, true, true, true, true, true, false, false, false, false, false] (fun H1550 f bs gs => ∃ (b1503 : Nat), f 2 = .pointer (some ⟨b2, 0, none⟩) ∧ f 3 = .pointer (some ⟨b3, 0, none⟩) ∧ f 20 = (.slice a12 d.Ribs.length c13) ∧ f 21 = .int .i64 (d.Ribs.length : Int) ∧ f 22 = .int .i64 x_1387 ∧ f 27 = vout_1388 ∧ f 29 = .int .i64 y1394.High ∧ f 33 = vout_1389 ∧ f 36 = .slice (some ⟨b1503, 0, none⟩) 1 1 ∧ bs = [(b1503, .cells [.int .i64 y1394.Low].toArray 3), (b1399, .cells [.int .i64 y1394.Low, .int .i64 y1394.High].toArray 39), (b3, .cells [.int .i64 y4.High, vout_1389, (.slice a15 d.Shares.length c16)].toArray 156), (b2, .cells [.int .i64 y4.Low, vout_1388, (.slice a15 d.Shares.length c16)].toArray 156)] ∧ gs = [⟨vout_1388, 3, 1, out_1388.length, xsout_1388⟩, ⟨vout_1389, 3, 1, out_1389.length, xsout_1389⟩] ∧ HSub H1390 H1550) ?_ ?_
   ·rintro H1550 f bs gs ⟨b1503, hf2, hf3, hf20, hf21, hf22, hf27, hf29, hf33, hf36, rfl, rfl, hs1550⟩
    refine (JA.norm (i := 2) hf2 (JA.norm (i := 3) hf3 (JA.norm (i := 20) hf20 (JA.norm (i := 21) hf21 (JA.norm (i := 22) hf22 (JA.norm (i := 27) hf27 (JA.norm (i := 29) hf29 (JA.norm (i := 33) hf33 (JA.norm (i := 36) hf36 ?_)))))))))
    refine JA.many [4] (by kernel_rfl) (by simp) (all_one ⟨_, #[true, true, true, true, true, false, true, true, true, true, true, false, false, false, false, false], rfl, (by kernel_rfl), ?_⟩)
    refine JL.buildSlice (e := 3) (l := [.int .i64 y1394.High]) (by kernel_rfl) .none rfl ?_
    intro b1551
    refine JA.after hE hs1550 (.cons _ (.cons _ (.cons_cons _ (.cons _ (.cons _ (List.nil_sublist _)))))) ?_
    refine JA.perm (swapAt_perm 0 _) ?_
    exact nd1524_3 _ _ _ _ ⟨b1503, b1551, rfl, rfl, rfl, rfl, rfl, rfl, rfl, rfl, rfl, rfl, rfl, hs1550⟩
   intro nd1524_6
   refine JA.cut 7 #[true, false, true, true, true, false, true, true, true, true, true, false, false, false, false, false] (fun H1552 f bs gs => ∃ (b1505 : Nat) (b1490 : Nat), f 2 = .pointer (some ⟨b2, 0, none⟩) ∧ f 3 = .pointer (some ⟨b3, 0, none⟩) ∧ f 20 = (.slice a12 d.Ribs.length c13) ∧ f 21 = .int .i64 (d.Ribs.length : Int) ∧ f 22 = .int .i64 x_1387 ∧ f 26 = .pointer (some ⟨b2, 1, none⟩) ∧ f 30 = .slice (some ⟨b1490, 0, none⟩) 1 1 ∧ f 33 = vout_1389 ∧ f 36 = .slice (some ⟨b1505, 0, none⟩) 1 1 ∧ bs = [(b1505, .cells [.int .i64 y1394.Low].toArray 3), (b1490, .cells [.int .i64 y1394.High].toArray 3), (b1399, .cells [.int .i64 y1394.Low, .int .i64 y1394.High].toArray 39), (b3, .cells [.int .i64 y4.High, vout_1389, (.slice a15 d.Shares.length c16)].toArray 156), (b2, .cells [.int .i64 y4.Low, vout_1388, (.slice a15 d.Shares.length c16)].toArray 156)] ∧ gs = [⟨vout_1388, 3, 1, out_1388.length, xsout_1388⟩, ⟨vout_1389, 3, 1, out_1389.length, xsout_1389⟩] ∧ HSub H1390 H1552) ?_ ?_
   ·rintro H1552 f bs gs ⟨b1505, b1490, hf2, hf3, hf20, hf21, hf22, hf26, hf30, hf33, hf36, rfl, rfl, hs1552⟩
    refine (JA.norm (i := 2) hf2 (JA.norm (i := 3) hf3 (JA.norm (i := 20) hf20 (JA.norm (i := 21) hf21 (JA.norm (i := 22) hf22 (JA.norm (i := 26) hf26 (JA.norm (i := 30) hf30 (JA.norm (i := 33) hf33 (JA.norm (i := 36) hf36 ?_)))))))))
    refine JA.many [1] (by kernel_rfl) (by simp) (all_one ⟨_, #[true, true, true, true, true, false, true, true, true, true, true, false, false, false, false, false], rfl, (by kernel_rfl), ?_⟩)
    refine JL.loadOwn 4 az_23 rfl rfl rfl .none rfl ?_
    refine JA.after hE hs1552 (.cons _ (.cons _ (.cons_cons _ (.cons _ (.cons _ (List.nil_sublist _)))))) ?_
    exact nd1524_3 _ _ _ _ ⟨b1505, b1490, rfl, rfl, rfl, rfl, rfl, rfl, rfl, rfl, rfl, rfl, rfl, hs1552⟩
   intro nd1524_7
   refine JA.cut 8 #[true, true, true, true, true, false, true, false, true, true, false, false, false, false, false, false] (fun H1553 f bs gs => ∃ (b1492 : Nat), f 2 = .pointer (some ⟨b2, 0, none⟩) ∧ f 3 = .pointer (some ⟨b3, 0, none⟩) ∧ f 20 = (.slice a12 d.Ribs.length c13) ∧ f 21 = .int .i64 (d.Ribs.length : Int) ∧ f 22 = .int .i64 x_1387 ∧ f 27 = vout_1388 ∧ f 30 = .slice (some ⟨b1492, 0, none⟩) 1 1 ∧ f 32 = .pointer (some ⟨b3, 1, none⟩) ∧ f 35 = .int .i64 y1394.Low ∧ bs = [(b1492, .cells [.int .i64 y1394.High].toArray 3), (b1399, .cells [.int .i64 y1394.Low, .int .i64 y1394.High].toArray 39), (b3, .cells [.int .i64 y4.High, vout_1389, (.slice a15 d.Shares.length c16)].toArray 156), (b2, .cells [.int .i64 y4.Low, vout_1388, (.slice a15 d.Shares.length c16)].toArray 156)] ∧ gs = [⟨vout_1388, 3, 1, out_1388.length, xsout_1388⟩, ⟨vout_1389, 3, 1, out_1389.length, xsout_1389⟩] ∧ HSub H1390 H1553) ?_ ?_
   ·rintro H1553 f bs gs ⟨b1492, hf2, hf3, hf20, hf21, hf22, hf27, hf30, hf32, hf35, rfl, rfl, hs1553⟩
    refine (JA.norm (i := 2) hf2 (JA.norm (i := 3) hf3 (JA.norm (i := 20) hf20 (JA.norm (i := 21) hf21 (JA.norm (i := 22) hf22 (JA.norm (i := 27) hf27 (JA.norm (i := 30) hf30 (JA.norm (i := 32) hf32 (JA.norm (i := 35) hf35 ?_)))))))))
    refine JA.many [5, 7, 10] (by kernel_rfl) (by simp) (all_cons ⟨_, #[true, true, true, true, true, true, true, false, true, true, false, false, false, false, false, false], rfl, (by kernel_rfl), ?_⟩ (all_cons ⟨_, #[true, true, true, true, true, false, true, true, true, true, false, false, false, false, false, false], rfl, (by kernel_rfl), ?_⟩ (all_one ⟨_, #[true, true, true, true, true, false, true, false, true, true, true, false, false, false, false, false], rfl, (by kernel_rfl), ?_⟩)))
    ·skip
     refine JL.appO (R := RInt) 0 0 (l := out_1388) (m := [y1394.High]) ap_23 rfl ⟨rfl, rfl⟩ rfl (CH.mono RInt.mono hs1553 hout_1388) rfl rfl rfl (CH.cons (cs := [.int .i64 y1394.High]) rfl rfl CH.nil) rfl (one_cons rfl one_nil) hl1401 .none rfl ?_
     intro v1554 xs1555 hch1556
     refine JA.after hE hs1553 (.cons _ (.cons_cons _ (.cons _ (.cons _ (List.nil_sublist _))))) ?_
     refine JA.take 12 (listed' := #[true, true, true, true, true, true, true, false, true, true, false, false, true, false, false, false]) hQ rfl (by kernel_rfl) (by kernel_rfl) (by kernel_rfl) (by kernel_rfl) (by kernel_rfl) hE hs1553 (.cons _ (.cons_cons _ (.cons _ (.cons _ (List.nil_sublist _))))) ?_
     refine JL.fieldAddr fo_156_1 rfl .none rfl ?_
     refine JA.cont ?_
     refine JA.many [7, 10] (by kernel_rfl) (by simp) (all_cons ⟨_, #[true, true, true, true, true, true, true, true, true, true, false, false, true, false, false, false], rfl, (by kernel_rfl), ?_⟩ (all_one ⟨_, #[true, true, true, true, true, true, true, false, true, true, true, false, true, false, false, false], rfl, (by kernel_rfl), ?_⟩))
     ·skip
      refine JL.loadOwn 2 az_23 rfl rfl rfl .none rfl ?_
      refine JA.after hE hs1553 (.cons _ (.cons_cons _ (.cons _ (.cons _ (List.nil_sublist _))))) ?_
      exact nd1524_1 _ _ _ _ ⟨b1492, v1554, xs1555, rfl, rfl, rfl, rfl, rfl, rfl, rfl, rfl, rfl, rfl, rfl, hch1556, hs1553⟩
     ·skip
      refine JL.buildSlice (e := 3) (l := [.int .i64 y1394.Low]) (by kernel_rfl) .none rfl ?_
      intro b1557
      refine JA.after hE hs1553 (.cons _ (.cons _ (.cons_cons _ (.cons _ (.cons _ (List.nil_sublist _)))))) ?_
      exact nd1524_2 _ _ _ _ ⟨b1557, b1492, v1554, xs1555, rfl, rfl, rfl, rfl, rfl, rfl, rfl, rfl, rfl, rfl, rfl, hch1556, hs1553⟩
    ·skip
     refine JL.loadOwn 2 az_23 rfl rfl rfl .none rfl ?_
     refine JA.after hE hs1553 (.cons _ (.cons_cons _ (.cons _ (.cons _ (List.nil_sublist _))))) ?_
     exact nd1524_4 _ _ _ _ ⟨b1492, rfl, rfl, rfl, rfl, rfl, rfl, rfl, rfl, rfl, rfl, rfl, hs1553⟩
    ·skip
     refine JL.buildSlice (e := 3) (l := [.int .i64 y1394.Low]) (by kernel_rfl) .none rfl ?_
     intro b1558
     refine JA.after hE hs1553 (.cons _ (.cons _ (.cons_cons _ (.cons _ (.cons _ (List.nil_sublist _)))))) ?_
     exact nd1524_5 _ _ _ _ ⟨b1558, b1492, rfl, rfl, rfl, rfl, rfl, rfl, rfl, rfl, rfl, rfl, rfl, hs1553⟩
   intro nd1524_8
   refine JA.cut 8 #[true, true, true, true, false, false, true, true, true, true, false, false, false, false, false, false] (fun H1559 f bs gs => f 2 = .pointer (some ⟨b2, 0, none⟩) ∧ f 3 = .pointer (some ⟨b3, 0, none⟩) ∧ f 20 = (.slice a12 d.Ribs.length c13) ∧ f 21 = .int .i64 (d.Ribs.length : Int) ∧ f 22 = .int .i64 x_1387 ∧ f 27 = vout_1388 ∧ f 29 = .int .i64 y1394.High ∧ f 33 = vout_1389 ∧ f 35 = .int .i64 y1394.Low ∧ bs = [(b1399, .cells [.int .i64 y1394.Low, .int .i64 y1394.High].toArray 39), (b3, .cells [.int .i64 y4.High, vout_1389, (.slice a15 d.Shares.length c16)].toArray 156), (b2, .cells [.int .i64 y4.Low, vout_1388, (.slice a15 d.Shares.length c16)].toArray 156)] ∧ gs = [⟨vout_1388, 3, 1, out_1388.length, xsout_1388⟩, ⟨vout_1389, 3, 1, out_1389.length, xsout_1389⟩] ∧ HSub H1390 H1559) ?_ ?_
   ·rintro H1559 f bs gs ⟨hf2, hf3, hf20, hf21, hf22, hf27, hf29, hf33, hf35, rfl, rfl, hs1559⟩
    refine (JA.norm (i := 2) hf2 (JA.norm (i := 3) hf3 (JA.norm (i := 20) hf20 (JA.norm (i := 21) hf21 (JA.norm (i := 22) hf22 (JA.norm (i := 27) hf27 (JA.norm (i := 29) hf29 (JA.norm (i := 33) hf33 (JA.norm (i := 35) hf35 ?_)))))))))
    refine JA.many [4, 10] (by kernel_rfl) (by simp) (all_cons ⟨_, #[true, true, true, true, true, false, true, true, true, true, false, false, false, false, false, false], rfl, (by kernel_rfl), ?_⟩ (all_one ⟨_, #[true, true, true, true, false, false, true, true, true, true, true, false, false, false, false, false], rfl, (by kernel_rfl), ?_⟩))
    ·skip
     refine JL.buildSlice (e := 3) (l := [.int .i64 y1394.High]) (by kernel_rfl) .none rfl ?_
     intro b1560
     refine JA.after hE hs1559 (.cons _ (.cons_cons _ (.cons _ (.cons _ (List.nil_sublist _))))) ?_
     exact nd1524_4 _ _ _ _ ⟨b1560, rfl, rfl, rfl, rfl, rfl, rfl, rfl, rfl, rfl, rfl, rfl, hs1559⟩
    ·skip
     refine JL.buildSlice (e := 3) (l := [.int .i64 y1394.Low]) (by kernel_rfl) .none rfl ?_
     intro b1561
     refine JA.after hE hs1559 (.cons _ (.cons_cons _ (.cons _ (.cons _ (List.nil_sublist _))))) ?_
     exact nd1524_6 _ _ _ _ ⟨b1561, rfl, rfl, rfl, rfl, rfl, rfl, rfl, rfl, rfl, rfl, rfl, hs1559⟩
   intro nd1524_9
   refine JA.cut 8 #[true, true, true, true, false, false, true, false, true, true, true, false, false, false, false, false] (fun H1562 f bs gs => ∃ (b1493 : Nat), f 2 = .pointer (some ⟨b2, 0, none⟩) ∧ f 3 = .pointer (some ⟨b3, 0, none⟩) ∧ f 20 = (.slice a12 d.Ribs.length c13) ∧ f 21 = .int .i64 (d.Ribs.length : Int) ∧ f 22 = .int .i64 x_1387 ∧ f 27 = vout_1388 ∧ f 29 = .int .i64 y1394.High ∧ f 32 = .pointer (some ⟨b3, 1, none⟩) ∧ f 36 = .slice (some ⟨b1493, 0, none⟩) 1 1 ∧ bs = [(b1493, .cells [.int .i64 y1394.Low].toArray 3), (b1399, .cells [.int .i64 y1394.Low, .int .i64 y1394.High].toArray 39), (b3, .cells [.int .i64 y4.High, vout_1389, (.slice a15 d.Shares.length c16)].toArray 156), (b2, .cells [.int .i64 y4.Low, vout_1388, (.slice a15 d.Shares.length c16)].toArray 156)] ∧ gs = [⟨vout_1388, 3, 1, out_1388.length, xsout_1388⟩, ⟨vout_1389, 3, 1, out_1389.length, xsout_1389⟩] ∧ HSub H1390 H1562) ?_ ?_
   ·rintro H1562 f bs gs ⟨b1493, hf2, hf3, hf20, hf21, hf22, hf27, hf29, hf32, hf36, rfl, rfl, hs1562⟩
    refine (JA.norm (i := 2) hf2 (JA.norm (i := 3) hf3 (JA.norm (i := 20) hf20 (JA.norm (i := 21) hf21 (JA.norm (i := 22) hf22 (JA.norm (i := 27) hf27 (JA.norm (i := 29) hf29 (JA.norm (i := 32) hf32 (JA.norm (i := 36) hf36 ?_)))))))))
    refine JA.many [4, 7] (by kernel_rfl) (by simp) (all_cons ⟨_, #[true, true, true, true, true, false, true, false, true, true, true, false, false, false, false, false], rfl, (by kernel_rfl), ?_⟩ (all_one ⟨_, #[true, true, true, true, false, false, true, true, true, true, true, false, false, false, false, false], rfl, (by kernel_rfl), ?_⟩))
    ·skip
     refine JL.buildSlice (e := 3) (l := [.int .i64 y1394.High]) (by kernel_rfl) .none rfl ?_
     intro b1563
     refine JA.after hE hs1562 (.cons _ (.cons _ (.cons_cons _ (.cons _ (.cons _ (List.nil_sublist _)))))) ?_
     refine JA.perm (swapAt_perm 0 _) ?_
     exact nd1524_5 _ _ _ _ ⟨b1493, b1563, rfl, rfl, rfl, rfl, rfl, rfl, rfl, rfl, rfl, rfl, rfl, hs1562⟩
    ·skip
     refine JL.loadOwn 2 az_23 rfl rfl rfl .none rfl ?_
     refine JA.after hE hs1562 (.cons _ (.cons_cons _ (.cons _ (.cons _ (List.nil_sublist _))))) ?_
     exact nd1524_6 _ _ _ _ ⟨b1493, rfl, rfl, rfl, rfl, rfl, rfl, rfl, rfl, rfl, rfl, rfl, hs1562⟩
   intro nd1524_10
   refine JA.cut 8 #[true, false, true, true, true, false, true, true, true, true, false, false, false, false, false, false] (fun H1564 f bs gs => ∃ (b1490 : Nat), f 2 = .pointer (some ⟨b2, 0, none⟩) ∧ f 3 = .pointer (some ⟨b3, 0, none⟩) ∧ f 20 = (.slice a12 d.Ribs.length c13) ∧ f 21 = .int .i64 (d.Ribs.length : Int) ∧ f 22 = .int .i64 x_1387 ∧ f 26 = .pointer (some ⟨b2, 1, none⟩) ∧ f 30 = .slice (some ⟨b1490, 0, none⟩) 1 1 ∧ f 33 = vout_1389 ∧ f 35 = .int .i64 y1394.Low ∧ bs = [(b1490, .cells [.int .i64 y1394.High].toArray 3), (b1399, .cells [.int .i64 y1394.Low, .int .i64 y1394.High].toArray 39), (b3, .cells [.int .i64 y4.High, vout_1389, (.slice a15 d.Shares.length c16)].toArray 156), (b2, .cells [.int .i64 y4.Low, vout_1388, (.slice a15 d.Shares.length c16)].toArray 156)] ∧ gs = [⟨vout_1388, 3, 1, out_1388.length, xsout_1388⟩, ⟨vout_1389, 3, 1, out_1389.length, xsout_1389⟩] ∧ HSub H1390 H1564) ?_ ?_
   ·rintro H1564 f bs gs ⟨b1490, hf2, hf3, hf20, hf21, hf22, hf26, hf30, hf33, hf35, rfl, rfl, hs1564⟩
    refine (JA.norm (i := 2) hf2 (JA.norm (i := 3) hf3 (JA.norm (i := 20) hf20 (JA.norm (i := 21) hf21 (JA.norm (i := 22) hf22 (JA.norm (i := 26) hf26 (JA.norm (i := 30) hf30 (JA.norm (i := 33) hf33 (JA.norm (i := 35) hf35 ?_)))))))))
    refine JA.many [1, 10] (by kernel_rfl) (by simp) (all_cons ⟨_, #[true, true, true, true, true, false, true, true, true, true, false, false, false, false, false, false], rfl, (by kernel_rfl), ?_⟩ (all_one ⟨_, #[true, false, true, true, true, false, true, true, true, true, true, false, false, false, false, false], rfl, (by kernel_rfl), ?_⟩))
    ·skip
     refine JL.loadOwn 3 az_23 rfl rfl rfl .none rfl ?_
     refine JA.after hE hs1564 (.cons _ (.cons_cons _ (.cons _ (.cons _ (List.nil_sublist _))))) ?_
     exact nd1524_4 _ _ _ _ ⟨b1490, rfl, rfl, rfl, rfl, rfl, rfl, rfl, rfl, rfl, rfl, rfl, hs1564⟩
    ·skip
     refine JL.buildSlice (e := 3) (l := [.int .i64 y1394.Low]) (by kernel_rfl) .none rfl ?_
     intro b1565
     refine JA.after hE hs1564 (.cons _ (.cons _ (.cons_cons _ (.cons _ (.cons _ (List.nil_sublist _)))))) ?_
     exact nd1524_7 _ _ _ _ ⟨b1565, b1490, rfl, rfl, rfl, rfl, rfl, rfl, rfl, rfl, rfl, rfl, rfl, hs1564⟩
   intro nd1524_11
   refine JA.cut 8 #[true, false, true, true, true, false, true, false, true, true, true, false, false, false, false, false] (fun H1566 f bs gs => ∃ (b1494 : Nat) (b1490 : Nat), f 2 = .pointer (some ⟨b2, 0, none⟩) ∧ f 3 = .pointer (some ⟨b3, 0, none⟩) ∧ f 20 = (.slice a12 d.Ribs.length c13) ∧ f 21 = .int .i64 (d.Ribs.length : Int) ∧ f 22 = .int .i64 x_1387 ∧ f 26 = .pointer (some ⟨b2, 1, none⟩) ∧ f 30 = .slice (some ⟨b1490, 0, none⟩) 1 1 ∧ f 32 = .pointer (some ⟨b3, 1, none⟩) ∧ f 36 = .slice (some ⟨b1494, 0, none⟩) 1 1 ∧ bs = [(b1494, .cells [.int .i64 y1394.Low].toArray 3), (b1490, .cells [.int .i64 y1394.High].toArray 3), (b1399, .cells [.int .i64 y1394.Low, .int .i64 y1394.High].toArray 39), (b3, .cells [.int .i64 y4.High, vout_1389, (.slice a15 d.Shares.length c16)].toArray 156), (b2, .cells [.int .i64 y4.Low, vout_1388, (.slice a15 d.Shares.length c16)].toArray 156)] ∧ gs = [⟨vout_1388, 3, 1, out_1388.length, xsout_1388⟩, ⟨vout_1389, 3, 1, out_1389.length, xsout_1389⟩] ∧ HSub H1390 H1566) ?_ ?_
   ·rintro H1566 f bs gs ⟨b1494, b1490, hf2, hf3, hf20, hf21, hf22, hf26, hf30, hf32, hf36, rfl, rfl, hs1566⟩
    refine (JA.norm (i := 2) hf2 (JA.norm (i := 3) hf3 (JA.norm (i := 20) hf20 (JA.norm (i := 21) hf21 (JA.norm (i := 22) hf22 (JA.norm (i := 26) hf26 (JA.norm (i := 30) hf30 (JA.norm (i := 32) hf32 (JA.norm (i := 36) hf36 ?_)))))))))
    refine JA.many [1, 7] (by kernel_rfl) (by simp) (all_cons ⟨_, #[true, true, true, true, true, false, true, false, true, true, true, false, false, false, false, false], rfl, (by kernel_rfl), ?_⟩ (all_one ⟨_, #[true, false, true, true, true, false, true, true, true, true, true, false, false, false, false, false], rfl, (by kernel_rfl), ?_⟩))
    ·skip
     refine JL.loadOwn 4 az_23 rfl rfl rfl .none rfl ?_
     refine JA.after hE hs1566 (.cons _ (.cons _ (.cons_cons _ (.cons _ (.cons _ (List.nil_sublist _)))))) ?_
     exact nd1524_5 _ _ _ _ ⟨b1494, b1490, rfl, rfl, rfl, rfl, rfl, rfl, rfl, rfl, rfl, rfl, rfl, hs1566⟩
    ·skip
     refine JL.loadOwn 3 az_23 rfl rfl rfl .none rfl ?_
     refine JA.after hE hs1566 (.cons _ (.cons _ (.cons_cons _ (.cons _ (.cons _ (List.nil_sublist _)))))) ?_
     exact nd1524_7 _ _ _ _ ⟨b1494, b1490, rfl, rfl, rfl, rfl, rfl, rfl, rfl, rfl, rfl, rfl, rfl, hs1566⟩
   intro nd1524_12
   refine JA.cut 8 #[true, false, true, true, false, false, true, true, true, true, true, false, false, false, false, false] (fun H1567 f bs gs => ∃ (b1496 : Nat), f 2 = .pointer (some ⟨b2, 0, none⟩) ∧ f 3 = .pointer (some ⟨b3, 0, none⟩) ∧ f 20 = (.slice a12 d.Ribs.length c13) ∧ f 21 = .int .i64 (d.Ribs.length : Int) ∧ f 22 = .int .i64 x_1387 ∧ f 26 = .pointer (some ⟨b2, 1, none⟩) ∧ f 29 = .int .i64 y1394.High ∧ f 33 = vout_1389 ∧ f 36 = .slice (some ⟨b1496, 0, none⟩) 1 1 ∧ bs = [(b1496, .cells [.int .i64 y1394.Low].toArray 3), (b1399, .cells [.int .i64 y1394.Low, .int .i64 y1394.High].toArray 39), (b3, .cells [.int .i64 y4.High, vout_1389, (.slice a15 d.Shares.length c16)].toArray 156), (b2, .cells [.int .i64 y4.Low, vout_1388, (.slice a15 d.Shares.length c16)].toArray 156)] ∧ gs = [⟨vout_1388, 3, 1, out_1388.length, xsout_1388⟩, ⟨vout_1389, 3, 1, out_1389.length, xsout_1389⟩] ∧ HSub H1390 H1567) ?_ ?_
   ·rintro H1567 f bs gs ⟨b1496, hf2, hf3, hf20, hf21, hf22, hf26, hf29, hf33, hf36, rfl, rfl, hs1567⟩
    refine (JA.norm (i := 2) hf2 (JA.norm (i := 3) hf3 (JA.norm (i := 20) hf20 (JA.norm (i := 21) hf21 (JA.norm (i := 22) hf22 (JA.norm (i := 26) hf26 (JA.norm (i := 29) hf29 (JA.norm (i := 33) hf33 (JA.norm (i := 36) hf36 ?_)))))))))
    refine JA.many [1, 4] (by kernel_rfl) (by simp) (all_cons ⟨_, #[true, true, true, true, false, false, true, true, true, true, true, false, false, false, false, false], rfl, (by kernel_rfl), ?_⟩ (all_one ⟨_, #[true, false, true, true, true, false, true, true, true, true, true, false, false, false, false, false], rfl, (by kernel_rfl), ?_⟩))
    ·skip
     refine JL.loadOwn 3 az_23 rfl rfl rfl .none rfl ?_
     refine JA.after hE hs1567 (.cons _ (.cons_cons _ (.cons _ (.cons _ (List.nil_sublist _))))) ?_
     exact nd1524_6 _ _ _ _ ⟨b1496, rfl, rfl, rfl, rfl, rfl, rfl, rfl, rfl, rfl, rfl, rfl, hs1567⟩
    ·skip
     refine JL.buildSlice (e := 3) (l := [.int .i64 y1394.High]) (by kernel_rfl) .none rfl ?_
     intro b1568
     refine JA.after hE hs1567 (.cons _ (.cons _ (.cons_cons _ (.cons _ (.cons _ (List.nil_sublist _)))))) ?_
     refine JA.perm (swapAt_perm 0 _) ?_
     exact nd1524_7 _ _ _ _ ⟨b1496, b1568, rfl, rfl, rfl, rfl, rfl, rfl, rfl, rfl, rfl, rfl, rfl, hs1567⟩
   intro nd1524_13
   refine JA.take 0 (listed' := #[true, false, false, false, false, false, false, false, false, false, false, false, false, false, false, false]) hQ rfl (by kernel_rfl) (by kernel_rfl) (by kernel_rfl) (by kernel_rfl) (by kernel_rfl) hE (HSub.refl _) (.cons_cons _ (.cons _ (.cons _ (List.nil_sublist _)))) ?_
   refine JL.fieldAddr fo_156_1 rfl .none rfl ?_
   refine JA.cont ?_
   refine JA.take 2 (listed' := #[true, false, true, false, false, false, false, false, false, false, false, false, false, false, false, false]) hQ rfl (by kernel_rfl) (by kernel_rfl) (by kernel_rfl) (by kernel_rfl) (by kernel_rfl) hE (HSub.refl _) (.cons_cons _ (.cons _ (.cons _ (List.nil_sublist _)))) ?_
   refine JL.fieldAddr fo_39_1 rfl .none rfl ?_
   refine JA.cont ?_
   refine JA.take 3 (listed' := #[true, false, true, true, false, false, false, false, false, false, false, false, false, false, false, false]) hQ rfl (by kernel_rfl) (by kernel_rfl) (by kernel_rfl) (by kernel_rfl) (by kernel_rfl) hE (HSub.refl _) (.cons_cons _ (.cons _ (.cons _ (List.nil_sublist _)))) ?_
   refine JL.loadOwn 0 az_3 rfl rfl rfl .none rfl ?_
   refine JA.cont ?_
   refine JA.take 6 (listed' := #[true, false, true, true, false, false, true, false, false, false, false, false, false, false, false, false]) hQ rfl (by kernel_rfl) (by kernel_rfl) (by kernel_rfl) (by kernel_rfl) (by kernel_rfl) hE (HSub.refl _) (.cons_cons _ (.cons _ (.cons _ (List.nil_sublist _)))) ?_
   refine JL.fieldAddr fo_156_1 rfl .none rfl ?_
   refine JA.cont ?_
   refine JA.take 8 (listed' := #[true, false, true, true, false, false, true, false, true, false, false, false, false, false, false, false]) hQ rfl (by kernel_rfl) (by kernel_rfl) (by kernel_rfl) (by kernel_rfl) (by kernel_rfl) hE (HSub.refl _) (.cons_cons _ (.cons _ (.cons _ (List.nil_sublist _)))) ?_
   refine JL.fieldAddr fo_39_0 rfl .none rfl ?_
   refine JA.cont ?_
   refine JA.take 9 (listed' := #[true, false, true, true, false, false, true, false, true, true, false, false, false, false, false, false]) hQ rfl (by kernel_rfl) (by kernel_rfl) (by kernel_rfl) (by kernel_rfl) (by kernel_rfl) hE (HSub.refl _) (.cons_cons _ (.cons _ (.cons _ (List.nil_sublist _)))) ?_
   refine JL.loadOwn 0 az_3 rfl rfl rfl .none rfl ?_
   refine JA.cont ?_
   refine JA.many [1, 4, 7, 10] (by kernel_rfl) (by simp) (all_cons ⟨_, #[true, true, true, true, false, false, true, false, true, true, false, false, false, false, false, false], rfl, (by kernel_rfl), ?_⟩ (all_cons ⟨_, #[true, false, true, true, true, false, true, false, true, true, false, false, false, false, false, false], rfl, (by kernel_rfl), ?_⟩ (all_cons ⟨_, #[true, false, true, true, false, false, true, true, true, true, false, false, false, false, false, false], rfl, (by kernel_rfl), ?_⟩ (all_one ⟨_, #[true, false, true, true, false, false, true, false, true, true, true, false, false, false, false, false], rfl, (by kernel_rfl), ?_⟩))))
   ·skip
    refine JL.loadOwn 2 az_23 rfl rfl rfl .none rfl ?_
    refine JA.after hE (HSub.refl _) (.cons_cons _ (.cons _ (.cons _ (List.nil_sublist _)))) ?_
    refine JA.many [4, 7, 10] (by kernel_rfl) (by simp) (all_cons ⟨_, #[true, true, true, true, true, false, true, false, true, true, false, false, false, false, false, false], rfl, (by kernel_rfl), ?_⟩ (all_cons ⟨_, #[true, true, true, true, false, false, true, true, true, true, false, false, false, false, false, false], rfl, (by kernel_rfl), ?_⟩ (all_one ⟨_, #[true, true, true, true, false, false, true, false, true, true, true, false, false, false, false, false], rfl, (by kernel_rfl), ?_⟩)))
    ·skip
     refine JL.buildSlice (e := 3) (l := [.int .i64 y1394.High]) (by kernel_rfl) .none rfl ?_
     intro b1569
     refine JA.after hE (HSub.refl _) (.cons _ (.cons_cons _ (.cons _ (.cons _ (List.nil_sublist _))))) ?_
     exact nd1524_8 _ _ _ _ ⟨b1569, rfl, rfl, rfl, rfl, rfl, rfl, rfl, rfl, rfl, rfl, rfl, (HSub.refl _)⟩
    ·skip
     refine JL.loadOwn 1 az_23 rfl rfl rfl .none rfl ?_
     refine JA.after hE (HSub.refl _) (.cons_cons _ (.cons _ (.cons _ (List.nil_sublist _)))) ?_
     exact nd1524_9 _ _ _ _ ⟨rfl, rfl, rfl, rfl, rfl, rfl, rfl, rfl, rfl, rfl, rfl, (HSub.refl _)⟩
    ·skip
     refine JL.buildSlice (e := 3) (l := [.int .i64 y1394.Low]) (by kernel_rfl) .none rfl ?_
     intro b1570
     refine JA.after hE (HSub.refl _) (.cons _ (.cons_cons _ (.cons _ (.cons _ (List.nil_sublist _))))) ?_
     exact nd1524_10 _ _ _ _ ⟨b1570, rfl, rfl, rfl, rfl, rfl, rfl, rfl, rfl, rfl, rfl, rfl, (HSub.refl _)⟩
   ·skip
    refine JL.buildSlice (e := 3) (l := [.int .i64 y1394.High]) (by kernel_rfl) .none rfl ?_
    intro b1571
    refine JA.after hE (HSub.refl _) (.cons _ (.cons_cons _ (.cons _ (.cons _ (List.nil_sublist _))))) ?_
    refine JA.many [1, 7, 10] (by kernel_rfl) (by simp) (all_cons ⟨_, #[true, true, true, true, true, false, true, false, true, true, false, false, false, false, false, false], rfl, (by kernel_rfl), ?_⟩ (all_cons ⟨_, #[true, false, true, true, true, false, true, true, true, true, false, false, false, false, false, false], rfl, (by kernel_rfl), ?_⟩ (all_one ⟨_, #[true, false, true, true, true, false, true, false, true, true, true, false, false, false, false, false], rfl, (by kernel_rfl), ?_⟩)))
    ·skip
     refine JL.loadOwn 3 az_23 rfl rfl rfl .none rfl ?_
     refine JA.after hE (HSub.refl _) (.cons _ (.cons_cons _ (.cons _ (.cons _ (List.nil_sublist _))))) ?_
     exact nd1524_8 _ _ _ _ ⟨b1571, rfl, rfl, rfl, rfl, rfl, rfl, rfl, rfl, rfl, rfl, rfl, (HSub.refl _)⟩
    ·skip
     refine JL.loadOwn 2 az_23 rfl rfl rfl .none rfl ?_
     refine JA.after hE (HSub.refl _) (.cons _ (.cons_cons _ (.cons _ (.cons _ (List.nil_sublist _))))) ?_
     exact nd1524_11 _ _ _ _ ⟨b1571, rfl, rfl, rfl, rfl, rfl, rfl, rfl, rfl, rfl, rfl, rfl, (HSub.refl _)⟩
    ·skip
     refine JL.buildSlice (e := 3) (l := [.int .i64 y1394.Low]) (by kernel_rfl) .none rfl ?_
     intro b1572
     refine JA.after hE (HSub.refl _) (.cons _ (.cons _ (.cons_cons _ (.cons _ (.cons _ (List.nil_sublist _)))))) ?_
     exact nd1524_12 _ _ _ _ ⟨b1572, b1571, rfl, rfl, rfl, rfl, rfl, rfl, rfl, rfl, rfl, rfl, rfl, (HSub.refl _)⟩
   ·skip
    refine JL.loadOwn 1 az_23 rfl rfl rfl .none rfl ?_
    refine JA.after hE (HSub.refl _) (.cons_cons _ (.cons _ (.cons _ (List.nil_sublist _)))) ?_
    refine JA.many [1, 4, 10] (by kernel_rfl) (by simp) (all_cons ⟨_, #[true, true, true, true, false, false, true, true, true, true, false, false, false, false, false, false], rfl, (by kernel_rfl), ?_⟩ (all_cons ⟨_, #[true, false, true, true, true, false, true, true, true, true, false, false, false, false, false, false], rfl, (by kernel_rfl), ?_⟩ (all_one ⟨_, #[true, false, true, true, false, false, true, true, true, true, true, false, false, false, false, false], rfl, (by kernel_rfl), ?_⟩)))
    ·skip
     refine JL.loadOwn 2 az_23 rfl rfl rfl .none rfl ?_
     refine JA.after hE (HSub.refl _) (.cons_cons _ (.cons _ (.cons _ (List.nil_sublist _)))) ?_
     exact nd1524_9 _ _ _ _ ⟨rfl, rfl, rfl, rfl, rfl, rfl, rfl, rfl, rfl, rfl, rfl, (HSub.refl _)⟩
    ·skip
     refine JL.buildSlice (e := 3) (l := [.int .i64 y1394.High]) (by kernel_rfl) .none rfl ?_
     intro b1573
     refine JA.after hE (HSub.refl _) (.cons _ (.cons_cons _ (.cons _ (.cons _ (List.nil_sublist _))))) ?_
     exact nd1524_11 _ _ _ _ ⟨b1573, rfl, rfl, rfl, rfl, rfl, rfl, rfl, rfl, rfl, rfl, rfl, (HSub.refl _)⟩
    ·skip
     refine JL.buildSlice (e := 3) (l := [.int .i64 y1394.Low]) (by kernel_rfl) .none rfl ?_
     intro b1574
     refine JA.after hE (HSub.refl _) (.cons _ (.cons_cons _ (.cons _ (.cons _ (List.nil_sublist _))))) ?_
     exact nd1524_13 _ _ _ _ ⟨b1574, rfl, rfl, rfl, rfl, rfl, rfl, rfl, rfl, rfl, rfl, rfl, (HSub.refl _)⟩
   ·skip
    refine JL.buildSlice (e := 3) (l := [.int .i64 y1394.Low]) (by kernel_rfl) .none rfl ?_
    intro b1575
    refine JA.after hE (HSub.refl _) (.cons _ (.cons_cons _ (.cons _ (.cons _ (List.nil_sublist _))))) ?_
    refine JA.many [1, 4, 7] (by kernel_rfl) (by simp) (all_cons ⟨_, #[true, true, true, true, false, false, true, false, true, true, true, false, false, false, false, false], rfl, (by kernel_rfl), ?_⟩ (all_cons ⟨_, #[true, false, true, true, true, false, true, false, true, true, true, false, false, false, false, false], rfl, (by kernel_rfl), ?_⟩ (all_one ⟨_, #[true, false, true, true, false, false, true, true, true, true, true, false, false, false, false, false], rfl, (by kernel_rfl), ?_⟩)))
    ·skip
     refine JL.loadOwn 3 az_23 rfl rfl rfl .none rfl ?_
     refine JA.after hE (HSub.refl _) (.cons _ (.cons_cons _ (.cons _ (.cons _ (List.nil_sublist _))))) ?_
     exact nd1524_10 _ _ _ _ ⟨b1575, rfl, rfl, rfl, rfl, rfl, rfl, rfl, rfl, rfl, rfl, rfl, (HSub.refl _)⟩
    ·skip
     refine JL.buildSlice (e := 3) (l := [.int .i64 y1394.High]) (by kernel_rfl) .none rfl ?_
     intro b1576
     refine JA.after hE (HSub.refl _) (.cons _ (.cons _ (.cons_cons _ (.cons _ (.cons _ (List.nil_sublist _)))))) ?_
     refine JA.perm (swapAt_perm 0 _) ?_
     exact nd1524_12 _ _ _ _ ⟨b1575, b1576, rfl, rfl, rfl, rfl, rfl, rfl, rfl, rfl, rfl, rfl, rfl, (HSub.refl _)⟩
    ·skip
     refine JL.loadOwn 2 az_23 rfl rfl rfl .none rfl ?_
     refine JA.after hE (HSub.refl _) (.cons _ (.cons_cons _ (.cons _ (.cons _ (List.nil_sublist _))))) ?_
     exact nd1524_13 _ _ _ _ ⟨b1575, rfl, rfl, rfl, rfl, rfl, rfl, rfl, rfl, rfl, rfl, rfl, (HSub.refl _)⟩
  ·refine JC.cond_f (b := decide (x_1387 < (d.Ribs.length : Int))) rfl hc1393 ?_
   refine JC.exit (JQ.exit_then (JQ.exit_then (JQ.exit_block ?_)))
   obtain rfl := Option.some.inj hF
   have ehr1391 := hr1391 _ rfl
   subst ehr1391
   exact JQ.join (out_1388, out_1389) ⟨vout_1388, xsout_1388, vout_1389, xsout_1389, rfl, rfl, rfl, rfl, hout_1388, hout_1389, hs1390, rfl⟩
 ·rintro ⟨out_1007, out_1008⟩ H1009 f bs gs ⟨vout_1007, xsout_1007, vout_1008, xsout_1008, hf2, hf3, rfl, rfl, hout_1007, hout_1008, hs1009, rfl⟩
  have hF := hKr1010
  try dsimp only at hF
  refine (JQ.norm (i := 2) hf2 (JQ.norm (i := 3) hf3 ?_))
  refine JQ.go (JC.seq (JC.mixed 4 4 #[false, false, false, false] [(b3, .cells [.int .i64 y4.High, vout_1008, (.slice a15 d.Shares.length c16)].toArray 156), (b2, .cells [.int .i64 y4.Low, vout_1007, (.slice a15 d.Shares.length c16)].toArray 156)] (by rfl) mo_ (by kernel_rfl) (by kernel_rfl) ?_))
  intro hQ hE
  refine JA.take 0 (listed' := #[true, false, false, false]) hQ rfl (by kernel_rfl) (by kernel_rfl) (by kernel_rfl) (by kernel_rfl) (by kernel_rfl) hE (HSub.refl _) (.cons_cons _ (.cons_cons _ (List.nil_sublist _))) ?_
  refine JL.loadOwn 1 az_156 rfl rfl rfl .none rfl ?_
  refine JA.cont ?_
  refine JA.take 1 (listed' := #[true, true, false, false]) hQ rfl (by kernel_rfl) (by kernel_rfl) (by kernel_rfl) (by kernel_rfl) (by kernel_rfl) hE (HSub.refl _) (.cons_cons _ (.cons_cons _ (List.nil_sublist _))) ?_
  refine JL.loadOwn 0 az_156 rfl rfl rfl .none rfl ?_
  refine JA.cont ?_
  refine JA.many [2] (by kernel_rfl) (by simp) (all_one ⟨_, #[true, true, true, false], rfl, (by kernel_rfl), ?_⟩)
  refine JL.oneG 0 rfl (fun ho1584 => ?_)
  refine JL.storeOwn 1 (cs := [.int .i64 y4.Low, vout_1007, (.slice a15 d.Shares.length c16)]) az_156 rfl rfl rfl (one_cons rfl (one_cons ho1584.1 (one_cons (SL.one (SL.mono RInt.mono hs1009 hd_8)) one_nil))) rfl rfl .none ?_
  refine JA.after hE (HSub.refl _) (.cons_cons _ (.cons_cons _ (List.nil_sublist _))) ?_
  refine JA.many [3] (by kernel_rfl) (by simp) (all_one ⟨_, #[true, true, true, true], rfl, (by kernel_rfl), ?_⟩)
  refine JL.oneG 1 rfl (fun ho1585 => ?_)
  refine JL.storeOwn 0 (cs := [.int .i64 y4.High, vout_1008, (.slice a15 d.Shares.length c16)]) az_156 rfl rfl rfl (one_cons rfl (one_cons ho1585.1 (one_cons (SL.one (SL.mono RInt.mono hs1009 hd_8)) one_nil))) rfl rfl .none ?_
  refine JA.after hE (HSub.refl _) (.cons_cons _ (.cons_cons _ (List.nil_sublist _))) ?_
  refine JA.done hQ (by kernel_rfl) ?_
  refine JQ.go (JC.ret (JQ.freezeG 0 (R := RInt) rfl RInt.mono hout_1007 rfl ?_))
  intro H1586 hs1586 hg1587
  refine JQ.freezeG 0 (R := RInt) rfl RInt.mono (CH.mono RInt.mono hs1586 hout_1008) rfl ?_
  intro H1588 hs1588 hg1589
  obtain rfl := Option.some.inj hF
  exact JQ.outH rfl (.cell 1 az_156 rfl rfl rfl (.cell 0 az_156 rfl rfl rfl .nil)) ⟨vout_1007, (.slice a15 d.Shares.length c16), vout_1008, (.slice a15 d.Shares.length c16), rfl, (SL.mono RInt.mono hs1588 hg1587), (SL.mono RInt.mono (HSub.trans hs1009 (HSub.trans hs1586 hs1588)) hd_8), hg1589, (SL.mono RInt.mono (HSub.trans hs1009 (HSub.trans hs1586 hs1588)) hd_8)⟩
end Go.Proofs.Yteihdclpiekmaaa
end
