/-
  A part of the proof of CDome: the texts GenK11, GenK12.
-/
import Derived.Test.YtcipdblhopffbaaJCDome8
section
namespace Go.Proofs.Ytcipdblhopffbaa
open Go Go.RowKit Go.Dec
set_option linter.unusedVariables false
-- 46 ferrule/ferruleref01.Copy
def F_ref01_Copy (n : Nat) (f_ : Frame) : Option Frame :=
 (lim (([] : List Section) ++ f_.Sections)).bind fun l5 => some (Frame.mk l5 f_.Low f_.High f_.Ease f_.Rod f_.Case)
set_option maxRecDepth 100000 in
set_option maxHeartbeats 40000000 in
theorem c_ref01_Copy (n : Nat) (H : Hp) (f_ : Frame) (f__v0 : Value) (hf__0 : SL H 7 R_Section f__v0 f_.Sections) (y : Frame) (hF : F_ref01_Copy n f_ = some y) : HC Try.prog 46 [.agg [f__v0, .int .i64 f_.Low, .int .i64 f_.High, .int .i64 f_.Ease.Num, .int .i64 f_.Ease.Den, .int .i64 f_.Rod, .int .i64 f_.Case].toArray] H (fun H' v => ∃ ra_v0 : Value, v = .agg [ra_v0, .int .i64 y.Low, .int .i64 y.High, .int .i64 y.Ease.Num, .int .i64 y.Ease.Den, .int .i64 y.Rod, .int .i64 y.Case].toArray ∧ SL H' 7 R_Section ra_v0 y.Sections) := by
 rw [F_ref01_Copy] at hF
 refine HC.of (N := 9) Try.func46 rfl rfl rfl fun w => ?_
 refine JC.seq ?_
 refine JC.region (by rfl) ?_
 intro hQ
 refine JL.box (cs := [f__v0, .int .i64 f_.Low, .int .i64 f_.High, .int .i64 f_.Ease.Num, .int .i64 f_.Ease.Den, .int .i64 f_.Rod, .int .i64 f_.Case]) rfl .none rfl ?_
 intro b1
 refine JL.alloc ze_26 .none rfl ?_
 intro b2
 refine JL.done hQ ?_
 refine JQ.go ?_
 refine JC.seq ?_
 refine JC.region (by rfl) ?_
 intro hQ
 refine JL.emptySlice ap_22 .none rfl ?_
 intro v3
 refine JL.fieldAddr fo_26_0 rfl .none rfl ?_
 refine JL.loadOwn 1 az_22 rfl rfl rfl .none rfl ?_
 obtain ⟨l5, hl5, hF⟩ := bind_some hF
 refine JL.appD (R := R_Section) 0 (l := ([] : List Section)) (m := f_.Sections) ap_22 rfl ⟨rfl, rfl⟩ rfl CH.nil rfl hf__0 (R_Section_one _) hl5 .none rfl ?_
 intro v6 xs7 hch8
 refine JL.fieldAddr fo_26_0 rfl .none rfl ?_
 refine JL.oneG 0 rfl (fun ho9 => ?_)
 refine JL.storeOwn 1 (cs := [v6]) az_22 rfl ho9.2 rfl (one_cons ho9.1 one_nil) rfl rfl .none ?_
 refine JL.done hQ ?_
 refine JQ.go ?_
 refine JC.seq ?_
 refine JC.region (by rfl) ?_
 intro hQ
 refine JL.loadOwn 1 az_26 rfl rfl rfl .none rfl ?_
 refine JL.oneG 0 rfl (fun ho10 => ?_)
 refine JL.storeOwn 0 (cs := [v6, .int .i64 f_.Low, .int .i64 f_.High, .int .i64 f_.Ease.Num, .int .i64 f_.Ease.Den, .int .i64 f_.Rod, .int .i64 f_.Case]) az_26 rfl rfl rfl (one_cons ho10.1 (one_cons rfl (one_cons rfl (one_cons rfl (one_cons rfl (one_cons rfl (one_cons rfl one_nil))))))) rfl rfl .none ?_
 refine JL.done hQ ?_
 refine JQ.go ?_
 refine JC.ret ?_
 refine JQ.freezeG 0 (R := R_Section) rfl R_Section_mono hch8 rfl ?_
 intro H11 hs11 hg12
 obtain rfl := Option.some.inj hF
 exact JQ.outH rfl (.cell 0 az_26 rfl rfl rfl .nil) ⟨v6, rfl, hg12⟩
set_option maxRecDepth 100000 in
set_option maxHeartbeats 40000000 in
theorem x_ref01_Copy (n : Nat) (H : Hp) (f_ : Frame) (f__v0 : Value) (hf__0 : SL H 7 R_Section f__v0 f_.Sections) (y : Frame) (hF : F_ref01_Copy n f_ = some y) : XC Try.prog 46 [.agg [f__v0, .int .i64 f_.Low, .int .i64 f_.High, .int .i64 f_.Ease.Num, .int .i64 f_.Ease.Den, .int .i64 f_.Rod, .int .i64 f_.Case].toArray] H (fun H' v gs' => ∃ (y_v0 : Value) (y_xs0 : List Value), v = .agg [y_v0, .int .i64 y.Low, .int .i64 y.High, .int .i64 y.Ease.Num, .int .i64 y.Ease.Den, .int .i64 y.Rod, .int .i64 y.Case].toArray ∧ gs' = [⟨y_v0, 129, 7, y.Sections.length, y_xs0⟩] ∧ CH H' 7 R_Section y_xs0 y.Sections) := by
 rw [F_ref01_Copy] at hF
 refine XC.of (N := 9) Try.func46 rfl rfl rfl fun w => ?_
 refine JC.seq ?_
 refine JC.region (by rfl) ?_
 intro hQ
 refine JL.box (cs := [f__v0, .int .i64 f_.Low, .int .i64 f_.High, .int .i64 f_.Ease.Num, .int .i64 f_.Ease.Den, .int .i64 f_.Rod, .int .i64 f_.Case]) rfl .none rfl ?_
 intro b1
 refine JL.alloc ze_26 .none rfl ?_
 intro b2
 refine JL.done hQ ?_
 refine JQ.go ?_
 refine JC.seq ?_
 refine JC.region (by rfl) ?_
 intro hQ
 refine JL.emptySlice ap_22 .none rfl ?_
 intro v3
 refine JL.fieldAddr fo_26_0 rfl .none rfl ?_
 refine JL.loadOwn 1 az_22 rfl rfl rfl .none rfl ?_
 obtain ⟨l5, hl5, hF⟩ := bind_some hF
 refine JL.appD (R := R_Section) 0 (l := ([] : List Section)) (m := f_.Sections) ap_22 rfl ⟨rfl, rfl⟩ rfl CH.nil rfl hf__0 (R_Section_one _) hl5 .none rfl ?_
 intro v6 xs7 hch8
 refine JL.fieldAddr fo_26_0 rfl .none rfl ?_
 refine JL.oneG 0 rfl (fun ho9 => ?_)
 refine JL.storeOwn 1 (cs := [v6]) az_22 rfl ho9.2 rfl (one_cons ho9.1 one_nil) rfl rfl .none ?_
 refine JL.done hQ ?_
 refine JQ.go ?_
 refine JC.seq ?_
 refine JC.region (by rfl) ?_
 intro hQ
 refine JL.loadOwn 1 az_26 rfl rfl rfl .none rfl ?_
 refine JL.oneG 0 rfl (fun ho10 => ?_)
 refine JL.storeOwn 0 (cs := [v6, .int .i64 f_.Low, .int .i64 f_.High, .int .i64 f_.Ease.Num, .int .i64 f_.Ease.Den, .int .i64 f_.Rod, .int .i64 f_.Case]) az_26 rfl rfl rfl (one_cons ho10.1 (one_cons rfl (one_cons rfl (one_cons rfl (one_cons rfl (one_cons rfl (one_cons rfl one_nil))))))) rfl rfl .none ?_
 refine JL.done hQ ?_
 refine JQ.go ?_
 refine JC.ret ?_
 obtain rfl := Option.some.inj hF
 exact JQ.outX rfl (.cell 0 az_26 rfl rfl rfl .nil) ⟨v6, xs7, rfl, rfl, hch8⟩

-- 25 ferrule/ferruleref05.Copy
def F_ref05_Copy (n : Nat) (d : Canopy) : Option Canopy :=
 (F_ref01_Copy n d.Frame).bind fun y4 => (lim (([] : List Span) ++ d.Ribs)).bind fun l9 => (lim (([] : List Int) ++ d.Shares)).bind fun l15 => some (Canopy.mk y4 l9 l15)
set_option maxRecDepth 100000 in
set_option maxHeartbeats 40000000 in
theorem c_ref05_Copy (n : Nat) (H : Hp) (d : Canopy) (d_v0 : Value) (hd_0 : SL H 7 R_Section d_v0 d.Frame.Sections) (d_v7 : Value) (hd_7 : SL H 2 R_Span d_v7 d.Ribs) (d_v8 : Value) (hd_8 : SL H 1 RInt d_v8 d.Shares) (y : Canopy) (hF : F_ref05_Copy n d = some y) : HC Try.prog 25 [.agg [d_v0, .int .i64 d.Frame.Low, .int .i64 d.Frame.High, .int .i64 d.Frame.Ease.Num, .int .i64 d.Frame.Ease.Den, .int .i64 d.Frame.Rod, .int .i64 d.Frame.Case, d_v7, d_v8].toArray] H (fun H' v => ∃ ra_v0 ra_v7 ra_v8 : Value, v = .agg [ra_v0, .int .i64 y.Frame.Low, .int .i64 y.Frame.High, .int .i64 y.Frame.Ease.Num, .int .i64 y.Frame.Ease.Den, .int .i64 y.Frame.Rod, .int .i64 y.Frame.Case, ra_v7, ra_v8].toArray ∧ SL H' 7 R_Section ra_v0 y.Frame.Sections ∧ SL H' 2 R_Span ra_v7 y.Ribs ∧ SL H' 1 RInt ra_v8 y.Shares) := by
 rw [F_ref05_Copy] at hF
 refine HC.of (N := 20) Try.func25 rfl rfl rfl fun w => ?_
 refine JC.seq ?_
 refine JC.region (by rfl) ?_
 intro hQ
 refine JL.box (cs := [d_v0, .int .i64 d.Frame.Low, .int .i64 d.Frame.High, .int .i64 d.Frame.Ease.Num, .int .i64 d.Frame.Ease.Den, .int .i64 d.Frame.Rod, .int .i64 d.Frame.Case, d_v7, d_v8]) rfl .none rfl ?_
 intro b1
 refine JL.alloc ze_30 .none rfl ?_
 intro b2
 refine JL.done hQ ?_
 refine JQ.go ?_
 refine JC.seq ?_
 refine JC.region (by rfl) ?_
 intro hQ
 refine JL.loadOwn 1 az_30 rfl rfl rfl .none rfl ?_
 refine JL.alloc ze_30 .none rfl ?_
 intro b3
 refine JL.storeOwn 0 (cs := [d_v0, .int .i64 d.Frame.Low, .int .i64 d.Frame.High, .int .i64 d.Frame.Ease.Num, .int .i64 d.Frame.Ease.Den, .int .i64 d.Frame.Rod, .int .i64 d.Frame.Case, d_v7, d_v8]) az_30 rfl rfl rfl (one_cons (SL.one hd_0) (one_cons rfl (one_cons rfl (one_cons rfl (one_cons rfl (one_cons rfl (one_cons rfl (one_cons (SL.one hd_7) (one_cons (SL.one hd_8) one_nil))))))))) rfl rfl .none ?_
 refine JL.done hQ ?_
 refine JQ.go ?_
 refine JC.seq ?_
 refine JC.region (by rfl) ?_
 intro hQ
 refine JL.fieldAddr fo_30_0 rfl .none rfl ?_
 refine JL.loadOwn 2 az_26 rfl rfl rfl .none rfl ?_
 obtain ⟨y4, hy4, hF⟩ := bind_some hF
 refine JL.callH (c_ref01_Copy n H d.Frame d_v0 hd_0 y4 hy4) rfl en_46 .none rfl ?_
 rintro H5 vv6 hs5 ⟨y4a_v0, rfl, hy4a_0⟩
 refine JL.fieldAddr fo_30_0 rfl .none rfl ?_
 refine JL.storeOwn 0 (cs := [y4a_v0, .int .i64 y4.Low, .int .i64 y4.High, .int .i64 y4.Ease.Num, .int .i64 y4.Ease.Den, .int .i64 y4.Rod, .int .i64 y4.Case]) az_26 rfl rfl rfl (one_cons (SL.one hy4a_0) (one_cons rfl (one_cons rfl (one_cons rfl (one_cons rfl (one_cons rfl (one_cons rfl one_nil))))))) rfl rfl .none ?_
 refine JL.done hQ ?_
 refine JQ.go ?_
 refine JC.seq ?_
 obtain ⟨l9, hl9, hF⟩ := bind_some hF
 obtain ⟨l15, hl15, hF⟩ := bind_some hF
 refine JC.mixed 12 12 #[false, false, false, false, false, false, false, false, false, false, false, false] [(b2, .cells [.slice none 0 0, .int .i64 0, .int .i64 0, .int .i64 0, .int .i64 0, .int .i64 0, .int .i64 0, .slice none 0 0, .slice none 0 0].toArray 30), (b1, .cells [d_v0, .int .i64 d.Frame.Low, .int .i64 d.Frame.High, .int .i64 d.Frame.Ease.Num, .int .i64 d.Frame.Ease.Den, .int .i64 d.Frame.Rod, .int .i64 d.Frame.Case, d_v7, d_v8].toArray 30)] (by rfl) mo_ (by kernel_rfl) (by kernel_rfl) ?_
 intro hQ hE
 refine JA.cut 4 #[true, true, true, true, true, true, true, false, true, false, false, false] (fun H116 f bs gs => ∃ (v106 : Value) (v99 : Value) (xs100 : List Value), f 2 = .pointer (some ⟨b2, 0, none⟩) ∧ f 3 = .pointer (some ⟨b3, 0, none⟩) ∧ f 12 = v99 ∧ f 13 = v106 ∧ f 15 = d_v8 ∧ f 17 = .pointer (some ⟨b3, 7, none⟩) ∧ bs = [(b3, .cells [y4a_v0, .int .i64 y4.Low, .int .i64 y4.High, .int .i64 y4.Ease.Num, .int .i64 y4.Ease.Den, .int .i64 y4.Rod, .int .i64 y4.Case, d_v7, d_v8].toArray 30), (b2, .cells [.slice none 0 0, .int .i64 0, .int .i64 0, .int .i64 0, .int .i64 0, .int .i64 0, .int .i64 0, .slice none 0 0, .slice none 0 0].toArray 30), (b1, .cells [d_v0, .int .i64 d.Frame.Low, .int .i64 d.Frame.High, .int .i64 d.Frame.Ease.Num, .int .i64 d.Frame.Ease.Den, .int .i64 d.Frame.Rod, .int .i64 d.Frame.Case, d_v7, d_v8].toArray 30)] ∧ gs = [⟨v106, 3, 1, 0, []⟩, ⟨v99, 49, 2, l9.length, xs100⟩] ∧ CH H116 2 R_Span xs100 l9 ∧ HSub H5 H116) ?_ ?_
 ·rintro H116 f bs gs ⟨v106, v99, xs100, hf2, hf3, hf12, hf13, hf15, hf17, rfl, rfl, hm117, hs116⟩
  refine (JA.norm (i := 2) hf2 (JA.norm (i := 3) hf3 (JA.norm (i := 12) hf12 (JA.norm (i := 13) hf13 (JA.norm (i := 15) hf15 (JA.norm (i := 17) hf17 ?_))))))
  refine JA.many [7] (by kernel_rfl) (by simp) (all_one ⟨_, #[true, true, true, true, true, true, true, true, true, false, false, false], rfl, (by kernel_rfl), ?_⟩)
  refine JL.appD (R := RInt) 0 (l := ([] : List Int)) (m := d.Shares) ap_28 rfl ⟨rfl, rfl⟩ rfl CH.nil rfl (SL.mono RInt.mono (HSub.trans hs5 hs116) hd_8) (RInt.one _) hl15 .none rfl ?_
  intro v118 xs119 hch120
  refine JA.after hE hs116 (.cons _ (.cons_cons _ (.cons_cons _ (List.nil_sublist _)))) ?_
  refine JA.many [9] (by kernel_rfl) (by simp) (all_one ⟨_, #[true, true, true, true, true, true, true, true, true, true, false, false], rfl, (by kernel_rfl), ?_⟩)
  refine JL.oneG 1 rfl (fun ho121 => ?_)
  refine JL.storeOwn 0 (cs := [v99]) az_27 rfl ho121.2 rfl (one_cons ho121.1 one_nil) rfl rfl .none ?_
  refine JA.after hE hs116 (.cons _ (.cons_cons _ (.cons_cons _ (List.nil_sublist _)))) ?_
  refine JA.take 10 (listed' := #[true, true, true, true, true, true, true, true, true, true, true, false]) hQ rfl (by kernel_rfl) (by kernel_rfl) (by kernel_rfl) (by kernel_rfl) (by kernel_rfl) hE hs116 (.cons _ (.cons_cons _ (.cons_cons _ (List.nil_sublist _)))) ?_
  refine JL.fieldAddr fo_30_2 rfl .none rfl ?_
  refine JA.cont ?_
  refine JA.many [11] (by kernel_rfl) (by simp) (all_one ⟨_, #[true, true, true, true, true, true, true, true, true, true, true, true], rfl, (by kernel_rfl), ?_⟩)
  refine JL.oneG 0 rfl (fun ho122 => ?_)
  refine JL.storeOwn 0 (cs := [v118]) az_28 rfl ho122.2 rfl (one_cons ho122.1 one_nil) rfl rfl .none ?_
  refine JA.after hE hs116 (.cons _ (.cons_cons _ (.cons_cons _ (List.nil_sublist _)))) ?_
  refine JA.done hQ (by kernel_rfl) ?_
  refine JQ.go ?_
  refine JC.seq ?_
  refine JC.region (by rfl) ?_
  intro hQ
  refine JL.loadOwn 0 az_30 rfl rfl rfl .none rfl ?_
  refine JL.oneG 1 rfl (fun ho123 => ?_)
  refine JL.oneG 0 rfl (fun ho124 => ?_)
  refine JL.storeOwn 1 (cs := [y4a_v0, .int .i64 y4.Low, .int .i64 y4.High, .int .i64 y4.Ease.Num, .int .i64 y4.Ease.Den, .int .i64 y4.Rod, .int .i64 y4.Case, v99, v118]) az_30 rfl rfl rfl (one_cons (SL.one (SL.mono R_Section_mono hs116 hy4a_0)) (one_cons rfl (one_cons rfl (one_cons rfl (one_cons rfl (one_cons rfl (one_cons rfl (one_cons ho123.1 (one_cons ho124.1 one_nil))))))))) rfl rfl .none ?_
  refine JL.done hQ ?_
  refine JQ.go ?_
  refine JC.ret ?_
  refine JQ.freezeG 1 (R := R_Span) rfl R_Span_mono hm117 rfl ?_
  intro H125 hs125 hg126
  refine JQ.freezeG 0 (R := RInt) rfl RInt.mono (CH.mono RInt.mono hs125 hch120) rfl ?_
  intro H127 hs127 hg128
  obtain rfl := Option.some.inj hF
  exact JQ.outH rfl (.cell 1 az_30 rfl rfl rfl .nil) ⟨y4a_v0, v99, v118, rfl, (SL.mono R_Section_mono (HSub.trans hs116 (HSub.trans hs125 hs127)) hy4a_0), (SL.mono R_Span_mono hs127 hg126), hg128⟩
 intro nd115_0
 refine JA.cut 6 #[true, true, true, false, true, true, true, false, false, false, false, false] (fun H129 f bs gs => ∃ (v102 : Value) (v95 : Value), f 2 = .pointer (some ⟨b2, 0, none⟩) ∧ f 3 = .pointer (some ⟨b3, 0, none⟩) ∧ f 9 = v95 ∧ f 11 = d_v7 ∧ f 13 = v102 ∧ f 15 = d_v8 ∧ bs = [(b3, .cells [y4a_v0, .int .i64 y4.Low, .int .i64 y4.High, .int .i64 y4.Ease.Num, .int .i64 y4.Ease.Den, .int .i64 y4.Rod, .int .i64 y4.Case, d_v7, d_v8].toArray 30), (b2, .cells [.slice none 0 0, .int .i64 0, .int .i64 0, .int .i64 0, .int .i64 0, .int .i64 0, .int .i64 0, .slice none 0 0, .slice none 0 0].toArray 30), (b1, .cells [d_v0, .int .i64 d.Frame.Low, .int .i64 d.Frame.High, .int .i64 d.Frame.Ease.Num, .int .i64 d.Frame.Ease.Den, .int .i64 d.Frame.Rod, .int .i64 d.Frame.Case, d_v7, d_v8].toArray 30)] ∧ gs = [⟨v102, 3, 1, 0, []⟩, ⟨v95, 49, 2, 0, []⟩] ∧ HSub H5 H129) ?_ ?_
 ·rintro H129 f bs gs ⟨v102, v95, hf2, hf3, hf9, hf11, hf13, hf15, rfl, rfl, hs129⟩
  refine (JA.norm (i := 2) hf2 (JA.norm (i := 3) hf3 (JA.norm (i := 9) hf9 (JA.norm (i := 11) hf11 (JA.norm (i := 13) hf13 (JA.norm (i := 15) hf15 ?_))))))
  refine JA.many [3] (by kernel_rfl) (by simp) (all_one ⟨_, #[true, true, true, true, true, true, true, false, false, false, false, false], rfl, (by kernel_rfl), ?_⟩)
  refine JL.appD (R := R_Span) 1 (l := ([] : List Span)) (m := d.Ribs) ap_27 rfl ⟨rfl, rfl⟩ rfl CH.nil rfl (SL.mono R_Span_mono (HSub.trans hs5 hs129) hd_7) (R_Span_one _) hl9 .none rfl ?_
  intro v130 xs131 hch132
  refine JA.after hE hs129 (.cons _ (.cons_cons _ (.cons_cons _ (List.nil_sublist _)))) ?_
  refine JA.take 8 (listed' := #[true, true, true, true, true, true, true, false, true, false, false, false]) hQ rfl (by kernel_rfl) (by kernel_rfl) (by kernel_rfl) (by kernel_rfl) (by kernel_rfl) hE hs129 (.cons _ (.cons_cons _ (.cons_cons _ (List.nil_sublist _)))) ?_
  refine JL.fieldAddr fo_30_1 rfl .none rfl ?_
  refine JA.cont ?_
  exact nd115_0 _ _ _ _ ⟨v102, v130, xs131, rfl, rfl, rfl, rfl, rfl, rfl, rfl, rfl, hch132, hs129⟩
 intro nd115_1
 refine JA.take 1 (listed' := #[false, true, false, false, false, false, false, false, false, false, false, false]) hQ rfl (by kernel_rfl) (by kernel_rfl) (by kernel_rfl) (by kernel_rfl) (by kernel_rfl) hE (HSub.refl _) (.cons _ (.cons_cons _ (.cons_cons _ (List.nil_sublist _)))) ?_
 refine JL.fieldAddr fo_30_1 rfl .none rfl ?_
 refine JA.cont ?_
 refine JA.take 2 (listed' := #[false, true, true, false, false, false, false, false, false, false, false, false]) hQ rfl (by kernel_rfl) (by kernel_rfl) (by kernel_rfl) (by kernel_rfl) (by kernel_rfl) hE (HSub.refl _) (.cons _ (.cons_cons _ (.cons_cons _ (List.nil_sublist _)))) ?_
 refine JL.loadOwn 1 az_27 rfl rfl rfl .none rfl ?_
 refine JA.cont ?_
 refine JA.take 5 (listed' := #[false, true, true, false, false, true, false, false, false, false, false, false]) hQ rfl (by kernel_rfl) (by kernel_rfl) (by kernel_rfl) (by kernel_rfl) (by kernel_rfl) hE (HSub.refl _) (.cons _ (.cons_cons _ (.cons_cons _ (List.nil_sublist _)))) ?_
 refine JL.fieldAddr fo_30_2 rfl .none rfl ?_
 refine JA.cont ?_
 refine JA.take 6 (listed' := #[false, true, true, false, false, true, true, false, false, false, false, false]) hQ rfl (by kernel_rfl) (by kernel_rfl) (by kernel_rfl) (by kernel_rfl) (by kernel_rfl) hE (HSub.refl _) (.cons _ (.cons_cons _ (.cons_cons _ (List.nil_sublist _)))) ?_
 refine JL.loadOwn 1 az_28 rfl rfl rfl .none rfl ?_
 refine JA.cont ?_
 refine JA.many [0, 4] (by kernel_rfl) (by simp) (all_cons ⟨_, #[true, true, true, false, false, true, true, false, false, false, false, false], rfl, (by kernel_rfl), ?_⟩ (all_one ⟨_, #[false, true, true, false, true, true, true, false, false, false, false, false], rfl, (by kernel_rfl), ?_⟩))
 ·skip
  refine JL.emptySlice ap_27 .none rfl ?_
  intro v133
  refine JA.after hE (HSub.refl _) (.cons _ (.cons_cons _ (.cons_cons _ (List.nil_sublist _)))) ?_
  refine JA.many [3, 4] (by kernel_rfl) (by simp) (all_cons ⟨_, #[true, true, true, true, false, true, true, false, false, false, false, false], rfl, (by kernel_rfl), ?_⟩ (all_one ⟨_, #[true, true, true, false, true, true, true, false, false, false, false, false], rfl, (by kernel_rfl), ?_⟩))
  ·skip
   refine JL.appD (R := R_Span) 0 (l := ([] : List Span)) (m := d.Ribs) ap_27 rfl ⟨rfl, rfl⟩ rfl CH.nil rfl (SL.mono R_Span_mono hs5 hd_7) (R_Span_one _) hl9 .none rfl ?_
   intro v135 xs136 hch137
   refine JA.after hE (HSub.refl _) (.cons _ (.cons_cons _ (.cons_cons _ (List.nil_sublist _)))) ?_
   refine JA.take 8 (listed' := #[true, true, true, true, false, true, true, false, true, false, false, false]) hQ rfl (by kernel_rfl) (by kernel_rfl) (by kernel_rfl) (by kernel_rfl) (by kernel_rfl) hE (HSub.refl _) (.cons _ (.cons_cons _ (.cons_cons _ (List.nil_sublist _)))) ?_
   refine JL.fieldAddr fo_30_1 rfl .none rfl ?_
   refine JA.cont ?_
   refine JA.many [4] (by kernel_rfl) (by simp) (all_one ⟨_, #[true, true, true, true, true, true, true, false, true, false, false, false], rfl, (by kernel_rfl), ?_⟩)
   refine JL.emptySlice ap_28 .none rfl ?_
   intro v138
   refine JA.after hE (HSub.refl _) (.cons _ (.cons_cons _ (.cons_cons _ (List.nil_sublist _)))) ?_
   exact nd115_0 _ _ _ _ ⟨v138, v135, xs136, rfl, rfl, rfl, rfl, rfl, rfl, rfl, rfl, hch137, (HSub.refl _)⟩
  ·skip
   refine JL.emptySlice ap_28 .none rfl ?_
   intro v140
   refine JA.after hE (HSub.refl _) (.cons _ (.cons_cons _ (.cons_cons _ (List.nil_sublist _)))) ?_
   exact nd115_1 _ _ _ _ ⟨v140, v133, rfl, rfl, rfl, rfl, rfl, rfl, rfl, rfl, (HSub.refl _)⟩
 ·skip
  refine JL.emptySlice ap_28 .none rfl ?_
  intro v142
  refine JA.after hE (HSub.refl _) (.cons _ (.cons_cons _ (.cons_cons _ (List.nil_sublist _)))) ?_
  refine JA.many [0] (by kernel_rfl) (by simp) (all_one ⟨_, #[true, true, true, false, true, true, true, false, false, false, false, false], rfl, (by kernel_rfl), ?_⟩)
  refine JL.emptySlice ap_27 .none rfl ?_
  intro v144
  refine JA.after hE (HSub.refl _) (.cons _ (.cons_cons _ (.cons_cons _ (List.nil_sublist _)))) ?_
  refine JA.permG (swapAt_perm 0 _) ?_
  exact nd115_1 _ _ _ _ ⟨v142, v144, rfl, rfl, rfl, rfl, rfl, rfl, rfl, rfl, (HSub.refl _)⟩
set_option maxRecDepth 100000 in
set_option maxHeartbeats 40000000 in
theorem x_ref05_Copy (n : Nat) (H : Hp) (d : Canopy) (d_v0 : Value) (hd_0 : SL H 7 R_Section d_v0 d.Frame.Sections) (d_v7 : Value) (hd_7 : SL H 2 R_Span d_v7 d.Ribs) (d_v8 : Value) (hd_8 : SL H 1 RInt d_v8 d.Shares) (y : Canopy) (hF : F_ref05_Copy n d = some y) : XC Try.prog 25 [.agg [d_v0, .int .i64 d.Frame.Low, .int .i64 d.Frame.High, .int .i64 d.Frame.Ease.Num, .int .i64 d.Frame.Ease.Den, .int .i64 d.Frame.Rod, .int .i64 d.Frame.Case, d_v7, d_v8].toArray] H (fun H' v gs' => ∃ (y_v0 : Value) (y_xs0 : List Value) (y_v1 : Value) (y_xs1 : List Value) (y_v2 : Value) (y_xs2 : List Value), v = .agg [y_v0, .int .i64 y.Frame.Low, .int .i64 y.Frame.High, .int .i64 y.Frame.Ease.Num, .int .i64 y.Frame.Ease.Den, .int .i64 y.Frame.Rod, .int .i64 y.Frame.Case, y_v1, y_v2].toArray ∧ gs' = [⟨y_v2, 3, 1, y.Shares.length, y_xs2⟩, ⟨y_v1, 49, 2, y.Ribs.length, y_xs1⟩, ⟨y_v0, 129, 7, y.Frame.Sections.length, y_xs0⟩] ∧ CH H' 7 R_Section y_xs0 y.Frame.Sections ∧ CH H' 2 R_Span y_xs1 y.Ribs ∧ CH H' 1 RInt y_xs2 y.Shares) := by
 rw [F_ref05_Copy] at hF
 refine XC.of (N := 20) Try.func25 rfl rfl rfl fun w => ?_
 refine JC.seq ?_
 refine JC.region (by rfl) ?_
 intro hQ
 refine JL.box (cs := [d_v0, .int .i64 d.Frame.Low, .int .i64 d.Frame.High, .int .i64 d.Frame.Ease.Num, .int .i64 d.Frame.Ease.Den, .int .i64 d.Frame.Rod, .int .i64 d.Frame.Case, d_v7, d_v8]) rfl .none rfl ?_
 intro b1
 refine JL.alloc ze_30 .none rfl ?_
 intro b2
 refine JL.done hQ ?_
 refine JQ.go ?_
 refine JC.seq ?_
 refine JC.region (by rfl) ?_
 intro hQ
 refine JL.loadOwn 1 az_30 rfl rfl rfl .none rfl ?_
 refine JL.alloc ze_30 .none rfl ?_
 intro b3
 refine JL.storeOwn 0 (cs := [d_v0, .int .i64 d.Frame.Low, .int .i64 d.Frame.High, .int .i64 d.Frame.Ease.Num, .int .i64 d.Frame.Ease.Den, .int .i64 d.Frame.Rod, .int .i64 d.Frame.Case, d_v7, d_v8]) az_30 rfl rfl rfl (one_cons (SL.one hd_0) (one_cons rfl (one_cons rfl (one_cons rfl (one_cons rfl (one_cons rfl (one_cons rfl (one_cons (SL.one hd_7) (one_cons (SL.one hd_8) one_nil))))))))) rfl rfl .none ?_
 refine JL.done hQ ?_
 refine JQ.go ?_
 refine JC.seq ?_
 refine JC.region (by rfl) ?_
 intro hQ
 refine JL.fieldAddr fo_30_0 rfl .none rfl ?_
 refine JL.loadOwn 2 az_26 rfl rfl rfl .none rfl ?_
 obtain ⟨y4, hy4, hF⟩ := bind_some hF
 refine JL.callXC (x_ref01_Copy n H d.Frame d_v0 hd_0 y4 hy4) rfl en_46 .none rfl ?_
 rintro H5 vv6 _ hs5 ⟨y4_v0, y4_xs0, rfl, rfl, hy4_0⟩
 refine JL.fieldAddr fo_30_0 rfl .none rfl ?_
 refine JL.oneG 0 rfl (fun ho8 => ?_)
 refine JL.storeOwn 0 (cs := [y4_v0, .int .i64 y4.Low, .int .i64 y4.High, .int .i64 y4.Ease.Num, .int .i64 y4.Ease.Den, .int .i64 y4.Rod, .int .i64 y4.Case]) az_26 rfl rfl rfl (one_cons ho8.1 (one_cons rfl (one_cons rfl (one_cons rfl (one_cons rfl (one_cons rfl (one_cons rfl one_nil))))))) rfl rfl .none ?_
 refine JL.done hQ ?_
 refine JQ.go ?_
 refine JC.seq ?_
 obtain ⟨l11, hl11, hF⟩ := bind_some hF
 obtain ⟨l17, hl17, hF⟩ := bind_some hF
 refine JC.mixed 12 12 #[false, false, false, false, false, false, false, false, false, false, false, false] [(b2, .cells [.slice none 0 0, .int .i64 0, .int .i64 0, .int .i64 0, .int .i64 0, .int .i64 0, .int .i64 0, .slice none 0 0, .slice none 0 0].toArray 30), (b1, .cells [d_v0, .int .i64 d.Frame.Low, .int .i64 d.Frame.High, .int .i64 d.Frame.Ease.Num, .int .i64 d.Frame.Ease.Den, .int .i64 d.Frame.Rod, .int .i64 d.Frame.Case, d_v7, d_v8].toArray 30)] (by rfl) mo_ (by kernel_rfl) (by kernel_rfl) ?_
 intro hQ hE
 refine JA.cut 4 #[true, true, true, true, true, true, true, false, true, false, false, false] (fun H118 f bs gs => ∃ (v108 : Value) (v101 : Value) (xs102 : List Value), f 2 = .pointer (some ⟨b2, 0, none⟩) ∧ f 3 = .pointer (some ⟨b3, 0, none⟩) ∧ f 12 = v101 ∧ f 13 = v108 ∧ f 15 = d_v8 ∧ f 17 = .pointer (some ⟨b3, 7, none⟩) ∧ bs = [(b3, .cells [y4_v0, .int .i64 y4.Low, .int .i64 y4.High, .int .i64 y4.Ease.Num, .int .i64 y4.Ease.Den, .int .i64 y4.Rod, .int .i64 y4.Case, d_v7, d_v8].toArray 30), (b2, .cells [.slice none 0 0, .int .i64 0, .int .i64 0, .int .i64 0, .int .i64 0, .int .i64 0, .int .i64 0, .slice none 0 0, .slice none 0 0].toArray 30), (b1, .cells [d_v0, .int .i64 d.Frame.Low, .int .i64 d.Frame.High, .int .i64 d.Frame.Ease.Num, .int .i64 d.Frame.Ease.Den, .int .i64 d.Frame.Rod, .int .i64 d.Frame.Case, d_v7, d_v8].toArray 30)] ∧ gs = [⟨v108, 3, 1, 0, []⟩, ⟨v101, 49, 2, l11.length, xs102⟩, ⟨y4_v0, 129, 7, y4.Sections.length, y4_xs0⟩] ∧ CH H118 2 R_Span xs102 l11 ∧ HSub H5 H118) ?_ ?_
 ·rintro H118 f bs gs ⟨v108, v101, xs102, hf2, hf3, hf12, hf13, hf15, hf17, rfl, rfl, hm119, hs118⟩
  refine (JA.norm (i := 2) hf2 (JA.norm (i := 3) hf3 (JA.norm (i := 12) hf12 (JA.norm (i := 13) hf13 (JA.norm (i := 15) hf15 (JA.norm (i := 17) hf17 ?_))))))
  refine JA.many [7] (by kernel_rfl) (by simp) (all_one ⟨_, #[true, true, true, true, true, true, true, true, true, false, false, false], rfl, (by kernel_rfl), ?_⟩)
  refine JL.appD (R := RInt) 0 (l := ([] : List Int)) (m := d.Shares) ap_28 rfl ⟨rfl, rfl⟩ rfl CH.nil rfl (SL.mono RInt.mono (HSub.trans hs5 hs118) hd_8) (RInt.one _) hl17 .none rfl ?_
  intro v120 xs121 hch122
  refine JA.after hE hs118 (.cons _ (.cons_cons _ (.cons_cons _ (List.nil_sublist _)))) ?_
  refine JA.many [9] (by kernel_rfl) (by simp) (all_one ⟨_, #[true, true, true, true, true, true, true, true, true, true, false, false], rfl, (by kernel_rfl), ?_⟩)
  refine JL.oneG 1 rfl (fun ho123 => ?_)
  refine JL.storeOwn 0 (cs := [v101]) az_27 rfl ho123.2 rfl (one_cons ho123.1 one_nil) rfl rfl .none ?_
  refine JA.after hE hs118 (.cons _ (.cons_cons _ (.cons_cons _ (List.nil_sublist _)))) ?_
  refine JA.take 10 (listed' := #[true, true, true, true, true, true, true, true, true, true, true, false]) hQ rfl (by kernel_rfl) (by kernel_rfl) (by kernel_rfl) (by kernel_rfl) (by kernel_rfl) hE hs118 (.cons _ (.cons_cons _ (.cons_cons _ (List.nil_sublist _)))) ?_
  refine JL.fieldAddr fo_30_2 rfl .none rfl ?_
  refine JA.cont ?_
  refine JA.many [11] (by kernel_rfl) (by simp) (all_one ⟨_, #[true, true, true, true, true, true, true, true, true, true, true, true], rfl, (by kernel_rfl), ?_⟩)
  refine JL.oneG 0 rfl (fun ho124 => ?_)
  refine JL.storeOwn 0 (cs := [v120]) az_28 rfl ho124.2 rfl (one_cons ho124.1 one_nil) rfl rfl .none ?_
  refine JA.after hE hs118 (.cons _ (.cons_cons _ (.cons_cons _ (List.nil_sublist _)))) ?_
  refine JA.done hQ (by kernel_rfl) ?_
  refine JQ.go ?_
  refine JC.seq ?_
  refine JC.region (by rfl) ?_
  intro hQ
  refine JL.loadOwn 0 az_30 rfl rfl rfl .none rfl ?_
  refine JL.oneG 2 rfl (fun ho125 => ?_)
  refine JL.oneG 1 rfl (fun ho126 => ?_)
  refine JL.oneG 0 rfl (fun ho127 => ?_)
  refine JL.storeOwn 1 (cs := [y4_v0, .int .i64 y4.Low, .int .i64 y4.High, .int .i64 y4.Ease.Num, .int .i64 y4.Ease.Den, .int .i64 y4.Rod, .int .i64 y4.Case, v101, v120]) az_30 rfl rfl rfl (one_cons ho125.1 (one_cons rfl (one_cons rfl (one_cons rfl (one_cons rfl (one_cons rfl (one_cons rfl (one_cons ho126.1 (one_cons ho127.1 one_nil))))))))) rfl rfl .none ?_
  refine JL.done hQ ?_
  refine JQ.go ?_
  refine JC.ret ?_
  obtain rfl := Option.some.inj hF
  exact JQ.outX rfl (.cell 1 az_30 rfl rfl rfl .nil) ⟨y4_v0, y4_xs0, v101, xs102, v120, xs121, rfl, rfl, (CH.mono R_Section_mono hs118 hy4_0), hm119, hch122⟩
 intro nd117_0
 refine JA.cut 6 #[true, true, true, false, true, true, true, false, false, false, false, false] (fun H128 f bs gs => ∃ (v104 : Value) (v97 : Value), f 2 = .pointer (some ⟨b2, 0, none⟩) ∧ f 3 = .pointer (some ⟨b3, 0, none⟩) ∧ f 9 = v97 ∧ f 11 = d_v7 ∧ f 13 = v104 ∧ f 15 = d_v8 ∧ bs = [(b3, .cells [y4_v0, .int .i64 y4.Low, .int .i64 y4.High, .int .i64 y4.Ease.Num, .int .i64 y4.Ease.Den, .int .i64 y4.Rod, .int .i64 y4.Case, d_v7, d_v8].toArray 30), (b2, .cells [.slice none 0 0, .int .i64 0, .int .i64 0, .int .i64 0, .int .i64 0, .int .i64 0, .int .i64 0, .slice none 0 0, .slice none 0 0].toArray 30), (b1, .cells [d_v0, .int .i64 d.Frame.Low, .int .i64 d.Frame.High, .int .i64 d.Frame.Ease.Num, .int .i64 d.Frame.Ease.Den, .int .i64 d.Frame.Rod, .int .i64 d.Frame.Case, d_v7, d_v8].toArray 30)] ∧ gs = [⟨v104, 3, 1, 0, []⟩, ⟨v97, 49, 2, 0, []⟩, ⟨y4_v0, 129, 7, y4.Sections.length, y4_xs0⟩] ∧ HSub H5 H128) ?_ ?_
 ·rintro H128 f bs gs ⟨v104, v97, hf2, hf3, hf9, hf11, hf13, hf15, rfl, rfl, hs128⟩
  refine (JA.norm (i := 2) hf2 (JA.norm (i := 3) hf3 (JA.norm (i := 9) hf9 (JA.norm (i := 11) hf11 (JA.norm (i := 13) hf13 (JA.norm (i := 15) hf15 ?_))))))
  refine JA.many [3] (by kernel_rfl) (by simp) (all_one ⟨_, #[true, true, true, true, true, true, true, false, false, false, false, false], rfl, (by kernel_rfl), ?_⟩)
  refine JL.appD (R := R_Span) 1 (l := ([] : List Span)) (m := d.Ribs) ap_27 rfl ⟨rfl, rfl⟩ rfl CH.nil rfl (SL.mono R_Span_mono (HSub.trans hs5 hs128) hd_7) (R_Span_one _) hl11 .none rfl ?_
  intro v129 xs130 hch131
  refine JA.after hE hs128 (.cons _ (.cons_cons _ (.cons_cons _ (List.nil_sublist _)))) ?_
  refine JA.take 8 (listed' := #[true, true, true, true, true, true, true, false, true, false, false, false]) hQ rfl (by kernel_rfl) (by kernel_rfl) (by kernel_rfl) (by kernel_rfl) (by kernel_rfl) hE hs128 (.cons _ (.cons_cons _ (.cons_cons _ (List.nil_sublist _)))) ?_
  refine JL.fieldAddr fo_30_1 rfl .none rfl ?_
  refine JA.cont ?_
  exact nd117_0 _ _ _ _ ⟨v104, v129, xs130, rfl, rfl, rfl, rfl, rfl, rfl, rfl, rfl, hch131, hs128⟩
 intro nd117_1
 refine JA.take 1 (listed' := #[false, true, false, false, false, false, false, false, false, false, false, false]) hQ rfl (by kernel_rfl) (by kernel_rfl) (by kernel_rfl) (by kernel_rfl) (by kernel_rfl) hE (HSub.refl _) (.cons _ (.cons_cons _ (.cons_cons _ (List.nil_sublist _)))) ?_
 refine JL.fieldAddr fo_30_1 rfl .none rfl ?_
 refine JA.cont ?_
 refine JA.take 2 (listed' := #[false, true, true, false, false, false, false, false, false, false, false, false]) hQ rfl (by kernel_rfl) (by kernel_rfl) (by kernel_rfl) (by kernel_rfl) (by kernel_rfl) hE (HSub.refl _) (.cons _ (.cons_cons _ (.cons_cons _ (List.nil_sublist _)))) ?_
 refine JL.loadOwn 1 az_27 rfl rfl rfl .none rfl ?_
 refine JA.cont ?_
 refine JA.take 5 (listed' := #[false, true, true, false, false, true, false, false, false, false, false, false]) hQ rfl (by kernel_rfl) (by kernel_rfl) (by kernel_rfl) (by kernel_rfl) (by kernel_rfl) hE (HSub.refl _) (.cons _ (.cons_cons _ (.cons_cons _ (List.nil_sublist _)))) ?_
 refine JL.fieldAddr fo_30_2 rfl .none rfl ?_
 refine JA.cont ?_
 refine JA.take 6 (listed' := #[false, true, true, false, false, true, true, false, false, false, false, false]) hQ rfl (by kernel_rfl) (by kernel_rfl) (by kernel_rfl) (by kernel_rfl) (by kernel_rfl) hE (HSub.refl _) (.cons _ (.cons_cons _ (.cons_cons _ (List.nil_sublist _)))) ?_
 refine JL.loadOwn 1 az_28 rfl rfl rfl .none rfl ?_
 refine JA.cont ?_
 refine JA.many [0, 4] (by kernel_rfl) (by simp) (all_cons ⟨_, #[true, true, true, false, false, true, true, false, false, false, false, false], rfl, (by kernel_rfl), ?_⟩ (all_one ⟨_, #[false, true, true, false, true, true, true, false, false, false, false, false], rfl, (by kernel_rfl), ?_⟩))
 ·skip
  refine JL.emptySlice ap_27 .none rfl ?_
  intro v132
  refine JA.after hE (HSub.refl _) (.cons _ (.cons_cons _ (.cons_cons _ (List.nil_sublist _)))) ?_
  refine JA.many [3, 4] (by kernel_rfl) (by simp) (all_cons ⟨_, #[true, true, true, true, false, true, true, false, false, false, false, false], rfl, (by kernel_rfl), ?_⟩ (all_one ⟨_, #[true, true, true, false, true, true, true, false, false, false, false, false], rfl, (by kernel_rfl), ?_⟩))
  ·skip
   refine JL.appD (R := R_Span) 0 (l := ([] : List Span)) (m := d.Ribs) ap_27 rfl ⟨rfl, rfl⟩ rfl CH.nil rfl (SL.mono R_Span_mono hs5 hd_7) (R_Span_one _) hl11 .none rfl ?_
   intro v134 xs135 hch136
   refine JA.after hE (HSub.refl _) (.cons _ (.cons_cons _ (.cons_cons _ (List.nil_sublist _)))) ?_
   refine JA.take 8 (listed' := #[true, true, true, true, false, true, true, false, true, false, false, false]) hQ rfl (by kernel_rfl) (by kernel_rfl) (by kernel_rfl) (by kernel_rfl) (by kernel_rfl) hE (HSub.refl _) (.cons _ (.cons_cons _ (.cons_cons _ (List.nil_sublist _)))) ?_
   refine JL.fieldAddr fo_30_1 rfl .none rfl ?_
   refine JA.cont ?_
   refine JA.many [4] (by kernel_rfl) (by simp) (all_one ⟨_, #[true, true, true, true, true, true, true, false, true, false, false, false], rfl, (by kernel_rfl), ?_⟩)
   refine JL.emptySlice ap_28 .none rfl ?_
   intro v137
   refine JA.after hE (HSub.refl _) (.cons _ (.cons_cons _ (.cons_cons _ (List.nil_sublist _)))) ?_
   exact nd117_0 _ _ _ _ ⟨v137, v134, xs135, rfl, rfl, rfl, rfl, rfl, rfl, rfl, rfl, hch136, (HSub.refl _)⟩
  ·skip
   refine JL.emptySlice ap_28 .none rfl ?_
   intro v139
   refine JA.after hE (HSub.refl _) (.cons _ (.cons_cons _ (.cons_cons _ (List.nil_sublist _)))) ?_
   exact nd117_1 _ _ _ _ ⟨v139, v132, rfl, rfl, rfl, rfl, rfl, rfl, rfl, rfl, (HSub.refl _)⟩
 ·skip
  refine JL.emptySlice ap_28 .none rfl ?_
  intro v141
  refine JA.after hE (HSub.refl _) (.cons _ (.cons_cons _ (.cons_cons _ (List.nil_sublist _)))) ?_
  refine JA.many [0] (by kernel_rfl) (by simp) (all_one ⟨_, #[true, true, true, false, true, true, true, false, false, false, false, false], rfl, (by kernel_rfl), ?_⟩)
  refine JL.emptySlice ap_27 .none rfl ?_
  intro v143
  refine JA.after hE (HSub.refl _) (.cons _ (.cons_cons _ (.cons_cons _ (List.nil_sublist _)))) ?_
  refine JA.permG (swapAt_perm 0 _) ?_
  exact nd117_1 _ _ _ _ ⟨v141, v143, rfl, rfl, rfl, rfl, rfl, rfl, rfl, rfl, (HSub.refl _)⟩

end Go.Proofs.Ytcipdblhopffbaa
end
section
namespace Go.Proofs.Ytcipdblhopffbaa
open Go Go.RowKit Go.Dec
set_option linter.unusedVariables false
-- 10 ferrule/ferruleref13.Copy
def F_ref13_Copy (n : Nat) (r : Run) : Option Run :=
 (F_ref05_Copy n r.Canopy).bind fun y4 => (lim (([] : List Blow) ++ r.Blows)).bind fun l9 => (lim (([] : List Meter) ++ r.Meters)).bind fun l15 => some (Run.mk y4 l9 l15 r.Wrong)
set_option maxRecDepth 100000 in
set_option maxHeartbeats 40000000 in
theorem c_ref13_Copy (n : Nat) (H : Hp) (r : Run) (r_v0 : Value) (hr_0 : SL H 7 R_Section r_v0 r.Canopy.Frame.Sections) (r_v7 : Value) (hr_7 : SL H 2 R_Span r_v7 r.Canopy.Ribs) (r_v8 : Value) (hr_8 : SL H 1 RInt r_v8 r.Canopy.Shares) (r_v9 : Value) (hr_9 : SL H 3 R_Blow r_v9 r.Blows) (r_v10 : Value) (hr_10 : SL H 2 R_Meter r_v10 r.Meters) (y : Run) (hF : F_ref13_Copy n r = some y) : HC Try.prog 10 [.agg [r_v0, .int .i64 r.Canopy.Frame.Low, .int .i64 r.Canopy.Frame.High, .int .i64 r.Canopy.Frame.Ease.Num, .int .i64 r.Canopy.Frame.Ease.Den, .int .i64 r.Canopy.Frame.Rod, .int .i64 r.Canopy.Frame.Case, r_v7, r_v8, r_v9, r_v10, .int .i64 r.Wrong].toArray] H (fun H' v => ∃ ra_v0 ra_v7 ra_v8 ra_v9 ra_v10 : Value, v = .agg [ra_v0, .int .i64 y.Canopy.Frame.Low, .int .i64 y.Canopy.Frame.High, .int .i64 y.Canopy.Frame.Ease.Num, .int .i64 y.Canopy.Frame.Ease.Den, .int .i64 y.Canopy.Frame.Rod, .int .i64 y.Canopy.Frame.Case, ra_v7, ra_v8, ra_v9, ra_v10, .int .i64 y.Wrong].toArray ∧ SL H' 7 R_Section ra_v0 y.Canopy.Frame.Sections ∧ SL H' 2 R_Span ra_v7 y.Canopy.Ribs ∧ SL H' 1 RInt ra_v8 y.Canopy.Shares ∧ SL H' 3 R_Blow ra_v9 y.Blows ∧ SL H' 2 R_Meter ra_v10 y.Meters) := by
 rw [F_ref13_Copy] at hF
 refine HC.of (N := 20) Try.func10 rfl rfl rfl fun w => ?_
 refine JC.seq ?_
 refine JC.region (by rfl) ?_
 intro hQ
 refine JL.box (cs := [r_v0, .int .i64 r.Canopy.Frame.Low, .int .i64 r.Canopy.Frame.High, .int .i64 r.Canopy.Frame.Ease.Num, .int .i64 r.Canopy.Frame.Ease.Den, .int .i64 r.Canopy.Frame.Rod, .int .i64 r.Canopy.Frame.Case, r_v7, r_v8, r_v9, r_v10, .int .i64 r.Wrong]) rfl .none rfl ?_
 intro b1
 refine JL.alloc ze_34 .none rfl ?_
 intro b2
 refine JL.done hQ ?_
 refine JQ.go ?_
 refine JC.seq ?_
 refine JC.region (by rfl) ?_
 intro hQ
 refine JL.loadOwn 1 az_34 rfl rfl rfl .none rfl ?_
 refine JL.alloc ze_34 .none rfl ?_
 intro b3
 refine JL.storeOwn 0 (cs := [r_v0, .int .i64 r.Canopy.Frame.Low, .int .i64 r.Canopy.Frame.High, .int .i64 r.Canopy.Frame.Ease.Num, .int .i64 r.Canopy.Frame.Ease.Den, .int .i64 r.Canopy.Frame.Rod, .int .i64 r.Canopy.Frame.Case, r_v7, r_v8, r_v9, r_v10, .int .i64 r.Wrong]) az_34 rfl rfl rfl (one_cons (SL.one hr_0) (one_cons rfl (one_cons rfl (one_cons rfl (one_cons rfl (one_cons rfl (one_cons rfl (one_cons (SL.one hr_7) (one_cons (SL.one hr_8) (one_cons (SL.one hr_9) (one_cons (SL.one hr_10) (one_cons rfl one_nil)))))))))))) rfl rfl .none ?_
 refine JL.done hQ ?_
 refine JQ.go ?_
 refine JC.seq ?_
 refine JC.region (by rfl) ?_
 intro hQ
 refine JL.fieldAddr fo_34_0 rfl .none rfl ?_
 refine JL.loadOwn 2 az_30 rfl rfl rfl .none rfl ?_
 obtain ⟨y4, hy4, hF⟩ := bind_some hF
 refine JL.callH (c_ref05_Copy n H r.Canopy r_v0 hr_0 r_v7 hr_7 r_v8 hr_8 y4 hy4) rfl en_25 .none rfl ?_
 rintro H5 vv6 hs5 ⟨y4a_v0, y4a_v7, y4a_v8, rfl, hy4a_0, hy4a_7, hy4a_8⟩
 refine JL.fieldAddr fo_34_0 rfl .none rfl ?_
 refine JL.storeOwn 0 (cs := [y4a_v0, .int .i64 y4.Frame.Low, .int .i64 y4.Frame.High, .int .i64 y4.Frame.Ease.Num, .int .i64 y4.Frame.Ease.Den, .int .i64 y4.Frame.Rod, .int .i64 y4.Frame.Case, y4a_v7, y4a_v8]) az_30 rfl rfl rfl (one_cons (SL.one hy4a_0) (one_cons rfl (one_cons rfl (one_cons rfl (one_cons rfl (one_cons rfl (one_cons rfl (one_cons (SL.one hy4a_7) (one_cons (SL.one hy4a_8) one_nil))))))))) rfl rfl .none ?_
 refine JL.done hQ ?_
 refine JQ.go ?_
 refine JC.seq ?_
 obtain ⟨l9, hl9, hF⟩ := bind_some hF
 obtain ⟨l15, hl15, hF⟩ := bind_some hF
 refine JC.mixed 12 12 #[false, false, false, false, false, false, false, false, false, false, false, false] [(b2, .cells [.slice none 0 0, .int .i64 0, .int .i64 0, .int .i64 0, .int .i64 0, .int .i64 0, .int .i64 0, .slice none 0 0, .slice none 0 0, .slice none 0 0, .slice none 0 0, .int .i64 0].toArray 34), (b1, .cells [r_v0, .int .i64 r.Canopy.Frame.Low, .int .i64 r.Canopy.Frame.High, .int .i64 r.Canopy.Frame.Ease.Num, .int .i64 r.Canopy.Frame.Ease.Den, .int .i64 r.Canopy.Frame.Rod, .int .i64 r.Canopy.Frame.Case, r_v7, r_v8, r_v9, r_v10, .int .i64 r.Wrong].toArray 34)] (by rfl) mo_ (by kernel_rfl) (by kernel_rfl) ?_
 intro hQ hE
 refine JA.cut 4 #[true, true, true, true, true, true, true, false, true, false, false, false] (fun H116 f bs gs => ∃ (v106 : Value) (v99 : Value) (xs100 : List Value), f 2 = .pointer (some ⟨b2, 0, none⟩) ∧ f 3 = .pointer (some ⟨b3, 0, none⟩) ∧ f 12 = v99 ∧ f 13 = v106 ∧ f 15 = r_v10 ∧ f 17 = .pointer (some ⟨b3, 9, none⟩) ∧ bs = [(b3, .cells [y4a_v0, .int .i64 y4.Frame.Low, .int .i64 y4.Frame.High, .int .i64 y4.Frame.Ease.Num, .int .i64 y4.Frame.Ease.Den, .int .i64 y4.Frame.Rod, .int .i64 y4.Frame.Case, y4a_v7, y4a_v8, r_v9, r_v10, .int .i64 r.Wrong].toArray 34), (b2, .cells [.slice none 0 0, .int .i64 0, .int .i64 0, .int .i64 0, .int .i64 0, .int .i64 0, .int .i64 0, .slice none 0 0, .slice none 0 0, .slice none 0 0, .slice none 0 0, .int .i64 0].toArray 34), (b1, .cells [r_v0, .int .i64 r.Canopy.Frame.Low, .int .i64 r.Canopy.Frame.High, .int .i64 r.Canopy.Frame.Ease.Num, .int .i64 r.Canopy.Frame.Ease.Den, .int .i64 r.Canopy.Frame.Rod, .int .i64 r.Canopy.Frame.Case, r_v7, r_v8, r_v9, r_v10, .int .i64 r.Wrong].toArray 34)] ∧ gs = [⟨v106, 36, 2, 0, []⟩, ⟨v99, 56, 3, l9.length, xs100⟩] ∧ CH H116 3 R_Blow xs100 l9 ∧ HSub H5 H116) ?_ ?_
 ·rintro H116 f bs gs ⟨v106, v99, xs100, hf2, hf3, hf12, hf13, hf15, hf17, rfl, rfl, hm117, hs116⟩
  refine (JA.norm (i := 2) hf2 (JA.norm (i := 3) hf3 (JA.norm (i := 12) hf12 (JA.norm (i := 13) hf13 (JA.norm (i := 15) hf15 (JA.norm (i := 17) hf17 ?_))))))
  refine JA.many [7] (by kernel_rfl) (by simp) (all_one ⟨_, #[true, true, true, true, true, true, true, true, true, false, false, false], rfl, (by kernel_rfl), ?_⟩)
  refine JL.appD (R := R_Meter) 0 (l := ([] : List Meter)) (m := r.Meters) ap_32 rfl ⟨rfl, rfl⟩ rfl CH.nil rfl (SL.mono R_Meter_mono (HSub.trans hs5 hs116) hr_10) (R_Meter_one _) hl15 .none rfl ?_
  intro v118 xs119 hch120
  refine JA.after hE hs116 (.cons _ (.cons_cons _ (.cons_cons _ (List.nil_sublist _)))) ?_
  refine JA.many [9] (by kernel_rfl) (by simp) (all_one ⟨_, #[true, true, true, true, true, true, true, true, true, true, false, false], rfl, (by kernel_rfl), ?_⟩)
  refine JL.oneG 1 rfl (fun ho121 => ?_)
  refine JL.storeOwn 0 (cs := [v99]) az_31 rfl ho121.2 rfl (one_cons ho121.1 one_nil) rfl rfl .none ?_
  refine JA.after hE hs116 (.cons _ (.cons_cons _ (.cons_cons _ (List.nil_sublist _)))) ?_
  refine JA.take 10 (listed' := #[true, true, true, true, true, true, true, true, true, true, true, false]) hQ rfl (by kernel_rfl) (by kernel_rfl) (by kernel_rfl) (by kernel_rfl) (by kernel_rfl) hE hs116 (.cons _ (.cons_cons _ (.cons_cons _ (List.nil_sublist _)))) ?_
  refine JL.fieldAddr fo_34_2 rfl .none rfl ?_
  refine JA.cont ?_
  refine JA.many [11] (by kernel_rfl) (by simp) (all_one ⟨_, #[true, true, true, true, true, true, true, true, true, true, true, true], rfl, (by kernel_rfl), ?_⟩)
  refine JL.oneG 0 rfl (fun ho122 => ?_)
  refine JL.storeOwn 0 (cs := [v118]) az_32 rfl ho122.2 rfl (one_cons ho122.1 one_nil) rfl rfl .none ?_
  refine JA.after hE hs116 (.cons _ (.cons_cons _ (.cons_cons _ (List.nil_sublist _)))) ?_
  refine JA.done hQ (by kernel_rfl) ?_
  refine JQ.go ?_
  refine JC.seq ?_
  refine JC.region (by rfl) ?_
  intro hQ
  refine JL.loadOwn 0 az_34 rfl rfl rfl .none rfl ?_
  refine JL.oneG 1 rfl (fun ho123 => ?_)
  refine JL.oneG 0 rfl (fun ho124 => ?_)
  refine JL.storeOwn 1 (cs := [y4a_v0, .int .i64 y4.Frame.Low, .int .i64 y4.Frame.High, .int .i64 y4.Frame.Ease.Num, .int .i64 y4.Frame.Ease.Den, .int .i64 y4.Frame.Rod, .int .i64 y4.Frame.Case, y4a_v7, y4a_v8, v99, v118, .int .i64 r.Wrong]) az_34 rfl rfl rfl (one_cons (SL.one (SL.mono R_Section_mono hs116 hy4a_0)) (one_cons rfl (one_cons rfl (one_cons rfl (one_cons rfl (one_cons rfl (one_cons rfl (one_cons (SL.one (SL.mono R_Span_mono hs116 hy4a_7)) (one_cons (SL.one (SL.mono RInt.mono hs116 hy4a_8)) (one_cons ho123.1 (one_cons ho124.1 (one_cons rfl one_nil)))))))))))) rfl rfl .none ?_
  refine JL.done hQ ?_
  refine JQ.go ?_
  refine JC.ret ?_
  refine JQ.freezeG 1 (R := R_Blow) rfl R_Blow_mono hm117 rfl ?_
  intro H125 hs125 hg126
  refine JQ.freezeG 0 (R := R_Meter) rfl R_Meter_mono (CH.mono R_Meter_mono hs125 hch120) rfl ?_
  intro H127 hs127 hg128
  obtain rfl := Option.some.inj hF
  exact JQ.outH rfl (.cell 1 az_34 rfl rfl rfl .nil) ⟨y4a_v0, y4a_v7, y4a_v8, v99, v118, rfl, (SL.mono R_Section_mono (HSub.trans hs116 (HSub.trans hs125 hs127)) hy4a_0), (SL.mono R_Span_mono (HSub.trans hs116 (HSub.trans hs125 hs127)) hy4a_7), (SL.mono RInt.mono (HSub.trans hs116 (HSub.trans hs125 hs127)) hy4a_8), (SL.mono R_Blow_mono hs127 hg126), hg128⟩
 intro nd115_0
 refine JA.cut 6 #[true, true, true, false, true, true, true, false, false, false, false, false] (fun H129 f bs gs => ∃ (v102 : Value) (v95 : Value), f 2 = .pointer (some ⟨b2, 0, none⟩) ∧ f 3 = .pointer (some ⟨b3, 0, none⟩) ∧ f 9 = v95 ∧ f 11 = r_v9 ∧ f 13 = v102 ∧ f 15 = r_v10 ∧ bs = [(b3, .cells [y4a_v0, .int .i64 y4.Frame.Low, .int .i64 y4.Frame.High, .int .i64 y4.Frame.Ease.Num, .int .i64 y4.Frame.Ease.Den, .int .i64 y4.Frame.Rod, .int .i64 y4.Frame.Case, y4a_v7, y4a_v8, r_v9, r_v10, .int .i64 r.Wrong].toArray 34), (b2, .cells [.slice none 0 0, .int .i64 0, .int .i64 0, .int .i64 0, .int .i64 0, .int .i64 0, .int .i64 0, .slice none 0 0, .slice none 0 0, .slice none 0 0, .slice none 0 0, .int .i64 0].toArray 34), (b1, .cells [r_v0, .int .i64 r.Canopy.Frame.Low, .int .i64 r.Canopy.Frame.High, .int .i64 r.Canopy.Frame.Ease.Num, .int .i64 r.Canopy.Frame.Ease.Den, .int .i64 r.Canopy.Frame.Rod, .int .i64 r.Canopy.Frame.Case, r_v7, r_v8, r_v9, r_v10, .int .i64 r.Wrong].toArray 34)] ∧ gs = [⟨v102, 36, 2, 0, []⟩, ⟨v95, 56, 3, 0, []⟩] ∧ HSub H5 H129) ?_ ?_
 ·rintro H129 f bs gs ⟨v102, v95, hf2, hf3, hf9, hf11, hf13, hf15, rfl, rfl, hs129⟩
  refine (JA.norm (i := 2) hf2 (JA.norm (i := 3) hf3 (JA.norm (i := 9) hf9 (JA.norm (i := 11) hf11 (JA.norm (i := 13) hf13 (JA.norm (i := 15) hf15 ?_))))))
  refine JA.many [3] (by kernel_rfl) (by simp) (all_one ⟨_, #[true, true, true, true, true, true, true, false, false, false, false, false], rfl, (by kernel_rfl), ?_⟩)
  refine JL.appD (R := R_Blow) 1 (l := ([] : List Blow)) (m := r.Blows) ap_31 rfl ⟨rfl, rfl⟩ rfl CH.nil rfl (SL.mono R_Blow_mono (HSub.trans hs5 hs129) hr_9) (R_Blow_one _) hl9 .none rfl ?_
  intro v130 xs131 hch132
  refine JA.after hE hs129 (.cons _ (.cons_cons _ (.cons_cons _ (List.nil_sublist _)))) ?_
  refine JA.take 8 (listed' := #[true, true, true, true, true, true, true, false, true, false, false, false]) hQ rfl (by kernel_rfl) (by kernel_rfl) (by kernel_rfl) (by kernel_rfl) (by kernel_rfl) hE hs129 (.cons _ (.cons_cons _ (.cons_cons _ (List.nil_sublist _)))) ?_
  refine JL.fieldAddr fo_34_1 rfl .none rfl ?_
  refine JA.cont ?_
  exact nd115_0 _ _ _ _ ⟨v102, v130, xs131, rfl, rfl, rfl, rfl, rfl, rfl, rfl, rfl, hch132, hs129⟩
 intro nd115_1
 refine JA.take 1 (listed' := #[false, true, false, false, false, false, false, false, false, false, false, false]) hQ rfl (by kernel_rfl) (by kernel_rfl) (by kernel_rfl) (by kernel_rfl) (by kernel_rfl) hE (HSub.refl _) (.cons _ (.cons_cons _ (.cons_cons _ (List.nil_sublist _)))) ?_
 refine JL.fieldAddr fo_34_1 rfl .none rfl ?_
 refine JA.cont ?_
 refine JA.take 2 (listed' := #[false, true, true, false, false, false, false, false, false, false, false, false]) hQ rfl (by kernel_rfl) (by kernel_rfl) (by kernel_rfl) (by kernel_rfl) (by kernel_rfl) hE (HSub.refl _) (.cons _ (.cons_cons _ (.cons_cons _ (List.nil_sublist _)))) ?_
 refine JL.loadOwn 1 az_31 rfl rfl rfl .none rfl ?_
 refine JA.cont ?_
 refine JA.take 5 (listed' := #[false, true, true, false, false, true, false, false, false, false, false, false]) hQ rfl (by kernel_rfl) (by kernel_rfl) (by kernel_rfl) (by kernel_rfl) (by kernel_rfl) hE (HSub.refl _) (.cons _ (.cons_cons _ (.cons_cons _ (List.nil_sublist _)))) ?_
 refine JL.fieldAddr fo_34_2 rfl .none rfl ?_
 refine JA.cont ?_
 refine JA.take 6 (listed' := #[false, true, true, false, false, true, true, false, false, false, false, false]) hQ rfl (by kernel_rfl) (by kernel_rfl) (by kernel_rfl) (by kernel_rfl) (by kernel_rfl) hE (HSub.refl _) (.cons _ (.cons_cons _ (.cons_cons _ (List.nil_sublist _)))) ?_
 refine JL.loadOwn 1 az_32 rfl rfl rfl .none rfl ?_
 refine JA.cont ?_
 refine JA.many [0, 4] (by kernel_rfl) (by simp) (all_cons ⟨_, #[true, true, true, false, false, true, true, false, false, false, false, false], rfl, (by kernel_rfl), ?_⟩ (all_one ⟨_, #[false, true, true, false, true, true, true, false, false, false, false, false], rfl, (by kernel_rfl), ?_⟩))
 ·skip
  refine JL.emptySlice ap_31 .none rfl ?_
  intro v133
  refine JA.after hE (HSub.refl _) (.cons _ (.cons_cons _ (.cons_cons _ (List.nil_sublist _)))) ?_
  refine JA.many [3, 4] (by kernel_rfl) (by simp) (all_cons ⟨_, #[true, true, true, true, false, true, true, false, false, false, false, false], rfl, (by kernel_rfl), ?_⟩ (all_one ⟨_, #[true, true, true, false, true, true, true, false, false, false, false, false], rfl, (by kernel_rfl), ?_⟩))
  ·skip
   refine JL.appD (R := R_Blow) 0 (l := ([] : List Blow)) (m := r.Blows) ap_31 rfl ⟨rfl, rfl⟩ rfl CH.nil rfl (SL.mono R_Blow_mono hs5 hr_9) (R_Blow_one _) hl9 .none rfl ?_
   intro v135 xs136 hch137
   refine JA.after hE (HSub.refl _) (.cons _ (.cons_cons _ (.cons_cons _ (List.nil_sublist _)))) ?_
   refine JA.take 8 (listed' := #[true, true, true, true, false, true, true, false, true, false, false, false]) hQ rfl (by kernel_rfl) (by kernel_rfl) (by kernel_rfl) (by kernel_rfl) (by kernel_rfl) hE (HSub.refl _) (.cons _ (.cons_cons _ (.cons_cons _ (List.nil_sublist _)))) ?_
   refine JL.fieldAddr fo_34_1 rfl .none rfl ?_
   refine JA.cont ?_
   refine JA.many [4] (by kernel_rfl) (by simp) (all_one ⟨_, #[true, true, true, true, true, true, true, false, true, false, false, false], rfl, (by kernel_rfl), ?_⟩)
   refine JL.emptySlice ap_32 .none rfl ?_
   intro v138
   refine JA.after hE (HSub.refl _) (.cons _ (.cons_cons _ (.cons_cons _ (List.nil_sublist _)))) ?_
   exact nd115_0 _ _ _ _ ⟨v138, v135, xs136, rfl, rfl, rfl, rfl, rfl, rfl, rfl, rfl, hch137, (HSub.refl _)⟩
  ·skip
   refine JL.emptySlice ap_32 .none rfl ?_
   intro v140
   refine JA.after hE (HSub.refl _) (.cons _ (.cons_cons _ (.cons_cons _ (List.nil_sublist _)))) ?_
   exact nd115_1 _ _ _ _ ⟨v140, v133, rfl, rfl, rfl, rfl, rfl, rfl, rfl, rfl, (HSub.refl _)⟩
 ·skip
  refine JL.emptySlice ap_32 .none rfl ?_
  intro v142
  refine JA.after hE (HSub.refl _) (.cons _ (.cons_cons _ (.cons_cons _ (List.nil_sublist _)))) ?_
  refine JA.many [0] (by kernel_rfl) (by simp) (all_one ⟨_, #[true, true, true, false, true, true, true, false, false, false, false, false], rfl, (by kernel_rfl), ?_⟩)
  refine JL.emptySlice ap_31 .none rfl ?_
  intro v144
  refine JA.after hE (HSub.refl _) (.cons _ (.cons_cons _ (.cons_cons _ (List.nil_sublist _)))) ?_
  refine JA.permG (swapAt_perm 0 _) ?_
  exact nd115_1 _ _ _ _ ⟨v142, v144, rfl, rfl, rfl, rfl, rfl, rfl, rfl, rfl, (HSub.refl _)⟩
set_option maxRecDepth 100000 in
set_option maxHeartbeats 40000000 in
theorem x_ref13_Copy (n : Nat) (H : Hp) (r : Run) (r_v0 : Value) (hr_0 : SL H 7 R_Section r_v0 r.Canopy.Frame.Sections) (r_v7 : Value) (hr_7 : SL H 2 R_Span r_v7 r.Canopy.Ribs) (r_v8 : Value) (hr_8 : SL H 1 RInt r_v8 r.Canopy.Shares) (r_v9 : Value) (hr_9 : SL H 3 R_Blow r_v9 r.Blows) (r_v10 : Value) (hr_10 : SL H 2 R_Meter r_v10 r.Meters) (y : Run) (hF : F_ref13_Copy n r = some y) : XC Try.prog 10 [.agg [r_v0, .int .i64 r.Canopy.Frame.Low, .int .i64 r.Canopy.Frame.High, .int .i64 r.Canopy.Frame.Ease.Num, .int .i64 r.Canopy.Frame.Ease.Den, .int .i64 r.Canopy.Frame.Rod, .int .i64 r.Canopy.Frame.Case, r_v7, r_v8, r_v9, r_v10, .int .i64 r.Wrong].toArray] H (fun H' v gs' => ∃ (y_v0 : Value) (y_xs0 : List Value) (y_v1 : Value) (y_xs1 : List Value) (y_v2 : Value) (y_xs2 : List Value) (y_v3 : Value) (y_xs3 : List Value) (y_v4 : Value) (y_xs4 : List Value), v = .agg [y_v0, .int .i64 y.Canopy.Frame.Low, .int .i64 y.Canopy.Frame.High, .int .i64 y.Canopy.Frame.Ease.Num, .int .i64 y.Canopy.Frame.Ease.Den, .int .i64 y.Canopy.Frame.Rod, .int .i64 y.Canopy.Frame.Case, y_v1, y_v2, y_v3, y_v4, .int .i64 y.Wrong].toArray ∧ gs' = [⟨y_v4, 36, 2, y.Meters.length, y_xs4⟩, ⟨y_v3, 56, 3, y.Blows.length, y_xs3⟩, ⟨y_v2, 3, 1, y.Canopy.Shares.length, y_xs2⟩, ⟨y_v1, 49, 2, y.Canopy.Ribs.length, y_xs1⟩, ⟨y_v0, 129, 7, y.Canopy.Frame.Sections.length, y_xs0⟩] ∧ CH H' 7 R_Section y_xs0 y.Canopy.Frame.Sections ∧ CH H' 2 R_Span y_xs1 y.Canopy.Ribs ∧ CH H' 1 RInt y_xs2 y.Canopy.Shares ∧ CH H' 3 R_Blow y_xs3 y.Blows ∧ CH H' 2 R_Meter y_xs4 y.Meters) := by
 rw [F_ref13_Copy] at hF
 refine XC.of (N := 20) Try.func10 rfl rfl rfl fun w => ?_
 refine JC.seq ?_
 refine JC.region (by rfl) ?_
 intro hQ
 refine JL.box (cs := [r_v0, .int .i64 r.Canopy.Frame.Low, .int .i64 r.Canopy.Frame.High, .int .i64 r.Canopy.Frame.Ease.Num, .int .i64 r.Canopy.Frame.Ease.Den, .int .i64 r.Canopy.Frame.Rod, .int .i64 r.Canopy.Frame.Case, r_v7, r_v8, r_v9, r_v10, .int .i64 r.Wrong]) rfl .none rfl ?_
 intro b1
 refine JL.alloc ze_34 .none rfl ?_
 intro b2
 refine JL.done hQ ?_
 refine JQ.go ?_
 refine JC.seq ?_
 refine JC.region (by rfl) ?_
 intro hQ
 refine JL.loadOwn 1 az_34 rfl rfl rfl .none rfl ?_
 refine JL.alloc ze_34 .none rfl ?_
 intro b3
 refine JL.storeOwn 0 (cs := [r_v0, .int .i64 r.Canopy.Frame.Low, .int .i64 r.Canopy.Frame.High, .int .i64 r.Canopy.Frame.Ease.Num, .int .i64 r.Canopy.Frame.Ease.Den, .int .i64 r.Canopy.Frame.Rod, .int .i64 r.Canopy.Frame.Case, r_v7, r_v8, r_v9, r_v10, .int .i64 r.Wrong]) az_34 rfl rfl rfl (one_cons (SL.one hr_0) (one_cons rfl (one_cons rfl (one_cons rfl (one_cons rfl (one_cons rfl (one_cons rfl (one_cons (SL.one hr_7) (one_cons (SL.one hr_8) (one_cons (SL.one hr_9) (one_cons (SL.one hr_10) (one_cons rfl one_nil)))))))))))) rfl rfl .none ?_
 refine JL.done hQ ?_
 refine JQ.go ?_
 refine JC.seq ?_
 refine JC.region (by rfl) ?_
 intro hQ
 refine JL.fieldAddr fo_34_0 rfl .none rfl ?_
 refine JL.loadOwn 2 az_30 rfl rfl rfl .none rfl ?_
 obtain ⟨y4, hy4, hF⟩ := bind_some hF
 refine JL.callXC (x_ref05_Copy n H r.Canopy r_v0 hr_0 r_v7 hr_7 r_v8 hr_8 y4 hy4) rfl en_25 .none rfl ?_
 rintro H5 vv6 _ hs5 ⟨y4_v0, y4_xs0, y4_v1, y4_xs1, y4_v2, y4_xs2, rfl, rfl, hy4_0, hy4_1, hy4_2⟩
 refine JL.fieldAddr fo_34_0 rfl .none rfl ?_
 refine JL.oneG 2 rfl (fun ho10 => ?_)
 refine JL.oneG 1 rfl (fun ho11 => ?_)
 refine JL.oneG 0 rfl (fun ho12 => ?_)
 refine JL.storeOwn 0 (cs := [y4_v0, .int .i64 y4.Frame.Low, .int .i64 y4.Frame.High, .int .i64 y4.Frame.Ease.Num, .int .i64 y4.Frame.Ease.Den, .int .i64 y4.Frame.Rod, .int .i64 y4.Frame.Case, y4_v1, y4_v2]) az_30 rfl rfl rfl (one_cons ho10.1 (one_cons rfl (one_cons rfl (one_cons rfl (one_cons rfl (one_cons rfl (one_cons rfl (one_cons ho11.1 (one_cons ho12.1 one_nil))))))))) rfl rfl .none ?_
 refine JL.done hQ ?_
 refine JQ.go ?_
 refine JC.seq ?_
 obtain ⟨l15, hl15, hF⟩ := bind_some hF
 obtain ⟨l21, hl21, hF⟩ := bind_some hF
 refine JC.mixed 12 12 #[false, false, false, false, false, false, false, false, false, false, false, false] [(b2, .cells [.slice none 0 0, .int .i64 0, .int .i64 0, .int .i64 0, .int .i64 0, .int .i64 0, .int .i64 0, .slice none 0 0, .slice none 0 0, .slice none 0 0, .slice none 0 0, .int .i64 0].toArray 34), (b1, .cells [r_v0, .int .i64 r.Canopy.Frame.Low, .int .i64 r.Canopy.Frame.High, .int .i64 r.Canopy.Frame.Ease.Num, .int .i64 r.Canopy.Frame.Ease.Den, .int .i64 r.Canopy.Frame.Rod, .int .i64 r.Canopy.Frame.Case, r_v7, r_v8, r_v9, r_v10, .int .i64 r.Wrong].toArray 34)] (by rfl) mo_ (by kernel_rfl) (by kernel_rfl) ?_
 intro hQ hE
 refine JA.cut 4 #[true, true, true, true, true, true, true, false, true, false, false, false] (fun H122 f bs gs => ∃ (v112 : Value) (v105 : Value) (xs106 : List Value), f 2 = .pointer (some ⟨b2, 0, none⟩) ∧ f 3 = .pointer (some ⟨b3, 0, none⟩) ∧ f 12 = v105 ∧ f 13 = v112 ∧ f 15 = r_v10 ∧ f 17 = .pointer (some ⟨b3, 9, none⟩) ∧ bs = [(b3, .cells [y4_v0, .int .i64 y4.Frame.Low, .int .i64 y4.Frame.High, .int .i64 y4.Frame.Ease.Num, .int .i64 y4.Frame.Ease.Den, .int .i64 y4.Frame.Rod, .int .i64 y4.Frame.Case, y4_v1, y4_v2, r_v9, r_v10, .int .i64 r.Wrong].toArray 34), (b2, .cells [.slice none 0 0, .int .i64 0, .int .i64 0, .int .i64 0, .int .i64 0, .int .i64 0, .int .i64 0, .slice none 0 0, .slice none 0 0, .slice none 0 0, .slice none 0 0, .int .i64 0].toArray 34), (b1, .cells [r_v0, .int .i64 r.Canopy.Frame.Low, .int .i64 r.Canopy.Frame.High, .int .i64 r.Canopy.Frame.Ease.Num, .int .i64 r.Canopy.Frame.Ease.Den, .int .i64 r.Canopy.Frame.Rod, .int .i64 r.Canopy.Frame.Case, r_v7, r_v8, r_v9, r_v10, .int .i64 r.Wrong].toArray 34)] ∧ gs = [⟨v112, 36, 2, 0, []⟩, ⟨v105, 56, 3, l15.length, xs106⟩, ⟨y4_v2, 3, 1, y4.Shares.length, y4_xs2⟩, ⟨y4_v1, 49, 2, y4.Ribs.length, y4_xs1⟩, ⟨y4_v0, 129, 7, y4.Frame.Sections.length, y4_xs0⟩] ∧ CH H122 3 R_Blow xs106 l15 ∧ HSub H5 H122) ?_ ?_
 ·rintro H122 f bs gs ⟨v112, v105, xs106, hf2, hf3, hf12, hf13, hf15, hf17, rfl, rfl, hm123, hs122⟩
  refine (JA.norm (i := 2) hf2 (JA.norm (i := 3) hf3 (JA.norm (i := 12) hf12 (JA.norm (i := 13) hf13 (JA.norm (i := 15) hf15 (JA.norm (i := 17) hf17 ?_))))))
  refine JA.many [7] (by kernel_rfl) (by simp) (all_one ⟨_, #[true, true, true, true, true, true, true, true, true, false, false, false], rfl, (by kernel_rfl), ?_⟩)
  refine JL.appD (R := R_Meter) 0 (l := ([] : List Meter)) (m := r.Meters) ap_32 rfl ⟨rfl, rfl⟩ rfl CH.nil rfl (SL.mono R_Meter_mono (HSub.trans hs5 hs122) hr_10) (R_Meter_one _) hl21 .none rfl ?_
  intro v124 xs125 hch126
  refine JA.after hE hs122 (.cons _ (.cons_cons _ (.cons_cons _ (List.nil_sublist _)))) ?_
  refine JA.many [9] (by kernel_rfl) (by simp) (all_one ⟨_, #[true, true, true, true, true, true, true, true, true, true, false, false], rfl, (by kernel_rfl), ?_⟩)
  refine JL.oneG 1 rfl (fun ho127 => ?_)
  refine JL.storeOwn 0 (cs := [v105]) az_31 rfl ho127.2 rfl (one_cons ho127.1 one_nil) rfl rfl .none ?_
  refine JA.after hE hs122 (.cons _ (.cons_cons _ (.cons_cons _ (List.nil_sublist _)))) ?_
  refine JA.take 10 (listed' := #[true, true, true, true, true, true, true, true, true, true, true, false]) hQ rfl (by kernel_rfl) (by kernel_rfl) (by kernel_rfl) (by kernel_rfl) (by kernel_rfl) hE hs122 (.cons _ (.cons_cons _ (.cons_cons _ (List.nil_sublist _)))) ?_
  refine JL.fieldAddr fo_34_2 rfl .none rfl ?_
  refine JA.cont ?_
  refine JA.many [11] (by kernel_rfl) (by simp) (all_one ⟨_, #[true, true, true, true, true, true, true, true, true, true, true, true], rfl, (by kernel_rfl), ?_⟩)
  refine JL.oneG 0 rfl (fun ho128 => ?_)
  refine JL.storeOwn 0 (cs := [v124]) az_32 rfl ho128.2 rfl (one_cons ho128.1 one_nil) rfl rfl .none ?_
  refine JA.after hE hs122 (.cons _ (.cons_cons _ (.cons_cons _ (List.nil_sublist _)))) ?_
  refine JA.done hQ (by kernel_rfl) ?_
  refine JQ.go ?_
  refine JC.seq ?_
  refine JC.region (by rfl) ?_
  intro hQ
  refine JL.loadOwn 0 az_34 rfl rfl rfl .none rfl ?_
  refine JL.oneG 4 rfl (fun ho129 => ?_)
  refine JL.oneG 3 rfl (fun ho130 => ?_)
  refine JL.oneG 2 rfl (fun ho131 => ?_)
  refine JL.oneG 1 rfl (fun ho132 => ?_)
  refine JL.oneG 0 rfl (fun ho133 => ?_)
  refine JL.storeOwn 1 (cs := [y4_v0, .int .i64 y4.Frame.Low, .int .i64 y4.Frame.High, .int .i64 y4.Frame.Ease.Num, .int .i64 y4.Frame.Ease.Den, .int .i64 y4.Frame.Rod, .int .i64 y4.Frame.Case, y4_v1, y4_v2, v105, v124, .int .i64 r.Wrong]) az_34 rfl rfl rfl (one_cons ho129.1 (one_cons rfl (one_cons rfl (one_cons rfl (one_cons rfl (one_cons rfl (one_cons rfl (one_cons ho130.1 (one_cons ho131.1 (one_cons ho132.1 (one_cons ho133.1 (one_cons rfl one_nil)))))))))))) rfl rfl .none ?_
  refine JL.done hQ ?_
  refine JQ.go ?_
  refine JC.ret ?_
  obtain rfl := Option.some.inj hF
  exact JQ.outX rfl (.cell 1 az_34 rfl rfl rfl .nil) ⟨y4_v0, y4_xs0, y4_v1, y4_xs1, y4_v2, y4_xs2, v105, xs106, v124, xs125, rfl, rfl, (CH.mono R_Section_mono hs122 hy4_0), (CH.mono R_Span_mono hs122 hy4_1), (CH.mono RInt.mono hs122 hy4_2), hm123, hch126⟩
 intro nd121_0
 refine JA.cut 6 #[true, true, true, false, true, true, true, false, false, false, false, false] (fun H134 f bs gs => ∃ (v108 : Value) (v101 : Value), f 2 = .pointer (some ⟨b2, 0, none⟩) ∧ f 3 = .pointer (some ⟨b3, 0, none⟩) ∧ f 9 = v101 ∧ f 11 = r_v9 ∧ f 13 = v108 ∧ f 15 = r_v10 ∧ bs = [(b3, .cells [y4_v0, .int .i64 y4.Frame.Low, .int .i64 y4.Frame.High, .int .i64 y4.Frame.Ease.Num, .int .i64 y4.Frame.Ease.Den, .int .i64 y4.Frame.Rod, .int .i64 y4.Frame.Case, y4_v1, y4_v2, r_v9, r_v10, .int .i64 r.Wrong].toArray 34), (b2, .cells [.slice none 0 0, .int .i64 0, .int .i64 0, .int .i64 0, .int .i64 0, .int .i64 0, .int .i64 0, .slice none 0 0, .slice none 0 0, .slice none 0 0, .slice none 0 0, .int .i64 0].toArray 34), (b1, .cells [r_v0, .int .i64 r.Canopy.Frame.Low, .int .i64 r.Canopy.Frame.High, .int .i64 r.Canopy.Frame.Ease.Num, .int .i64 r.Canopy.Frame.Ease.Den, .int .i64 r.Canopy.Frame.Rod, .int .i64 r.Canopy.Frame.Case, r_v7, r_v8, r_v9, r_v10, .int .i64 r.Wrong].toArray 34)] ∧ gs = [⟨v108, 36, 2, 0, []⟩, ⟨v101, 56, 3, 0, []⟩, ⟨y4_v2, 3, 1, y4.Shares.length, y4_xs2⟩, ⟨y4_v1, 49, 2, y4.Ribs.length, y4_xs1⟩, ⟨y4_v0, 129, 7, y4.Frame.Sections.length, y4_xs0⟩] ∧ HSub H5 H134) ?_ ?_
 ·rintro H134 f bs gs ⟨v108, v101, hf2, hf3, hf9, hf11, hf13, hf15, rfl, rfl, hs134⟩
  refine (JA.norm (i := 2) hf2 (JA.norm (i := 3) hf3 (JA.norm (i := 9) hf9 (JA.norm (i := 11) hf11 (JA.norm (i := 13) hf13 (JA.norm (i := 15) hf15 ?_))))))
  refine JA.many [3] (by kernel_rfl) (by simp) (all_one ⟨_, #[true, true, true, true, true, true, true, false, false, false, false, false], rfl, (by kernel_rfl), ?_⟩)
  refine JL.appD (R := R_Blow) 1 (l := ([] : List Blow)) (m := r.Blows) ap_31 rfl ⟨rfl, rfl⟩ rfl CH.nil rfl (SL.mono R_Blow_mono (HSub.trans hs5 hs134) hr_9) (R_Blow_one _) hl15 .none rfl ?_
  intro v135 xs136 hch137
  refine JA.after hE hs134 (.cons _ (.cons_cons _ (.cons_cons _ (List.nil_sublist _)))) ?_
  refine JA.take 8 (listed' := #[true, true, true, true, true, true, true, false, true, false, false, false]) hQ rfl (by kernel_rfl) (by kernel_rfl) (by kernel_rfl) (by kernel_rfl) (by kernel_rfl) hE hs134 (.cons _ (.cons_cons _ (.cons_cons _ (List.nil_sublist _)))) ?_
  refine JL.fieldAddr fo_34_1 rfl .none rfl ?_
  refine JA.cont ?_
  exact nd121_0 _ _ _ _ ⟨v108, v135, xs136, rfl, rfl, rfl, rfl, rfl, rfl, rfl, rfl, hch137, hs134⟩
 intro nd121_1
 refine JA.take 1 (listed' := #[false, true, false, false, false, false, false, false, false, false, false, false]) hQ rfl (by kernel_rfl) (by kernel_rfl) (by kernel_rfl) (by kernel_rfl) (by kernel_rfl) hE (HSub.refl _) (.cons _ (.cons_cons _ (.cons_cons _ (List.nil_sublist _)))) ?_
 refine JL.fieldAddr fo_34_1 rfl .none rfl ?_
 refine JA.cont ?_
 refine JA.take 2 (listed' := #[false, true, true, false, false, false, false, false, false, false, false, false]) hQ rfl (by kernel_rfl) (by kernel_rfl) (by kernel_rfl) (by kernel_rfl) (by kernel_rfl) hE (HSub.refl _) (.cons _ (.cons_cons _ (.cons_cons _ (List.nil_sublist _)))) ?_
 refine JL.loadOwn 1 az_31 rfl rfl rfl .none rfl ?_
 refine JA.cont ?_
 refine JA.take 5 (listed' := #[false, true, true, false, false, true, false, false, false, false, false, false]) hQ rfl (by kernel_rfl) (by kernel_rfl) (by kernel_rfl) (by kernel_rfl) (by kernel_rfl) hE (HSub.refl _) (.cons _ (.cons_cons _ (.cons_cons _ (List.nil_sublist _)))) ?_
 refine JL.fieldAddr fo_34_2 rfl .none rfl ?_
 refine JA.cont ?_
 refine JA.take 6 (listed' := #[false, true, true, false, false, true, true, false, false, false, false, false]) hQ rfl (by kernel_rfl) (by kernel_rfl) (by kernel_rfl) (by kernel_rfl) (by kernel_rfl) hE (HSub.refl _) (.cons _ (.cons_cons _ (.cons_cons _ (List.nil_sublist _)))) ?_
 refine JL.loadOwn 1 az_32 rfl rfl rfl .none rfl ?_
 refine JA.cont ?_
 refine JA.many [0, 4] (by kernel_rfl) (by simp) (all_cons ⟨_, #[true, true, true, false, false, true, true, false, false, false, false, false], rfl, (by kernel_rfl), ?_⟩ (all_one ⟨_, #[false, true, true, false, true, true, true, false, false, false, false, false], rfl, (by kernel_rfl), ?_⟩))
 ·skip
  refine JL.emptySlice ap_31 .none rfl ?_
  intro v138
  refine JA.after hE (HSub.refl _) (.cons _ (.cons_cons _ (.cons_cons _ (List.nil_sublist _)))) ?_
  refine JA.many [3, 4] (by kernel_rfl) (by simp) (all_cons ⟨_, #[true, true, true, true, false, true, true, false, false, false, false, false], rfl, (by kernel_rfl), ?_⟩ (all_one ⟨_, #[true, true, true, false, true, true, true, false, false, false, false, false], rfl, (by kernel_rfl), ?_⟩))
  ·skip
   refine JL.appD (R := R_Blow) 0 (l := ([] : List Blow)) (m := r.Blows) ap_31 rfl ⟨rfl, rfl⟩ rfl CH.nil rfl (SL.mono R_Blow_mono hs5 hr_9) (R_Blow_one _) hl15 .none rfl ?_
   intro v140 xs141 hch142
   refine JA.after hE (HSub.refl _) (.cons _ (.cons_cons _ (.cons_cons _ (List.nil_sublist _)))) ?_
   refine JA.take 8 (listed' := #[true, true, true, true, false, true, true, false, true, false, false, false]) hQ rfl (by kernel_rfl) (by kernel_rfl) (by kernel_rfl) (by kernel_rfl) (by kernel_rfl) hE (HSub.refl _) (.cons _ (.cons_cons _ (.cons_cons _ (List.nil_sublist _)))) ?_
   refine JL.fieldAddr fo_34_1 rfl .none rfl ?_
   refine JA.cont ?_
   refine JA.many [4] (by kernel_rfl) (by simp) (all_one ⟨_, #[true, true, true, true, true, true, true, false, true, false, false, false], rfl, (by kernel_rfl), ?_⟩)
   refine JL.emptySlice ap_32 .none rfl ?_
   intro v143
   refine JA.after hE (HSub.refl _) (.cons _ (.cons_cons _ (.cons_cons _ (List.nil_sublist _)))) ?_
   exact nd121_0 _ _ _ _ ⟨v143, v140, xs141, rfl, rfl, rfl, rfl, rfl, rfl, rfl, rfl, hch142, (HSub.refl _)⟩
  ·skip
   refine JL.emptySlice ap_32 .none rfl ?_
   intro v145
   refine JA.after hE (HSub.refl _) (.cons _ (.cons_cons _ (.cons_cons _ (List.nil_sublist _)))) ?_
   exact nd121_1 _ _ _ _ ⟨v145, v138, rfl, rfl, rfl, rfl, rfl, rfl, rfl, rfl, (HSub.refl _)⟩
 ·skip
  refine JL.emptySlice ap_32 .none rfl ?_
  intro v147
  refine JA.after hE (HSub.refl _) (.cons _ (.cons_cons _ (.cons_cons _ (List.nil_sublist _)))) ?_
  refine JA.many [0] (by kernel_rfl) (by simp) (all_one ⟨_, #[true, true, true, false, true, true, true, false, false, false, false, false], rfl, (by kernel_rfl), ?_⟩)
  refine JL.emptySlice ap_31 .none rfl ?_
  intro v149
  refine JA.after hE (HSub.refl _) (.cons _ (.cons_cons _ (.cons_cons _ (List.nil_sublist _)))) ?_
  refine JA.permG (swapAt_perm 0 _) ?_
  exact nd121_1 _ _ _ _ ⟨v147, v149, rfl, rfl, rfl, rfl, rfl, rfl, rfl, rfl, (HSub.refl _)⟩

-- 26 ferrule/ferrulelaw13.has
def F_law13_has_s1 (n : Nat) (l : List Int) (n_ : Int) : Int → Option (Int ⊕ (Bool ⊕ Unit))
 | i_50 => if decide (i_50 < (l.length : Int)) = true then ((geti l i_50).bind fun y55 => if (y55 == n_) = true then (some (Sum.inr (Sum.inl true))) else (some (Sum.inl (w64 (i_50 + 1))))) else (some (Sum.inr (Sum.inr ())))
def F_law13_has (n : Nat) (l : List Int) (n_ : Int) : Option Bool :=
 (loopO n (F_law13_has_s1 n l n_) 0).bind fun r31 => match r31 with | .inl o => some o | .inr _ => some false
set_option maxRecDepth 100000 in
set_option maxHeartbeats 40000000 in
theorem c_law13_has (n : Nat) (H : Hp) (l : List Int) (l_v0 : Value) (hl_0 : SL H 1 RInt l_v0 l) (n_ : Int) (y : Bool) (hF : F_law13_has n l n_ = some y) : SC Try.prog 26 [l_v0, .int .i64 n_] (.bool y) H := by
 rw [F_law13_has] at hF
 refine SC.of (N := 18) Try.func26 rfl rfl rfl fun w => ?_
 refine JC.seq ?_
 refine JC.region (by rfl) ?_
 intro hQ
 refine JL.assign .none rfl ?_
 refine JL.done hQ ?_
 refine JQ.go ?_
 refine JC.seq ?_
 refine JC.seq ?_
 refine JC.region (by rfl) ?_
 intro hQ
 refine JL.assign .none rfl ?_
 refine JL.done hQ ?_
 refine JQ.go ?_
 obtain ⟨r31, hlr31, hKr31⟩ := bind_some hF
 refine JC.join (fun (_ : Unit) H30 f bs gs => bs = [] ∧ gs = [] ∧ HSub H H30 ∧ Sum.inr () = r31) ?_ ?_
 ·skip
  refine JC.block ?_
  refine JC.loop hlr31 (fun (i_50 : Int) H51 f bs gs => f 0 = l_v0 ∧ f 1 = .int .i64 n_ ∧ f 5 = .int .i64 i_50 ∧ bs = [] ∧ gs = [] ∧ HSub H H51) ⟨rfl, rfl, rfl, rfl, rfl, (HSub.refl _)⟩ ?_
  rintro i_50 x53 H51 f bs gs ⟨hf0, hf1, hf5, rfl, rfl, hs51⟩ hF hr52
  rw [F_law13_has_s1] at hF
  refine (JC.norm (i := 0) hf0 (JC.norm (i := 1) hf1 (JC.norm (i := 5) hf5 ?_)))
  refine JC.seq ?_
  refine JC.seq ?_
  refine JC.region (by rfl) ?_
  intro hQ
  refine JL.move .none rfl ?_
  refine JL.move .none rfl ?_
  refine JL.lenSL (R := RInt) ul_28 (SL.mono RInt.mono hs51 hl_0) .none rfl ?_
  refine JL.bin rfl rfl rfl .none rfl ?_
  refine JL.done hQ ?_
  refine JQ.go ?_
  rcases ite_some hF with ⟨hc54, hF⟩ | ⟨hc54, hF⟩
  ·refine JC.cond_t (b := decide (i_50 < (l.length : Int))) rfl hc54 ?_
   refine JC.skip ?_
   refine JQ.go ?_
   refine JC.seq ?_
   refine JC.block ?_
   refine JC.seq ?_
   refine JC.region (by rfl) ?_
   intro hQ
   refine JL.move .none rfl ?_
   refine JL.move .none rfl ?_
   obtain ⟨y55, hy55, hF⟩ := bind_some hF
   refine JL.indexSL (R := RInt) sl_28 (SL.mono RInt.mono hs51 hl_0) rfl hy55 .none rfl ?_
   rintro b56 o57 cs58 hc59 - rfl
   refine JL.loadH 0 az_3 rfl hc59 rfl .none rfl ?_
   refine JL.move .none rfl ?_
   refine JL.bin rfl rfl rfl .none rfl ?_
   refine JL.done hQ ?_
   refine JQ.go ?_
   rcases ite_some hF with ⟨hc60, hF⟩ | ⟨hc60, hF⟩
   ·refine JC.cond_t (b := (y55 == n_)) rfl hc60 ?_
    refine JC.seq ?_
    refine JC.region (by rfl) ?_
    intro hQ
    refine JL.assign .none rfl ?_
    refine JL.done hQ ?_
    refine JQ.go ?_
    refine JC.fresh (fun f => f 4 = .bool true) rfl ?_
    rintro f hf4
    refine (JC.norm (i := 4) hf4 ?_)
    refine JC.ret ?_
    refine JQ.ret_block ?_
    refine JQ.ret_then ?_
    refine JQ.ret_then ?_
    refine JQ.ret_block ?_
    refine JQ.ret_join ?_
    refine JQ.ret_then ?_
    obtain rfl := Option.some.inj hF
    have ehr52 := hr52 _ rfl
    subst ehr52
    have hF := hKr31
    try dsimp only at hF
    obtain rfl := Option.some.inj hF
    exact JQ.outS rfl (.tmp .nil) rfl
   ·refine JC.cond_f (b := (y55 == n_)) rfl hc60 ?_
    refine JC.skip ?_
    refine JQ.normal_block ?_
    refine JQ.go ?_
    refine JC.region (by rfl) ?_
    intro hQ
    refine JL.move .none rfl ?_
    refine JL.bin rfl rfl rfl .none rfl ?_
    refine JL.assign .none rfl ?_
    refine JL.done hQ ?_
    obtain rfl := Option.some.inj hF
    exact JQ.next rfl ⟨rfl, rfl, rfl, rfl, rfl, hs51⟩
  ·refine JC.cond_f (b := decide (i_50 < (l.length : Int))) rfl hc54 ?_
   refine JC.exit ?_
   refine JQ.exit_then ?_
   refine JQ.exit_then ?_
   refine JQ.exit_block ?_
   obtain rfl := Option.some.inj hF
   have ehr52 := hr52 _ rfl
   subst ehr52
   exact JQ.join () ⟨rfl, rfl, hs51, rfl⟩
 ·rintro _ H30 f bs gs ⟨rfl, rfl, hs30, rfl⟩
  have hF := hKr31
  try dsimp only at hF
  refine JQ.go ?_
  refine JC.seq ?_
  refine JC.region (by rfl) ?_
  intro hQ
  refine JL.assign .none rfl ?_
  refine JL.done hQ ?_
  refine JQ.go ?_
  refine JC.ret ?_
  obtain rfl := Option.some.inj hF
  exact JQ.outS rfl (.tmp .nil) rfl

end Go.Proofs.Ytcipdblhopffbaa
end
