/-
  Printed by a program: functions of the translation as plain functions, and their contracts.
-/
import Derived.Test.YtcpnnfdhafbemaaGenK9
namespace Go.Proofs.Ytcpnnfdhafbemaa
open Go Go.RowKit Go.Dec
set_option linter.unusedVariables false
-- 60 ferrule/ferruleref05.ends
def F_ref05_ends_s1 (n : Nat) (d : Canopy) : Int × List Int × List Int → Option ((Int × List Int × List Int) ⊕ (List Int × List Int))
  | (i_2622, out_2623, out_2624) => if decide (i_2622 < (d.Ribs.length : Int)) = true then ((geti d.Ribs i_2622).bind fun y2634 => (lim (out_2623 ++ [y2634.High])).bind fun l2640 => (geti d.Ribs i_2622).bind fun y2644 => (lim (out_2624 ++ [y2644.Low])).bind fun l2650 => some (Sum.inl ((w64 (i_2622 + 1)), l2640, l2650))) else (some (Sum.inr (out_2623, out_2624)))
def F_ref05_ends (n : Nat) (d : Canopy) : Option (ref05_Truth × ref05_Truth) :=
  (F_ref05_lift n d).bind fun y4 => (loopO n (F_ref05_ends_s1 n d) (0, ([] : List Int), ([] : List Int))).bind fun r1899 => match r1899 with | (out_1896, out_1897) => some ((ref05_Truth.mk y4.Low out_1896), (ref05_Truth.mk y4.High out_1897))
set_option maxRecDepth 100000 in
set_option maxHeartbeats 40000000 in
theorem c_ref05_ends (n : Nat) (H : Hp) (d : Canopy) (d_v0 : Value) (hd_0 : SL H 7 R_Section d_v0 d.Frame.Sections) (d_v7 : Value) (hd_7 : SL H 2 R_Span d_v7 d.Ribs) (d_v8 : Value) (hd_8 : SL H 1 RInt d_v8 d.Shares) (y : ref05_Truth × ref05_Truth) (hF : F_ref05_ends n d = some y) : HC Try.prog 60 [.agg [d_v0, .int .i64 d.Frame.Low, .int .i64 d.Frame.High, .int .i64 d.Frame.Ease.Num, .int .i64 d.Frame.Ease.Den, .int .i64 d.Frame.Rod, .int .i64 d.Frame.Case, d_v7, d_v8].toArray] H (fun H' v => ∃ ra_v1 rb_v1 : Value, v = .tuple [.agg [.int .i64 y.1.Lift, ra_v1].toArray, .agg [.int .i64 y.2.Lift, rb_v1].toArray].toArray ∧ SL H' 1 RInt ra_v1 y.1.Strengths ∧ SL H' 1 RInt rb_v1 y.2.Strengths) := by
  rw [F_ref05_ends] at hF
  refine HC.of (N := 45) Try.func60 rfl rfl rfl fun w => ?_
  refine JC.seq ?_
  refine JC.region (by rfl) ?_
  intro hQ
  refine JL.box (cs := [d_v0, .int .i64 d.Frame.Low, .int .i64 d.Frame.High, .int .i64 d.Frame.Ease.Num, .int .i64 d.Frame.Ease.Den, .int .i64 d.Frame.Rod, .int .i64 d.Frame.Case, d_v7, d_v8]) rfl .none rfl ?_
  intro b1
  refine JL.alloc ze_78 .none rfl ?_
  intro b2
  refine JL.alloc ze_78 .none rfl ?_
  intro b3
  refine JL.done hQ ?_
  refine JQ.go ?_
  refine JC.seq ?_
  refine JC.region (by rfl) ?_
  intro hQ
  refine JL.loadOwn 2 az_30 rfl rfl rfl .none rfl ?_
  obtain ⟨y4, hy4, hF⟩ := bind_some hF
  refine JL.callS (c_ref05_lift n H d d_v0 hd_0 d_v7 hd_7 d_v8 hd_8 y4 hy4) rfl en_57 .none rfl ?_
  refine JL.alloc ze_38 .none rfl ?_
  intro b5
  refine JL.storeOwn 0 (cs := [.int .i64 y4.Low, .int .i64 y4.High]) az_38 rfl rfl rfl (one_cons rfl (one_cons rfl one_nil)) rfl rfl .none ?_
  refine JL.done hQ ?_
  refine JQ.go ?_
  refine JC.seq ?_
  refine JC.mixed 8 8 #[false, false, false, false, false, false, false, false] [(b5, .cells [.int .i64 y4.Low, .int .i64 y4.High].toArray 38), (b1, .cells [d_v0, .int .i64 d.Frame.Low, .int .i64 d.Frame.High, .int .i64 d.Frame.Ease.Num, .int .i64 d.Frame.Ease.Den, .int .i64 d.Frame.Rod, .int .i64 d.Frame.Case, d_v7, d_v8].toArray 30)] (by rfl) mo_ (by kernel_rfl) (by kernel_rfl) ?_
  intro hQ hE
  refine JA.take 0 (listed' := #[true, false, false, false, false, false, false, false]) hQ rfl (by kernel_rfl) (by kernel_rfl) (by kernel_rfl) (by kernel_rfl) (by kernel_rfl) hE (HSub.refl _) (.cons_cons _ (.cons _ (.cons _ (.cons_cons _ (List.nil_sublist _))))) ?_
  refine JL.fieldAddr fo_38_0 rfl .none rfl ?_
  refine JA.cont ?_
  refine JA.take 1 (listed' := #[true, true, false, false, false, false, false, false]) hQ rfl (by kernel_rfl) (by kernel_rfl) (by kernel_rfl) (by kernel_rfl) (by kernel_rfl) hE (HSub.refl _) (.cons_cons _ (.cons _ (.cons _ (.cons_cons _ (List.nil_sublist _))))) ?_
  refine JL.loadOwn 0 az_3 rfl rfl rfl .none rfl ?_
  refine JA.cont ?_
  refine JA.take 2 (listed' := #[true, true, true, false, false, false, false, false]) hQ rfl (by kernel_rfl) (by kernel_rfl) (by kernel_rfl) (by kernel_rfl) (by kernel_rfl) hE (HSub.refl _) (.cons_cons _ (.cons _ (.cons _ (.cons_cons _ (List.nil_sublist _))))) ?_
  refine JL.fieldAddr fo_38_1 rfl .none rfl ?_
  refine JA.cont ?_
  refine JA.take 3 (listed' := #[true, true, true, true, false, false, false, false]) hQ rfl (by kernel_rfl) (by kernel_rfl) (by kernel_rfl) (by kernel_rfl) (by kernel_rfl) hE (HSub.refl _) (.cons_cons _ (.cons _ (.cons _ (.cons_cons _ (List.nil_sublist _))))) ?_
  refine JL.loadOwn 0 az_3 rfl rfl rfl .none rfl ?_
  refine JA.cont ?_
  refine JA.take 4 (listed' := #[true, true, true, true, true, false, false, false]) hQ rfl (by kernel_rfl) (by kernel_rfl) (by kernel_rfl) (by kernel_rfl) (by kernel_rfl) hE (HSub.refl _) (.cons_cons _ (.cons _ (.cons _ (.cons_cons _ (List.nil_sublist _))))) ?_
  refine JL.fieldAddr fo_78_0 rfl .none rfl ?_
  refine JA.cont ?_
  refine JA.many [5] (by kernel_rfl) (by simp) (all_one ⟨_, #[true, true, true, true, true, true, false, false], rfl, (by kernel_rfl), ?_⟩)
  refine JL.storeOwn 2 (cs := [.int .i64 y4.Low]) az_3 rfl rfl rfl (one_cons rfl one_nil) rfl rfl .none ?_
  refine JA.after hE (HSub.refl _) (.cons_cons _ (.cons _ (.cons _ (.cons_cons _ (List.nil_sublist _))))) ?_
  refine JA.take 6 (listed' := #[true, true, true, true, true, true, true, false]) hQ rfl (by kernel_rfl) (by kernel_rfl) (by kernel_rfl) (by kernel_rfl) (by kernel_rfl) hE (HSub.refl _) (.cons_cons _ (.cons _ (.cons _ (.cons_cons _ (List.nil_sublist _))))) ?_
  refine JL.fieldAddr fo_78_0 rfl .none rfl ?_
  refine JA.cont ?_
  refine JA.many [7] (by kernel_rfl) (by simp) (all_one ⟨_, #[true, true, true, true, true, true, true, true], rfl, (by kernel_rfl), ?_⟩)
  refine JL.storeOwn 1 (cs := [.int .i64 y4.High]) az_3 rfl rfl rfl (one_cons rfl one_nil) rfl rfl .none ?_
  refine JA.after hE (HSub.refl _) (.cons_cons _ (.cons _ (.cons _ (.cons_cons _ (List.nil_sublist _))))) ?_
  refine JA.done hQ (by kernel_rfl) ?_
  refine JQ.go ?_
  refine JC.seq ?_
  refine JC.seq ?_
  refine JC.region (by rfl) ?_
  intro hQ
  refine JL.assign .none rfl ?_
  refine JL.done hQ ?_
  refine JQ.go ?_
  refine JC.fresh (fun f => f 1 = .pointer (some ⟨b1, 0, none⟩) ∧ f 2 = .pointer (some ⟨b2, 0, none⟩) ∧ f 3 = .pointer (some ⟨b3, 0, none⟩) ∧ f 5 = .int .i64 0) ⟨rfl, rfl, rfl, rfl⟩ ?_
  rintro f ⟨hf1, hf2, hf3, hf5⟩
  refine (JC.norm (i := 1) hf1 (JC.norm (i := 2) hf2 (JC.norm (i := 3) hf3 (JC.norm (i := 5) hf5 ?_))))
  refine JC.newNil (e := 3) (sz := 1) ?_
  refine JC.newNil (e := 3) (sz := 1) ?_
  obtain ⟨r1899, hlr1899, hKr1899⟩ := bind_some hF
  refine JC.join (fun (x : List Int × List Int) H1898 f bs gs => match x with | (out_1896, out_1897) => ∃ (vout_1896 : Value) (xsout_1896 : List Value) (vout_1897 : Value) (xsout_1897 : List Value), f 2 = .pointer (some ⟨b2, 0, none⟩) ∧ f 3 = .pointer (some ⟨b3, 0, none⟩) ∧ bs = [(b3, .cells [.int .i64 y4.High, vout_1897].toArray 78), (b2, .cells [.int .i64 y4.Low, vout_1896].toArray 78)] ∧ gs = [⟨vout_1896, 3, 1, out_1896.length, xsout_1896⟩, ⟨vout_1897, 3, 1, out_1897.length, xsout_1897⟩] ∧ CH H1898 1 RInt xsout_1896 out_1896 ∧ CH H1898 1 RInt xsout_1897 out_1897 ∧ HSub H H1898 ∧ (out_1896, out_1897) = r1899) ?_ ?_
  · skip
    refine JC.block ?_
    refine JC.mask [false, true, true, true] [true, true] ?_
    refine JC.loop hlr1899 (fun (x : Int × List Int × List Int) H2625 f bs gs => match x with | (i_2622, out_2623, out_2624) => ∃ (vout_2623 : Value) (xsout_2623 : List Value) (vout_2624 : Value) (xsout_2624 : List Value), f 1 = .pointer (some ⟨b1, 0, none⟩) ∧ f 2 = .pointer (some ⟨b2, 0, none⟩) ∧ f 3 = .pointer (some ⟨b3, 0, none⟩) ∧ f 5 = .int .i64 i_2622 ∧ bs = [(b3, .cells [.int .i64 y4.High, vout_2624].toArray 78), (b2, .cells [.int .i64 y4.Low, vout_2623].toArray 78), (b1, .cells [d_v0, .int .i64 d.Frame.Low, .int .i64 d.Frame.High, .int .i64 d.Frame.Ease.Num, .int .i64 d.Frame.Ease.Den, .int .i64 d.Frame.Rod, .int .i64 d.Frame.Case, d_v7, d_v8].toArray 30)] ∧ gs = [⟨vout_2623, 3, 1, out_2623.length, xsout_2623⟩, ⟨vout_2624, 3, 1, out_2624.length, xsout_2624⟩] ∧ CH H2625 1 RInt xsout_2623 out_2623 ∧ CH H2625 1 RInt xsout_2624 out_2624 ∧ HSub H H2625) ⟨(.slice none 0 0), [], (.slice none 0 0), [], rfl, rfl, rfl, rfl, rfl, rfl, CH.nil, CH.nil, (HSub.refl _)⟩ ?_
    rintro ⟨i_2622, out_2623, out_2624⟩ x2627 H2625 f bs gs ⟨vout_2623, xsout_2623, vout_2624, xsout_2624, hf1, hf2, hf3, hf5, rfl, rfl, hout_2623, hout_2624, hs2625⟩ hF hr2626
    rw [F_ref05_ends_s1] at hF
    refine (JC.norm (i := 1) hf1 (JC.norm (i := 2) hf2 (JC.norm (i := 3) hf3 (JC.norm (i := 5) hf5 ?_))))
    refine JC.seq ?_
    refine JC.seq ?_
    refine JC.region (by rfl) ?_
    intro hQ
    refine JL.move .none rfl ?_
    refine JL.fieldAddr fo_30_1 rfl .none rfl ?_
    refine JL.loadOwn 2 az_27 rfl rfl rfl .none rfl ?_
    refine JL.lenSL (R := R_Span) ul_27 (SL.mono R_Span_mono hs2625 hd_7) .none rfl ?_
    refine JL.bin rfl rfl rfl .none rfl ?_
    refine JL.done hQ ?_
    refine JQ.go ?_
    rcases ite_some hF with ⟨hc2628, hF⟩ | ⟨hc2628, hF⟩
    · refine JC.cond_t (b := decide (i_2622 < (d.Ribs.length : Int))) rfl hc2628 ?_
      refine JC.skip ?_
      refine JQ.go ?_
      refine JC.seq ?_
      refine JC.block ?_
      obtain ⟨y2634, hy2634, hF⟩ := bind_some hF
      obtain ⟨l2640, hl2640, hF⟩ := bind_some hF
      obtain ⟨y2644, hy2644, hF⟩ := bind_some hF
      obtain ⟨l2650, hl2650, hF⟩ := bind_some hF
      refine JC.mixed 24 24 #[false, false, false, false, false, false, false, false, false, false, false, false, false, false, false, false, false, false, false, false, false, false, false, false] [(b1, .cells [d_v0, .int .i64 d.Frame.Low, .int .i64 d.Frame.High, .int .i64 d.Frame.Ease.Num, .int .i64 d.Frame.Ease.Den, .int .i64 d.Frame.Rod, .int .i64 d.Frame.Case, d_v7, d_v8].toArray 30)] (by rfl) mo_ (by kernel_rfl) (by kernel_rfl) ?_
      intro hQ hE
      refine JA.cut 4 #[true, true, true, true, true, true, true, true, true, true, true, true, true, true, true, true, true, true, true, false, true, false, false, false] (fun H2917 f bs gs => ∃ (b2908 : Nat) (b2884 : Nat) (v2890 : Value) (xs2891 : List Value), f 1 = .pointer (some ⟨b1, 0, none⟩) ∧ f 2 = .pointer (some ⟨b2, 0, none⟩) ∧ f 3 = .pointer (some ⟨b3, 0, none⟩) ∧ f 5 = .int .i64 i_2622 ∧ f 30 = v2890 ∧ f 32 = vout_2624 ∧ f 39 = .slice (some ⟨b2908, 0, none⟩) 1 1 ∧ f 41 = .pointer (some ⟨b2, 1, none⟩) ∧ bs = [(b2908, .cells [.int .i64 y2644.Low].toArray 3), (b2884, .cells [.int .i64 y2634.High].toArray 3), (b3, .cells [.int .i64 y4.High, vout_2624].toArray 78), (b2, .cells [.int .i64 y4.Low, vout_2623].toArray 78), (b1, .cells [d_v0, .int .i64 d.Frame.Low, .int .i64 d.Frame.High, .int .i64 d.Frame.Ease.Num, .int .i64 d.Frame.Ease.Den, .int .i64 d.Frame.Rod, .int .i64 d.Frame.Case, d_v7, d_v8].toArray 30)] ∧ gs = [⟨v2890, 3, 1, l2640.length, xs2891⟩, ⟨vout_2624, 3, 1, out_2624.length, xsout_2624⟩] ∧ CH H2917 1 RInt xs2891 l2640 ∧ HSub H2625 H2917) ?_ ?_
      · rintro H2917 f bs gs ⟨b2908, b2884, v2890, xs2891, hf1, hf2, hf3, hf5, hf30, hf32, hf39, hf41, rfl, rfl, hm2918, hs2917⟩
        refine (JA.norm (i := 1) hf1 (JA.norm (i := 2) hf2 (JA.norm (i := 3) hf3 (JA.norm (i := 5) hf5 (JA.norm (i := 30) hf30 (JA.norm (i := 32) hf32 (JA.norm (i := 39) hf39 (JA.norm (i := 41) hf41 ?_))))))))
        refine JA.many [19] (by kernel_rfl) (by simp) (all_one ⟨_, #[true, true, true, true, true, true, true, true, true, true, true, true, true, true, true, true, true, true, true, true, true, false, false, false], rfl, (by kernel_rfl), ?_⟩)
        refine JL.appO (R := RInt) 1 0 (l := out_2624) (m := [y2644.Low]) ap_28 rfl ⟨rfl, rfl⟩ rfl (CH.mono RInt.mono hs2917 hout_2624) rfl rfl rfl (CH.cons (cs := [.int .i64 y2644.Low]) rfl rfl CH.nil) rfl (one_cons rfl one_nil) hl2650 .none rfl ?_
        intro v2919 xs2920 hch2921
        refine JA.after hE hs2917 (.cons _ (.cons _ (.cons _ (.cons _ (.cons_cons _ (List.nil_sublist _)))))) ?_
        refine JA.many [21] (by kernel_rfl) (by simp) (all_one ⟨_, #[true, true, true, true, true, true, true, true, true, true, true, true, true, true, true, true, true, true, true, true, true, true, false, false], rfl, (by kernel_rfl), ?_⟩)
        refine JL.oneG 0 rfl (fun ho2922 => ?_)
        refine JL.storeOwn 3 (cs := [v2890]) az_28 rfl ho2922.2 rfl (one_cons ho2922.1 one_nil) rfl rfl .none ?_
        refine JA.after hE hs2917 (.cons _ (.cons _ (.cons _ (.cons _ (.cons_cons _ (List.nil_sublist _)))))) ?_
        refine JA.take 22 (listed' := #[true, true, true, true, true, true, true, true, true, true, true, true, true, true, true, true, true, true, true, true, true, true, true, false]) hQ rfl (by kernel_rfl) (by kernel_rfl) (by kernel_rfl) (by kernel_rfl) (by kernel_rfl) hE hs2917 (.cons _ (.cons _ (.cons _ (.cons _ (.cons_cons _ (List.nil_sublist _)))))) ?_
        refine JL.fieldAddr fo_78_1 rfl .none rfl ?_
        refine JA.cont ?_
        refine JA.many [23] (by kernel_rfl) (by simp) (all_one ⟨_, #[true, true, true, true, true, true, true, true, true, true, true, true, true, true, true, true, true, true, true, true, true, true, true, true], rfl, (by kernel_rfl), ?_⟩)
        refine JL.oneG 1 rfl (fun ho2923 => ?_)
        refine JL.storeOwn 2 (cs := [v2919]) az_28 rfl ho2923.2 rfl (one_cons ho2923.1 one_nil) rfl rfl .none ?_
        refine JA.after hE hs2917 (.cons _ (.cons _ (.cons _ (.cons _ (.cons_cons _ (List.nil_sublist _)))))) ?_
        refine JA.done hQ (by kernel_rfl) ?_
        refine JQ.normal_block ?_
        refine JQ.go ?_
        refine JC.region (by rfl) ?_
        intro hQ
        refine JL.move .none rfl ?_
        refine JL.bin rfl rfl rfl .none rfl ?_
        refine JL.assign .none rfl ?_
        refine JL.done hQ ?_
        obtain rfl := Option.some.inj hF
        refine JQ.mask [false, false, true, true, true] [true, true] ?_
        exact JQ.next rfl ⟨v2890, xs2891, v2919, xs2920, rfl, rfl, rfl, rfl, rfl, rfl, hm2918, hch2921, (HSub.trans hs2625 hs2917)⟩
      intro nd2916_0
      refine JA.cut 5 #[true, true, true, true, true, true, true, true, true, true, true, true, true, true, true, true, true, true, false, false, true, false, false, false] (fun H2924 f bs gs => ∃ (b2884 : Nat) (v2890 : Value) (xs2891 : List Value), f 1 = .pointer (some ⟨b1, 0, none⟩) ∧ f 2 = .pointer (some ⟨b2, 0, none⟩) ∧ f 3 = .pointer (some ⟨b3, 0, none⟩) ∧ f 5 = .int .i64 i_2622 ∧ f 30 = v2890 ∧ f 32 = vout_2624 ∧ f 38 = .int .i64 y2644.Low ∧ f 41 = .pointer (some ⟨b2, 1, none⟩) ∧ bs = [(b2884, .cells [.int .i64 y2634.High].toArray 3), (b3, .cells [.int .i64 y4.High, vout_2624].toArray 78), (b2, .cells [.int .i64 y4.Low, vout_2623].toArray 78), (b1, .cells [d_v0, .int .i64 d.Frame.Low, .int .i64 d.Frame.High, .int .i64 d.Frame.Ease.Num, .int .i64 d.Frame.Ease.Den, .int .i64 d.Frame.Rod, .int .i64 d.Frame.Case, d_v7, d_v8].toArray 30)] ∧ gs = [⟨v2890, 3, 1, l2640.length, xs2891⟩, ⟨vout_2624, 3, 1, out_2624.length, xsout_2624⟩] ∧ CH H2924 1 RInt xs2891 l2640 ∧ HSub H2625 H2924) ?_ ?_
      · rintro H2924 f bs gs ⟨b2884, v2890, xs2891, hf1, hf2, hf3, hf5, hf30, hf32, hf38, hf41, rfl, rfl, hm2925, hs2924⟩
        refine (JA.norm (i := 1) hf1 (JA.norm (i := 2) hf2 (JA.norm (i := 3) hf3 (JA.norm (i := 5) hf5 (JA.norm (i := 30) hf30 (JA.norm (i := 32) hf32 (JA.norm (i := 38) hf38 (JA.norm (i := 41) hf41 ?_))))))))
        refine JA.many [18] (by kernel_rfl) (by simp) (all_one ⟨_, #[true, true, true, true, true, true, true, true, true, true, true, true, true, true, true, true, true, true, true, false, true, false, false, false], rfl, (by kernel_rfl), ?_⟩)
        refine JL.buildSlice (e := 3) (l := [.int .i64 y2644.Low]) (by kernel_rfl) .none rfl ?_
        intro b2926
        refine JA.after hE hs2924 (.cons _ (.cons _ (.cons _ (.cons _ (.cons_cons _ (List.nil_sublist _)))))) ?_
        exact nd2916_0 _ _ _ _ ⟨b2926, b2884, v2890, xs2891, rfl, rfl, rfl, rfl, rfl, rfl, rfl, rfl, rfl, rfl, hm2925, hs2924⟩
      intro nd2916_1
      refine JA.cut 5 #[true, true, true, true, true, true, true, true, true, true, true, false, true, true, true, true, true, true, true, false, true, false, false, false] (fun H2927 f bs gs => ∃ (b2899 : Nat) (b2884 : Nat) (v2890 : Value) (xs2891 : List Value), f 1 = .pointer (some ⟨b1, 0, none⟩) ∧ f 2 = .pointer (some ⟨b2, 0, none⟩) ∧ f 3 = .pointer (some ⟨b3, 0, none⟩) ∧ f 5 = .int .i64 i_2622 ∧ f 30 = v2890 ∧ f 31 = .pointer (some ⟨b3, 1, none⟩) ∧ f 39 = .slice (some ⟨b2899, 0, none⟩) 1 1 ∧ f 41 = .pointer (some ⟨b2, 1, none⟩) ∧ bs = [(b2899, .cells [.int .i64 y2644.Low].toArray 3), (b2884, .cells [.int .i64 y2634.High].toArray 3), (b3, .cells [.int .i64 y4.High, vout_2624].toArray 78), (b2, .cells [.int .i64 y4.Low, vout_2623].toArray 78), (b1, .cells [d_v0, .int .i64 d.Frame.Low, .int .i64 d.Frame.High, .int .i64 d.Frame.Ease.Num, .int .i64 d.Frame.Ease.Den, .int .i64 d.Frame.Rod, .int .i64 d.Frame.Case, d_v7, d_v8].toArray 30)] ∧ gs = [⟨v2890, 3, 1, l2640.length, xs2891⟩, ⟨vout_2624, 3, 1, out_2624.length, xsout_2624⟩] ∧ CH H2927 1 RInt xs2891 l2640 ∧ HSub H2625 H2927) ?_ ?_
      · rintro H2927 f bs gs ⟨b2899, b2884, v2890, xs2891, hf1, hf2, hf3, hf5, hf30, hf31, hf39, hf41, rfl, rfl, hm2928, hs2927⟩
        refine (JA.norm (i := 1) hf1 (JA.norm (i := 2) hf2 (JA.norm (i := 3) hf3 (JA.norm (i := 5) hf5 (JA.norm (i := 30) hf30 (JA.norm (i := 31) hf31 (JA.norm (i := 39) hf39 (JA.norm (i := 41) hf41 ?_))))))))
        refine JA.many [11] (by kernel_rfl) (by simp) (all_one ⟨_, #[true, true, true, true, true, true, true, true, true, true, true, true, true, true, true, true, true, true, true, false, true, false, false, false], rfl, (by kernel_rfl), ?_⟩)
        refine JL.loadOwn 2 az_28 rfl rfl rfl .none rfl ?_
        refine JA.after hE hs2927 (.cons _ (.cons _ (.cons _ (.cons _ (.cons_cons _ (List.nil_sublist _)))))) ?_
        exact nd2916_0 _ _ _ _ ⟨b2899, b2884, v2890, xs2891, rfl, rfl, rfl, rfl, rfl, rfl, rfl, rfl, rfl, rfl, hm2928, hs2927⟩
      intro nd2916_2
      refine JA.cut 6 #[true, true, true, true, true, true, true, true, true, false, true, true, true, true, true, true, true, true, true, false, false, false, false, false] (fun H2929 f bs gs => ∃ (b2903 : Nat) (b2884 : Nat), f 1 = .pointer (some ⟨b1, 0, none⟩) ∧ f 2 = .pointer (some ⟨b2, 0, none⟩) ∧ f 3 = .pointer (some ⟨b3, 0, none⟩) ∧ f 5 = .int .i64 i_2622 ∧ f 22 = vout_2623 ∧ f 29 = .slice (some ⟨b2884, 0, none⟩) 1 1 ∧ f 32 = vout_2624 ∧ f 39 = .slice (some ⟨b2903, 0, none⟩) 1 1 ∧ bs = [(b2903, .cells [.int .i64 y2644.Low].toArray 3), (b2884, .cells [.int .i64 y2634.High].toArray 3), (b3, .cells [.int .i64 y4.High, vout_2624].toArray 78), (b2, .cells [.int .i64 y4.Low, vout_2623].toArray 78), (b1, .cells [d_v0, .int .i64 d.Frame.Low, .int .i64 d.Frame.High, .int .i64 d.Frame.Ease.Num, .int .i64 d.Frame.Ease.Den, .int .i64 d.Frame.Rod, .int .i64 d.Frame.Case, d_v7, d_v8].toArray 30)] ∧ gs = [⟨vout_2623, 3, 1, out_2623.length, xsout_2623⟩, ⟨vout_2624, 3, 1, out_2624.length, xsout_2624⟩] ∧ HSub H2625 H2929) ?_ ?_
      · rintro H2929 f bs gs ⟨b2903, b2884, hf1, hf2, hf3, hf5, hf22, hf29, hf32, hf39, rfl, rfl, hs2929⟩
        refine (JA.norm (i := 1) hf1 (JA.norm (i := 2) hf2 (JA.norm (i := 3) hf3 (JA.norm (i := 5) hf5 (JA.norm (i := 22) hf22 (JA.norm (i := 29) hf29 (JA.norm (i := 32) hf32 (JA.norm (i := 39) hf39 ?_))))))))
        refine JA.many [9] (by kernel_rfl) (by simp) (all_one ⟨_, #[true, true, true, true, true, true, true, true, true, true, true, true, true, true, true, true, true, true, true, false, false, false, false, false], rfl, (by kernel_rfl), ?_⟩)
        refine JL.appO (R := RInt) 0 1 (l := out_2623) (m := [y2634.High]) ap_28 rfl ⟨rfl, rfl⟩ rfl (CH.mono RInt.mono hs2929 hout_2623) rfl rfl rfl (CH.cons (cs := [.int .i64 y2634.High]) rfl rfl CH.nil) rfl (one_cons rfl one_nil) hl2640 .none rfl ?_
        intro v2930 xs2931 hch2932
        refine JA.after hE hs2929 (.cons _ (.cons _ (.cons _ (.cons _ (.cons_cons _ (List.nil_sublist _)))))) ?_
        refine JA.take 20 (listed' := #[true, true, true, true, true, true, true, true, true, true, true, true, true, true, true, true, true, true, true, false, true, false, false, false]) hQ rfl (by kernel_rfl) (by kernel_rfl) (by kernel_rfl) (by kernel_rfl) (by kernel_rfl) hE hs2929 (.cons _ (.cons _ (.cons _ (.cons _ (.cons_cons _ (List.nil_sublist _)))))) ?_
        refine JL.fieldAddr fo_78_1 rfl .none rfl ?_
        refine JA.cont ?_
        exact nd2916_0 _ _ _ _ ⟨b2903, b2884, v2930, xs2931, rfl, rfl, rfl, rfl, rfl, rfl, rfl, rfl, rfl, rfl, hch2932, hs2929⟩
      intro nd2916_3
      refine JA.cut 7 #[true, true, true, true, true, true, true, true, true, false, true, true, true, true, true, true, true, true, false, false, false, false, false, false] (fun H2933 f bs gs => ∃ (b2884 : Nat), f 1 = .pointer (some ⟨b1, 0, none⟩) ∧ f 2 = .pointer (some ⟨b2, 0, none⟩) ∧ f 3 = .pointer (some ⟨b3, 0, none⟩) ∧ f 5 = .int .i64 i_2622 ∧ f 22 = vout_2623 ∧ f 29 = .slice (some ⟨b2884, 0, none⟩) 1 1 ∧ f 32 = vout_2624 ∧ f 38 = .int .i64 y2644.Low ∧ bs = [(b2884, .cells [.int .i64 y2634.High].toArray 3), (b3, .cells [.int .i64 y4.High, vout_2624].toArray 78), (b2, .cells [.int .i64 y4.Low, vout_2623].toArray 78), (b1, .cells [d_v0, .int .i64 d.Frame.Low, .int .i64 d.Frame.High, .int .i64 d.Frame.Ease.Num, .int .i64 d.Frame.Ease.Den, .int .i64 d.Frame.Rod, .int .i64 d.Frame.Case, d_v7, d_v8].toArray 30)] ∧ gs = [⟨vout_2623, 3, 1, out_2623.length, xsout_2623⟩, ⟨vout_2624, 3, 1, out_2624.length, xsout_2624⟩] ∧ HSub H2625 H2933) ?_ ?_
      · rintro H2933 f bs gs ⟨b2884, hf1, hf2, hf3, hf5, hf22, hf29, hf32, hf38, rfl, rfl, hs2933⟩
        refine (JA.norm (i := 1) hf1 (JA.norm (i := 2) hf2 (JA.norm (i := 3) hf3 (JA.norm (i := 5) hf5 (JA.norm (i := 22) hf22 (JA.norm (i := 29) hf29 (JA.norm (i := 32) hf32 (JA.norm (i := 38) hf38 ?_))))))))
        refine JA.many [9, 18] (by kernel_rfl) (by simp) (all_cons ⟨_, #[true, true, true, true, true, true, true, true, true, true, true, true, true, true, true, true, true, true, false, false, false, false, false, false], rfl, (by kernel_rfl), ?_⟩ (all_one ⟨_, #[true, true, true, true, true, true, true, true, true, false, true, true, true, true, true, true, true, true, true, false, false, false, false, false], rfl, (by kernel_rfl), ?_⟩))
        · skip
          refine JL.appO (R := RInt) 0 0 (l := out_2623) (m := [y2634.High]) ap_28 rfl ⟨rfl, rfl⟩ rfl (CH.mono RInt.mono hs2933 hout_2623) rfl rfl rfl (CH.cons (cs := [.int .i64 y2634.High]) rfl rfl CH.nil) rfl (one_cons rfl one_nil) hl2640 .none rfl ?_
          intro v2934 xs2935 hch2936
          refine JA.after hE hs2933 (.cons _ (.cons _ (.cons _ (.cons_cons _ (List.nil_sublist _))))) ?_
          refine JA.take 20 (listed' := #[true, true, true, true, true, true, true, true, true, true, true, true, true, true, true, true, true, true, false, false, true, false, false, false]) hQ rfl (by kernel_rfl) (by kernel_rfl) (by kernel_rfl) (by kernel_rfl) (by kernel_rfl) hE hs2933 (.cons _ (.cons _ (.cons _ (.cons_cons _ (List.nil_sublist _))))) ?_
          refine JL.fieldAddr fo_78_1 rfl .none rfl ?_
          refine JA.cont ?_
          exact nd2916_1 _ _ _ _ ⟨b2884, v2934, xs2935, rfl, rfl, rfl, rfl, rfl, rfl, rfl, rfl, rfl, rfl, hch2936, hs2933⟩
        · skip
          refine JL.buildSlice (e := 3) (l := [.int .i64 y2644.Low]) (by kernel_rfl) .none rfl ?_
          intro b2937
          refine JA.after hE hs2933 (.cons _ (.cons _ (.cons _ (.cons _ (.cons_cons _ (List.nil_sublist _)))))) ?_
          exact nd2916_3 _ _ _ _ ⟨b2937, b2884, rfl, rfl, rfl, rfl, rfl, rfl, rfl, rfl, rfl, rfl, hs2933⟩
      intro nd2916_4
      refine JA.cut 7 #[true, true, true, true, true, true, true, true, true, false, true, false, true, true, true, true, true, true, true, false, false, false, false, false] (fun H2938 f bs gs => ∃ (b2893 : Nat) (b2884 : Nat), f 1 = .pointer (some ⟨b1, 0, none⟩) ∧ f 2 = .pointer (some ⟨b2, 0, none⟩) ∧ f 3 = .pointer (some ⟨b3, 0, none⟩) ∧ f 5 = .int .i64 i_2622 ∧ f 22 = vout_2623 ∧ f 29 = .slice (some ⟨b2884, 0, none⟩) 1 1 ∧ f 31 = .pointer (some ⟨b3, 1, none⟩) ∧ f 39 = .slice (some ⟨b2893, 0, none⟩) 1 1 ∧ bs = [(b2893, .cells [.int .i64 y2644.Low].toArray 3), (b2884, .cells [.int .i64 y2634.High].toArray 3), (b3, .cells [.int .i64 y4.High, vout_2624].toArray 78), (b2, .cells [.int .i64 y4.Low, vout_2623].toArray 78), (b1, .cells [d_v0, .int .i64 d.Frame.Low, .int .i64 d.Frame.High, .int .i64 d.Frame.Ease.Num, .int .i64 d.Frame.Ease.Den, .int .i64 d.Frame.Rod, .int .i64 d.Frame.Case, d_v7, d_v8].toArray 30)] ∧ gs = [⟨vout_2623, 3, 1, out_2623.length, xsout_2623⟩, ⟨vout_2624, 3, 1, out_2624.length, xsout_2624⟩] ∧ HSub H2625 H2938) ?_ ?_
      · rintro H2938 f bs gs ⟨b2893, b2884, hf1, hf2, hf3, hf5, hf22, hf29, hf31, hf39, rfl, rfl, hs2938⟩
        refine (JA.norm (i := 1) hf1 (JA.norm (i := 2) hf2 (JA.norm (i := 3) hf3 (JA.norm (i := 5) hf5 (JA.norm (i := 22) hf22 (JA.norm (i := 29) hf29 (JA.norm (i := 31) hf31 (JA.norm (i := 39) hf39 ?_))))))))
        refine JA.many [9, 11] (by kernel_rfl) (by simp) (all_cons ⟨_, #[true, true, true, true, true, true, true, true, true, true, true, false, true, true, true, true, true, true, true, false, false, false, false, false], rfl, (by kernel_rfl), ?_⟩ (all_one ⟨_, #[true, true, true, true, true, true, true, true, true, false, true, true, true, true, true, true, true, true, true, false, false, false, false, false], rfl, (by kernel_rfl), ?_⟩))
        · skip
          refine JL.appO (R := RInt) 0 1 (l := out_2623) (m := [y2634.High]) ap_28 rfl ⟨rfl, rfl⟩ rfl (CH.mono RInt.mono hs2938 hout_2623) rfl rfl rfl (CH.cons (cs := [.int .i64 y2634.High]) rfl rfl CH.nil) rfl (one_cons rfl one_nil) hl2640 .none rfl ?_
          intro v2939 xs2940 hch2941
          refine JA.after hE hs2938 (.cons _ (.cons _ (.cons _ (.cons _ (.cons_cons _ (List.nil_sublist _)))))) ?_
          refine JA.take 20 (listed' := #[true, true, true, true, true, true, true, true, true, true, true, false, true, true, true, true, true, true, true, false, true, false, false, false]) hQ rfl (by kernel_rfl) (by kernel_rfl) (by kernel_rfl) (by kernel_rfl) (by kernel_rfl) hE hs2938 (.cons _ (.cons _ (.cons _ (.cons _ (.cons_cons _ (List.nil_sublist _)))))) ?_
          refine JL.fieldAddr fo_78_1 rfl .none rfl ?_
          refine JA.cont ?_
          exact nd2916_2 _ _ _ _ ⟨b2893, b2884, v2939, xs2940, rfl, rfl, rfl, rfl, rfl, rfl, rfl, rfl, rfl, rfl, hch2941, hs2938⟩
        · skip
          refine JL.loadOwn 2 az_28 rfl rfl rfl .none rfl ?_
          refine JA.after hE hs2938 (.cons _ (.cons _ (.cons _ (.cons _ (.cons_cons _ (List.nil_sublist _)))))) ?_
          exact nd2916_3 _ _ _ _ ⟨b2893, b2884, rfl, rfl, rfl, rfl, rfl, rfl, rfl, rfl, rfl, rfl, hs2938⟩
      intro nd2916_5
      refine JA.cut 7 #[true, true, true, true, true, true, true, true, false, false, true, true, true, true, true, true, true, true, true, false, false, false, false, false] (fun H2942 f bs gs => ∃ (b2895 : Nat), f 1 = .pointer (some ⟨b1, 0, none⟩) ∧ f 2 = .pointer (some ⟨b2, 0, none⟩) ∧ f 3 = .pointer (some ⟨b3, 0, none⟩) ∧ f 5 = .int .i64 i_2622 ∧ f 22 = vout_2623 ∧ f 28 = .int .i64 y2634.High ∧ f 32 = vout_2624 ∧ f 39 = .slice (some ⟨b2895, 0, none⟩) 1 1 ∧ bs = [(b2895, .cells [.int .i64 y2644.Low].toArray 3), (b3, .cells [.int .i64 y4.High, vout_2624].toArray 78), (b2, .cells [.int .i64 y4.Low, vout_2623].toArray 78), (b1, .cells [d_v0, .int .i64 d.Frame.Low, .int .i64 d.Frame.High, .int .i64 d.Frame.Ease.Num, .int .i64 d.Frame.Ease.Den, .int .i64 d.Frame.Rod, .int .i64 d.Frame.Case, d_v7, d_v8].toArray 30)] ∧ gs = [⟨vout_2623, 3, 1, out_2623.length, xsout_2623⟩, ⟨vout_2624, 3, 1, out_2624.length, xsout_2624⟩] ∧ HSub H2625 H2942) ?_ ?_
      · rintro H2942 f bs gs ⟨b2895, hf1, hf2, hf3, hf5, hf22, hf28, hf32, hf39, rfl, rfl, hs2942⟩
        refine (JA.norm (i := 1) hf1 (JA.norm (i := 2) hf2 (JA.norm (i := 3) hf3 (JA.norm (i := 5) hf5 (JA.norm (i := 22) hf22 (JA.norm (i := 28) hf28 (JA.norm (i := 32) hf32 (JA.norm (i := 39) hf39 ?_))))))))
        refine JA.many [8] (by kernel_rfl) (by simp) (all_one ⟨_, #[true, true, true, true, true, true, true, true, true, false, true, true, true, true, true, true, true, true, true, false, false, false, false, false], rfl, (by kernel_rfl), ?_⟩)
        refine JL.buildSlice (e := 3) (l := [.int .i64 y2634.High]) (by kernel_rfl) .none rfl ?_
        intro b2943
        refine JA.after hE hs2942 (.cons _ (.cons _ (.cons _ (.cons _ (.cons_cons _ (List.nil_sublist _)))))) ?_
        refine JA.perm (swapAt_perm 0 _) ?_
        exact nd2916_3 _ _ _ _ ⟨b2895, b2943, rfl, rfl, rfl, rfl, rfl, rfl, rfl, rfl, rfl, rfl, hs2942⟩
      intro nd2916_6
      refine JA.cut 7 #[true, false, true, true, true, true, true, true, true, false, true, true, true, true, true, true, true, true, true, false, false, false, false, false] (fun H2944 f bs gs => ∃ (b2897 : Nat) (b2882 : Nat), f 1 = .pointer (some ⟨b1, 0, none⟩) ∧ f 2 = .pointer (some ⟨b2, 0, none⟩) ∧ f 3 = .pointer (some ⟨b3, 0, none⟩) ∧ f 5 = .int .i64 i_2622 ∧ f 21 = .pointer (some ⟨b2, 1, none⟩) ∧ f 29 = .slice (some ⟨b2882, 0, none⟩) 1 1 ∧ f 32 = vout_2624 ∧ f 39 = .slice (some ⟨b2897, 0, none⟩) 1 1 ∧ bs = [(b2897, .cells [.int .i64 y2644.Low].toArray 3), (b2882, .cells [.int .i64 y2634.High].toArray 3), (b3, .cells [.int .i64 y4.High, vout_2624].toArray 78), (b2, .cells [.int .i64 y4.Low, vout_2623].toArray 78), (b1, .cells [d_v0, .int .i64 d.Frame.Low, .int .i64 d.Frame.High, .int .i64 d.Frame.Ease.Num, .int .i64 d.Frame.Ease.Den, .int .i64 d.Frame.Rod, .int .i64 d.Frame.Case, d_v7, d_v8].toArray 30)] ∧ gs = [⟨vout_2623, 3, 1, out_2623.length, xsout_2623⟩, ⟨vout_2624, 3, 1, out_2624.length, xsout_2624⟩] ∧ HSub H2625 H2944) ?_ ?_
      · rintro H2944 f bs gs ⟨b2897, b2882, hf1, hf2, hf3, hf5, hf21, hf29, hf32, hf39, rfl, rfl, hs2944⟩
        refine (JA.norm (i := 1) hf1 (JA.norm (i := 2) hf2 (JA.norm (i := 3) hf3 (JA.norm (i := 5) hf5 (JA.norm (i := 21) hf21 (JA.norm (i := 29) hf29 (JA.norm (i := 32) hf32 (JA.norm (i := 39) hf39 ?_))))))))
        refine JA.many [1] (by kernel_rfl) (by simp) (all_one ⟨_, #[true, true, true, true, true, true, true, true, true, false, true, true, true, true, true, true, true, true, true, false, false, false, false, false], rfl, (by kernel_rfl), ?_⟩)
        refine JL.loadOwn 3 az_28 rfl rfl rfl .none rfl ?_
        refine JA.after hE hs2944 (.cons _ (.cons _ (.cons _ (.cons _ (.cons_cons _ (List.nil_sublist _)))))) ?_
        exact nd2916_3 _ _ _ _ ⟨b2897, b2882, rfl, rfl, rfl, rfl, rfl, rfl, rfl, rfl, rfl, rfl, hs2944⟩
      intro nd2916_7
      refine JA.cut 8 #[true, true, true, true, true, true, true, true, true, false, true, false, true, true, true, true, true, true, false, false, false, false, false, false] (fun H2945 f bs gs => ∃ (b2884 : Nat), f 1 = .pointer (some ⟨b1, 0, none⟩) ∧ f 2 = .pointer (some ⟨b2, 0, none⟩) ∧ f 3 = .pointer (some ⟨b3, 0, none⟩) ∧ f 5 = .int .i64 i_2622 ∧ f 22 = vout_2623 ∧ f 29 = .slice (some ⟨b2884, 0, none⟩) 1 1 ∧ f 31 = .pointer (some ⟨b3, 1, none⟩) ∧ f 38 = .int .i64 y2644.Low ∧ bs = [(b2884, .cells [.int .i64 y2634.High].toArray 3), (b3, .cells [.int .i64 y4.High, vout_2624].toArray 78), (b2, .cells [.int .i64 y4.Low, vout_2623].toArray 78), (b1, .cells [d_v0, .int .i64 d.Frame.Low, .int .i64 d.Frame.High, .int .i64 d.Frame.Ease.Num, .int .i64 d.Frame.Ease.Den, .int .i64 d.Frame.Rod, .int .i64 d.Frame.Case, d_v7, d_v8].toArray 30)] ∧ gs = [⟨vout_2623, 3, 1, out_2623.length, xsout_2623⟩, ⟨vout_2624, 3, 1, out_2624.length, xsout_2624⟩] ∧ HSub H2625 H2945) ?_ ?_
      · rintro H2945 f bs gs ⟨b2884, hf1, hf2, hf3, hf5, hf22, hf29, hf31, hf38, rfl, rfl, hs2945⟩
        refine (JA.norm (i := 1) hf1 (JA.norm (i := 2) hf2 (JA.norm (i := 3) hf3 (JA.norm (i := 5) hf5 (JA.norm (i := 22) hf22 (JA.norm (i := 29) hf29 (JA.norm (i := 31) hf31 (JA.norm (i := 38) hf38 ?_))))))))
        refine JA.many [9, 11, 18] (by kernel_rfl) (by simp) (all_cons ⟨_, #[true, true, true, true, true, true, true, true, true, true, true, false, true, true, true, true, true, true, false, false, false, false, false, false], rfl, (by kernel_rfl), ?_⟩ (all_cons ⟨_, #[true, true, true, true, true, true, true, true, true, false, true, true, true, true, true, true, true, true, false, false, false, false, false, false], rfl, (by kernel_rfl), ?_⟩ (all_one ⟨_, #[true, true, true, true, true, true, true, true, true, false, true, false, true, true, true, true, true, true, true, false, false, false, false, false], rfl, (by kernel_rfl), ?_⟩)))
        · skip
          refine JL.appO (R := RInt) 0 0 (l := out_2623) (m := [y2634.High]) ap_28 rfl ⟨rfl, rfl⟩ rfl (CH.mono RInt.mono hs2945 hout_2623) rfl rfl rfl (CH.cons (cs := [.int .i64 y2634.High]) rfl rfl CH.nil) rfl (one_cons rfl one_nil) hl2640 .none rfl ?_
          intro v2946 xs2947 hch2948
          refine JA.after hE hs2945 (.cons _ (.cons _ (.cons _ (.cons_cons _ (List.nil_sublist _))))) ?_
          refine JA.take 20 (listed' := #[true, true, true, true, true, true, true, true, true, true, true, false, true, true, true, true, true, true, false, false, true, false, false, false]) hQ rfl (by kernel_rfl) (by kernel_rfl) (by kernel_rfl) (by kernel_rfl) (by kernel_rfl) hE hs2945 (.cons _ (.cons _ (.cons _ (.cons_cons _ (List.nil_sublist _))))) ?_
          refine JL.fieldAddr fo_78_1 rfl .none rfl ?_
          refine JA.cont ?_
          refine JA.many [11, 18] (by kernel_rfl) (by simp) (all_cons ⟨_, #[true, true, true, true, true, true, true, true, true, true, true, true, true, true, true, true, true, true, false, false, true, false, false, false], rfl, (by kernel_rfl), ?_⟩ (all_one ⟨_, #[true, true, true, true, true, true, true, true, true, true, true, false, true, true, true, true, true, true, true, false, true, false, false, false], rfl, (by kernel_rfl), ?_⟩))
          · skip
            refine JL.loadOwn 1 az_28 rfl rfl rfl .none rfl ?_
            refine JA.after hE hs2945 (.cons _ (.cons _ (.cons _ (.cons_cons _ (List.nil_sublist _))))) ?_
            exact nd2916_1 _ _ _ _ ⟨b2884, v2946, xs2947, rfl, rfl, rfl, rfl, rfl, rfl, rfl, rfl, rfl, rfl, hch2948, hs2945⟩
          · skip
            refine JL.buildSlice (e := 3) (l := [.int .i64 y2644.Low]) (by kernel_rfl) .none rfl ?_
            intro b2949
            refine JA.after hE hs2945 (.cons _ (.cons _ (.cons _ (.cons _ (.cons_cons _ (List.nil_sublist _)))))) ?_
            exact nd2916_2 _ _ _ _ ⟨b2949, b2884, v2946, xs2947, rfl, rfl, rfl, rfl, rfl, rfl, rfl, rfl, rfl, rfl, hch2948, hs2945⟩
        · skip
          refine JL.loadOwn 1 az_28 rfl rfl rfl .none rfl ?_
          refine JA.after hE hs2945 (.cons _ (.cons _ (.cons _ (.cons_cons _ (List.nil_sublist _))))) ?_
          exact nd2916_4 _ _ _ _ ⟨b2884, rfl, rfl, rfl, rfl, rfl, rfl, rfl, rfl, rfl, rfl, hs2945⟩
        · skip
          refine JL.buildSlice (e := 3) (l := [.int .i64 y2644.Low]) (by kernel_rfl) .none rfl ?_
          intro b2950
          refine JA.after hE hs2945 (.cons _ (.cons _ (.cons _ (.cons _ (.cons_cons _ (List.nil_sublist _)))))) ?_
          exact nd2916_5 _ _ _ _ ⟨b2950, b2884, rfl, rfl, rfl, rfl, rfl, rfl, rfl, rfl, rfl, rfl, hs2945⟩
      intro nd2916_8
      refine JA.cut 8 #[true, true, true, true, true, true, true, true, false, false, true, true, true, true, true, true, true, true, false, false, false, false, false, false] (fun H2951 f bs gs => f 1 = .pointer (some ⟨b1, 0, none⟩) ∧ f 2 = .pointer (some ⟨b2, 0, none⟩) ∧ f 3 = .pointer (some ⟨b3, 0, none⟩) ∧ f 5 = .int .i64 i_2622 ∧ f 22 = vout_2623 ∧ f 28 = .int .i64 y2634.High ∧ f 32 = vout_2624 ∧ f 38 = .int .i64 y2644.Low ∧ bs = [(b3, .cells [.int .i64 y4.High, vout_2624].toArray 78), (b2, .cells [.int .i64 y4.Low, vout_2623].toArray 78), (b1, .cells [d_v0, .int .i64 d.Frame.Low, .int .i64 d.Frame.High, .int .i64 d.Frame.Ease.Num, .int .i64 d.Frame.Ease.Den, .int .i64 d.Frame.Rod, .int .i64 d.Frame.Case, d_v7, d_v8].toArray 30)] ∧ gs = [⟨vout_2623, 3, 1, out_2623.length, xsout_2623⟩, ⟨vout_2624, 3, 1, out_2624.length, xsout_2624⟩] ∧ HSub H2625 H2951) ?_ ?_
      · rintro H2951 f bs gs ⟨hf1, hf2, hf3, hf5, hf22, hf28, hf32, hf38, rfl, rfl, hs2951⟩
        refine (JA.norm (i := 1) hf1 (JA.norm (i := 2) hf2 (JA.norm (i := 3) hf3 (JA.norm (i := 5) hf5 (JA.norm (i := 22) hf22 (JA.norm (i := 28) hf28 (JA.norm (i := 32) hf32 (JA.norm (i := 38) hf38 ?_))))))))
        refine JA.many [8, 18] (by kernel_rfl) (by simp) (all_cons ⟨_, #[true, true, true, true, true, true, true, true, true, false, true, true, true, true, true, true, true, true, false, false, false, false, false, false], rfl, (by kernel_rfl), ?_⟩ (all_one ⟨_, #[true, true, true, true, true, true, true, true, false, false, true, true, true, true, true, true, true, true, true, false, false, false, false, false], rfl, (by kernel_rfl), ?_⟩))
        · skip
          refine JL.buildSlice (e := 3) (l := [.int .i64 y2634.High]) (by kernel_rfl) .none rfl ?_
          intro b2952
          refine JA.after hE hs2951 (.cons _ (.cons _ (.cons _ (.cons_cons _ (List.nil_sublist _))))) ?_
          exact nd2916_4 _ _ _ _ ⟨b2952, rfl, rfl, rfl, rfl, rfl, rfl, rfl, rfl, rfl, rfl, hs2951⟩
        · skip
          refine JL.buildSlice (e := 3) (l := [.int .i64 y2644.Low]) (by kernel_rfl) .none rfl ?_
          intro b2953
          refine JA.after hE hs2951 (.cons _ (.cons _ (.cons _ (.cons_cons _ (List.nil_sublist _))))) ?_
          exact nd2916_6 _ _ _ _ ⟨b2953, rfl, rfl, rfl, rfl, rfl, rfl, rfl, rfl, rfl, rfl, hs2951⟩
      intro nd2916_9
      refine JA.cut 8 #[true, true, true, true, true, true, true, true, false, false, true, false, true, true, true, true, true, true, true, false, false, false, false, false] (fun H2954 f bs gs => ∃ (b2885 : Nat), f 1 = .pointer (some ⟨b1, 0, none⟩) ∧ f 2 = .pointer (some ⟨b2, 0, none⟩) ∧ f 3 = .pointer (some ⟨b3, 0, none⟩) ∧ f 5 = .int .i64 i_2622 ∧ f 22 = vout_2623 ∧ f 28 = .int .i64 y2634.High ∧ f 31 = .pointer (some ⟨b3, 1, none⟩) ∧ f 39 = .slice (some ⟨b2885, 0, none⟩) 1 1 ∧ bs = [(b2885, .cells [.int .i64 y2644.Low].toArray 3), (b3, .cells [.int .i64 y4.High, vout_2624].toArray 78), (b2, .cells [.int .i64 y4.Low, vout_2623].toArray 78), (b1, .cells [d_v0, .int .i64 d.Frame.Low, .int .i64 d.Frame.High, .int .i64 d.Frame.Ease.Num, .int .i64 d.Frame.Ease.Den, .int .i64 d.Frame.Rod, .int .i64 d.Frame.Case, d_v7, d_v8].toArray 30)] ∧ gs = [⟨vout_2623, 3, 1, out_2623.length, xsout_2623⟩, ⟨vout_2624, 3, 1, out_2624.length, xsout_2624⟩] ∧ HSub H2625 H2954) ?_ ?_
      · rintro H2954 f bs gs ⟨b2885, hf1, hf2, hf3, hf5, hf22, hf28, hf31, hf39, rfl, rfl, hs2954⟩
        refine (JA.norm (i := 1) hf1 (JA.norm (i := 2) hf2 (JA.norm (i := 3) hf3 (JA.norm (i := 5) hf5 (JA.norm (i := 22) hf22 (JA.norm (i := 28) hf28 (JA.norm (i := 31) hf31 (JA.norm (i := 39) hf39 ?_))))))))
        refine JA.many [8, 11] (by kernel_rfl) (by simp) (all_cons ⟨_, #[true, true, true, true, true, true, true, true, true, false, true, false, true, true, true, true, true, true, true, false, false, false, false, false], rfl, (by kernel_rfl), ?_⟩ (all_one ⟨_, #[true, true, true, true, true, true, true, true, false, false, true, true, true, true, true, true, true, true, true, false, false, false, false, false], rfl, (by kernel_rfl), ?_⟩))
        · skip
          refine JL.buildSlice (e := 3) (l := [.int .i64 y2634.High]) (by kernel_rfl) .none rfl ?_
          intro b2955
          refine JA.after hE hs2954 (.cons _ (.cons _ (.cons _ (.cons _ (.cons_cons _ (List.nil_sublist _)))))) ?_
          refine JA.perm (swapAt_perm 0 _) ?_
          exact nd2916_5 _ _ _ _ ⟨b2885, b2955, rfl, rfl, rfl, rfl, rfl, rfl, rfl, rfl, rfl, rfl, hs2954⟩
        · skip
          refine JL.loadOwn 1 az_28 rfl rfl rfl .none rfl ?_
          refine JA.after hE hs2954 (.cons _ (.cons _ (.cons _ (.cons_cons _ (List.nil_sublist _))))) ?_
          exact nd2916_6 _ _ _ _ ⟨b2885, rfl, rfl, rfl, rfl, rfl, rfl, rfl, rfl, rfl, rfl, hs2954⟩
      intro nd2916_10
      refine JA.cut 8 #[true, false, true, true, true, true, true, true, true, false, true, true, true, true, true, true, true, true, false, false, false, false, false, false] (fun H2956 f bs gs => ∃ (b2882 : Nat), f 1 = .pointer (some ⟨b1, 0, none⟩) ∧ f 2 = .pointer (some ⟨b2, 0, none⟩) ∧ f 3 = .pointer (some ⟨b3, 0, none⟩) ∧ f 5 = .int .i64 i_2622 ∧ f 21 = .pointer (some ⟨b2, 1, none⟩) ∧ f 29 = .slice (some ⟨b2882, 0, none⟩) 1 1 ∧ f 32 = vout_2624 ∧ f 38 = .int .i64 y2644.Low ∧ bs = [(b2882, .cells [.int .i64 y2634.High].toArray 3), (b3, .cells [.int .i64 y4.High, vout_2624].toArray 78), (b2, .cells [.int .i64 y4.Low, vout_2623].toArray 78), (b1, .cells [d_v0, .int .i64 d.Frame.Low, .int .i64 d.Frame.High, .int .i64 d.Frame.Ease.Num, .int .i64 d.Frame.Ease.Den, .int .i64 d.Frame.Rod, .int .i64 d.Frame.Case, d_v7, d_v8].toArray 30)] ∧ gs = [⟨vout_2623, 3, 1, out_2623.length, xsout_2623⟩, ⟨vout_2624, 3, 1, out_2624.length, xsout_2624⟩] ∧ HSub H2625 H2956) ?_ ?_
      · rintro H2956 f bs gs ⟨b2882, hf1, hf2, hf3, hf5, hf21, hf29, hf32, hf38, rfl, rfl, hs2956⟩
        refine (JA.norm (i := 1) hf1 (JA.norm (i := 2) hf2 (JA.norm (i := 3) hf3 (JA.norm (i := 5) hf5 (JA.norm (i := 21) hf21 (JA.norm (i := 29) hf29 (JA.norm (i := 32) hf32 (JA.norm (i := 38) hf38 ?_))))))))
        refine JA.many [1, 18] (by kernel_rfl) (by simp) (all_cons ⟨_, #[true, true, true, true, true, true, true, true, true, false, true, true, true, true, true, true, true, true, false, false, false, false, false, false], rfl, (by kernel_rfl), ?_⟩ (all_one ⟨_, #[true, false, true, true, true, true, true, true, true, false, true, true, true, true, true, true, true, true, true, false, false, false, false, false], rfl, (by kernel_rfl), ?_⟩))
        · skip
          refine JL.loadOwn 2 az_28 rfl rfl rfl .none rfl ?_
          refine JA.after hE hs2956 (.cons _ (.cons _ (.cons _ (.cons_cons _ (List.nil_sublist _))))) ?_
          exact nd2916_4 _ _ _ _ ⟨b2882, rfl, rfl, rfl, rfl, rfl, rfl, rfl, rfl, rfl, rfl, hs2956⟩
        · skip
          refine JL.buildSlice (e := 3) (l := [.int .i64 y2644.Low]) (by kernel_rfl) .none rfl ?_
          intro b2957
          refine JA.after hE hs2956 (.cons _ (.cons _ (.cons _ (.cons _ (.cons_cons _ (List.nil_sublist _)))))) ?_
          exact nd2916_7 _ _ _ _ ⟨b2957, b2882, rfl, rfl, rfl, rfl, rfl, rfl, rfl, rfl, rfl, rfl, hs2956⟩
      intro nd2916_11
      refine JA.cut 8 #[true, false, true, true, true, true, true, true, true, false, true, false, true, true, true, true, true, true, true, false, false, false, false, false] (fun H2958 f bs gs => ∃ (b2886 : Nat) (b2882 : Nat), f 1 = .pointer (some ⟨b1, 0, none⟩) ∧ f 2 = .pointer (some ⟨b2, 0, none⟩) ∧ f 3 = .pointer (some ⟨b3, 0, none⟩) ∧ f 5 = .int .i64 i_2622 ∧ f 21 = .pointer (some ⟨b2, 1, none⟩) ∧ f 29 = .slice (some ⟨b2882, 0, none⟩) 1 1 ∧ f 31 = .pointer (some ⟨b3, 1, none⟩) ∧ f 39 = .slice (some ⟨b2886, 0, none⟩) 1 1 ∧ bs = [(b2886, .cells [.int .i64 y2644.Low].toArray 3), (b2882, .cells [.int .i64 y2634.High].toArray 3), (b3, .cells [.int .i64 y4.High, vout_2624].toArray 78), (b2, .cells [.int .i64 y4.Low, vout_2623].toArray 78), (b1, .cells [d_v0, .int .i64 d.Frame.Low, .int .i64 d.Frame.High, .int .i64 d.Frame.Ease.Num, .int .i64 d.Frame.Ease.Den, .int .i64 d.Frame.Rod, .int .i64 d.Frame.Case, d_v7, d_v8].toArray 30)] ∧ gs = [⟨vout_2623, 3, 1, out_2623.length, xsout_2623⟩, ⟨vout_2624, 3, 1, out_2624.length, xsout_2624⟩] ∧ HSub H2625 H2958) ?_ ?_
      · rintro H2958 f bs gs ⟨b2886, b2882, hf1, hf2, hf3, hf5, hf21, hf29, hf31, hf39, rfl, rfl, hs2958⟩
        refine (JA.norm (i := 1) hf1 (JA.norm (i := 2) hf2 (JA.norm (i := 3) hf3 (JA.norm (i := 5) hf5 (JA.norm (i := 21) hf21 (JA.norm (i := 29) hf29 (JA.norm (i := 31) hf31 (JA.norm (i := 39) hf39 ?_))))))))
        refine JA.many [1, 11] (by kernel_rfl) (by simp) (all_cons ⟨_, #[true, true, true, true, true, true, true, true, true, false, true, false, true, true, true, true, true, true, true, false, false, false, false, false], rfl, (by kernel_rfl), ?_⟩ (all_one ⟨_, #[true, false, true, true, true, true, true, true, true, false, true, true, true, true, true, true, true, true, true, false, false, false, false, false], rfl, (by kernel_rfl), ?_⟩))
        · skip
          refine JL.loadOwn 3 az_28 rfl rfl rfl .none rfl ?_
          refine JA.after hE hs2958 (.cons _ (.cons _ (.cons _ (.cons _ (.cons_cons _ (List.nil_sublist _)))))) ?_
          exact nd2916_5 _ _ _ _ ⟨b2886, b2882, rfl, rfl, rfl, rfl, rfl, rfl, rfl, rfl, rfl, rfl, hs2958⟩
        · skip
          refine JL.loadOwn 2 az_28 rfl rfl rfl .none rfl ?_
          refine JA.after hE hs2958 (.cons _ (.cons _ (.cons _ (.cons _ (.cons_cons _ (List.nil_sublist _)))))) ?_
          exact nd2916_7 _ _ _ _ ⟨b2886, b2882, rfl, rfl, rfl, rfl, rfl, rfl, rfl, rfl, rfl, rfl, hs2958⟩
      intro nd2916_12
      refine JA.cut 8 #[true, false, true, true, true, true, true, true, false, false, true, true, true, true, true, true, true, true, true, false, false, false, false, false] (fun H2959 f bs gs => ∃ (b2888 : Nat), f 1 = .pointer (some ⟨b1, 0, none⟩) ∧ f 2 = .pointer (some ⟨b2, 0, none⟩) ∧ f 3 = .pointer (some ⟨b3, 0, none⟩) ∧ f 5 = .int .i64 i_2622 ∧ f 21 = .pointer (some ⟨b2, 1, none⟩) ∧ f 28 = .int .i64 y2634.High ∧ f 32 = vout_2624 ∧ f 39 = .slice (some ⟨b2888, 0, none⟩) 1 1 ∧ bs = [(b2888, .cells [.int .i64 y2644.Low].toArray 3), (b3, .cells [.int .i64 y4.High, vout_2624].toArray 78), (b2, .cells [.int .i64 y4.Low, vout_2623].toArray 78), (b1, .cells [d_v0, .int .i64 d.Frame.Low, .int .i64 d.Frame.High, .int .i64 d.Frame.Ease.Num, .int .i64 d.Frame.Ease.Den, .int .i64 d.Frame.Rod, .int .i64 d.Frame.Case, d_v7, d_v8].toArray 30)] ∧ gs = [⟨vout_2623, 3, 1, out_2623.length, xsout_2623⟩, ⟨vout_2624, 3, 1, out_2624.length, xsout_2624⟩] ∧ HSub H2625 H2959) ?_ ?_
      · rintro H2959 f bs gs ⟨b2888, hf1, hf2, hf3, hf5, hf21, hf28, hf32, hf39, rfl, rfl, hs2959⟩
        refine (JA.norm (i := 1) hf1 (JA.norm (i := 2) hf2 (JA.norm (i := 3) hf3 (JA.norm (i := 5) hf5 (JA.norm (i := 21) hf21 (JA.norm (i := 28) hf28 (JA.norm (i := 32) hf32 (JA.norm (i := 39) hf39 ?_))))))))
        refine JA.many [1, 8] (by kernel_rfl) (by simp) (all_cons ⟨_, #[true, true, true, true, true, true, true, true, false, false, true, true, true, true, true, true, true, true, true, false, false, false, false, false], rfl, (by kernel_rfl), ?_⟩ (all_one ⟨_, #[true, false, true, true, true, true, true, true, true, false, true, true, true, true, true, true, true, true, true, false, false, false, false, false], rfl, (by kernel_rfl), ?_⟩))
        · skip
          refine JL.loadOwn 2 az_28 rfl rfl rfl .none rfl ?_
          refine JA.after hE hs2959 (.cons _ (.cons _ (.cons _ (.cons_cons _ (List.nil_sublist _))))) ?_
          exact nd2916_6 _ _ _ _ ⟨b2888, rfl, rfl, rfl, rfl, rfl, rfl, rfl, rfl, rfl, rfl, hs2959⟩
        · skip
          refine JL.buildSlice (e := 3) (l := [.int .i64 y2634.High]) (by kernel_rfl) .none rfl ?_
          intro b2960
          refine JA.after hE hs2959 (.cons _ (.cons _ (.cons _ (.cons _ (.cons_cons _ (List.nil_sublist _)))))) ?_
          refine JA.perm (swapAt_perm 0 _) ?_
          exact nd2916_7 _ _ _ _ ⟨b2888, b2960, rfl, rfl, rfl, rfl, rfl, rfl, rfl, rfl, rfl, rfl, hs2959⟩
      intro nd2916_13
      refine JA.take 0 (listed' := #[true, false, false, false, false, false, false, false, false, false, false, false, false, false, false, false, false, false, false, false, false, false, false, false]) hQ rfl (by kernel_rfl) (by kernel_rfl) (by kernel_rfl) (by kernel_rfl) (by kernel_rfl) hE (HSub.refl _) (.cons _ (.cons _ (.cons_cons _ (List.nil_sublist _)))) ?_
      refine JL.fieldAddr fo_78_1 rfl .none rfl ?_
      refine JA.cont ?_
      refine JA.take 2 (listed' := #[true, false, true, false, false, false, false, false, false, false, false, false, false, false, false, false, false, false, false, false, false, false, false, false]) hQ rfl (by kernel_rfl) (by kernel_rfl) (by kernel_rfl) (by kernel_rfl) (by kernel_rfl) hE (HSub.refl _) (.cons _ (.cons _ (.cons_cons _ (List.nil_sublist _)))) ?_
      refine JL.fieldAddr fo_30_1 rfl .none rfl ?_
      refine JA.cont ?_
      refine JA.take 3 (listed' := #[true, false, true, true, false, false, false, false, false, false, false, false, false, false, false, false, false, false, false, false, false, false, false, false]) hQ rfl (by kernel_rfl) (by kernel_rfl) (by kernel_rfl) (by kernel_rfl) (by kernel_rfl) hE (HSub.refl _) (.cons _ (.cons _ (.cons_cons _ (List.nil_sublist _)))) ?_
      refine JL.loadOwn 0 az_27 rfl rfl rfl .none rfl ?_
      refine JA.cont ?_
      refine JA.take 4 (listed' := #[true, false, true, true, true, false, false, false, false, false, false, false, false, false, false, false, false, false, false, false, false, false, false, false]) hQ rfl (by kernel_rfl) (by kernel_rfl) (by kernel_rfl) (by kernel_rfl) (by kernel_rfl) hE (HSub.refl _) (.cons _ (.cons _ (.cons_cons _ (List.nil_sublist _)))) ?_
      refine JL.move .none rfl ?_
      refine JA.cont ?_
      refine JA.take 5 (listed' := #[true, false, true, true, true, true, false, false, false, false, false, false, false, false, false, false, false, false, false, false, false, false, false, false]) hQ rfl (by kernel_rfl) (by kernel_rfl) (by kernel_rfl) (by kernel_rfl) (by kernel_rfl) hE (HSub.refl _) (.cons _ (.cons _ (.cons_cons _ (List.nil_sublist _)))) ?_
      refine JL.indexSL (R := R_Span) sl_27 (SL.mono R_Span_mono hs2625 hd_7) rfl hy2634 .none rfl ?_
      rintro b2965 o2966 cs2967 hc2968 - rfl
      refine JA.cont ?_
      refine JA.take 6 (listed' := #[true, false, true, true, true, true, true, false, false, false, false, false, false, false, false, false, false, false, false, false, false, false, false, false]) hQ rfl (by kernel_rfl) (by kernel_rfl) (by kernel_rfl) (by kernel_rfl) (by kernel_rfl) hE (HSub.refl _) (.cons _ (.cons _ (.cons_cons _ (List.nil_sublist _)))) ?_
      refine JL.fieldAddr fo_38_1 rfl .none rfl ?_
      refine JA.cont ?_
      refine JA.take 7 (listed' := #[true, false, true, true, true, true, true, true, false, false, false, false, false, false, false, false, false, false, false, false, false, false, false, false]) hQ rfl (by kernel_rfl) (by kernel_rfl) (by kernel_rfl) (by kernel_rfl) (by kernel_rfl) hE (HSub.refl _) (.cons _ (.cons _ (.cons_cons _ (List.nil_sublist _)))) ?_
      refine JL.loadH 1 az_3 rfl hc2968 rfl .none rfl ?_
      refine JA.cont ?_
      refine JA.take 10 (listed' := #[true, false, true, true, true, true, true, true, false, false, true, false, false, false, false, false, false, false, false, false, false, false, false, false]) hQ rfl (by kernel_rfl) (by kernel_rfl) (by kernel_rfl) (by kernel_rfl) (by kernel_rfl) hE (HSub.refl _) (.cons _ (.cons _ (.cons_cons _ (List.nil_sublist _)))) ?_
      refine JL.fieldAddr fo_78_1 rfl .none rfl ?_
      refine JA.cont ?_
      refine JA.take 12 (listed' := #[true, false, true, true, true, true, true, true, false, false, true, false, true, false, false, false, false, false, false, false, false, false, false, false]) hQ rfl (by kernel_rfl) (by kernel_rfl) (by kernel_rfl) (by kernel_rfl) (by kernel_rfl) hE (HSub.refl _) (.cons _ (.cons _ (.cons_cons _ (List.nil_sublist _)))) ?_
      refine JL.fieldAddr fo_30_1 rfl .none rfl ?_
      refine JA.cont ?_
      refine JA.take 13 (listed' := #[true, false, true, true, true, true, true, true, false, false, true, false, true, true, false, false, false, false, false, false, false, false, false, false]) hQ rfl (by kernel_rfl) (by kernel_rfl) (by kernel_rfl) (by kernel_rfl) (by kernel_rfl) hE (HSub.refl _) (.cons _ (.cons _ (.cons_cons _ (List.nil_sublist _)))) ?_
      refine JL.loadOwn 0 az_27 rfl rfl rfl .none rfl ?_
      refine JA.cont ?_
      refine JA.take 14 (listed' := #[true, false, true, true, true, true, true, true, false, false, true, false, true, true, true, false, false, false, false, false, false, false, false, false]) hQ rfl (by kernel_rfl) (by kernel_rfl) (by kernel_rfl) (by kernel_rfl) (by kernel_rfl) hE (HSub.refl _) (.cons _ (.cons _ (.cons_cons _ (List.nil_sublist _)))) ?_
      refine JL.move .none rfl ?_
      refine JA.cont ?_
      refine JA.take 15 (listed' := #[true, false, true, true, true, true, true, true, false, false, true, false, true, true, true, true, false, false, false, false, false, false, false, false]) hQ rfl (by kernel_rfl) (by kernel_rfl) (by kernel_rfl) (by kernel_rfl) (by kernel_rfl) hE (HSub.refl _) (.cons _ (.cons _ (.cons_cons _ (List.nil_sublist _)))) ?_
      refine JL.indexSL (R := R_Span) sl_27 (SL.mono R_Span_mono hs2625 hd_7) rfl hy2644 .none rfl ?_
      rintro b2973 o2974 cs2975 hc2976 - rfl
      refine JA.cont ?_
      refine JA.take 16 (listed' := #[true, false, true, true, true, true, true, true, false, false, true, false, true, true, true, true, true, false, false, false, false, false, false, false]) hQ rfl (by kernel_rfl) (by kernel_rfl) (by kernel_rfl) (by kernel_rfl) (by kernel_rfl) hE (HSub.refl _) (.cons _ (.cons _ (.cons_cons _ (List.nil_sublist _)))) ?_
      refine JL.fieldAddr fo_38_0 rfl .none rfl ?_
      refine JA.cont ?_
      refine JA.take 17 (listed' := #[true, false, true, true, true, true, true, true, false, false, true, false, true, true, true, true, true, true, false, false, false, false, false, false]) hQ rfl (by kernel_rfl) (by kernel_rfl) (by kernel_rfl) (by kernel_rfl) (by kernel_rfl) hE (HSub.refl _) (.cons _ (.cons _ (.cons_cons _ (List.nil_sublist _)))) ?_
      refine JL.loadH 0 az_3 rfl hc2976 rfl .none rfl ?_
      refine JA.cont ?_
      refine JA.many [1, 8, 11, 18] (by kernel_rfl) (by simp) (all_cons ⟨_, #[true, true, true, true, true, true, true, true, false, false, true, false, true, true, true, true, true, true, false, false, false, false, false, false], rfl, (by kernel_rfl), ?_⟩ (all_cons ⟨_, #[true, false, true, true, true, true, true, true, true, false, true, false, true, true, true, true, true, true, false, false, false, false, false, false], rfl, (by kernel_rfl), ?_⟩ (all_cons ⟨_, #[true, false, true, true, true, true, true, true, false, false, true, true, true, true, true, true, true, true, false, false, false, false, false, false], rfl, (by kernel_rfl), ?_⟩ (all_one ⟨_, #[true, false, true, true, true, true, true, true, false, false, true, false, true, true, true, true, true, true, true, false, false, false, false, false], rfl, (by kernel_rfl), ?_⟩))))
      · skip
        refine JL.loadOwn 1 az_28 rfl rfl rfl .none rfl ?_
        refine JA.after hE (HSub.refl _) (.cons _ (.cons _ (.cons_cons _ (List.nil_sublist _)))) ?_
        refine JA.many [8, 11, 18] (by kernel_rfl) (by simp) (all_cons ⟨_, #[true, true, true, true, true, true, true, true, true, false, true, false, true, true, true, true, true, true, false, false, false, false, false, false], rfl, (by kernel_rfl), ?_⟩ (all_cons ⟨_, #[true, true, true, true, true, true, true, true, false, false, true, true, true, true, true, true, true, true, false, false, false, false, false, false], rfl, (by kernel_rfl), ?_⟩ (all_one ⟨_, #[true, true, true, true, true, true, true, true, false, false, true, false, true, true, true, true, true, true, true, false, false, false, false, false], rfl, (by kernel_rfl), ?_⟩)))
        · skip
          refine JL.buildSlice (e := 3) (l := [.int .i64 y2634.High]) (by kernel_rfl) .none rfl ?_
          intro b2977
          refine JA.after hE (HSub.refl _) (.cons _ (.cons _ (.cons _ (.cons_cons _ (List.nil_sublist _))))) ?_
          exact nd2916_8 _ _ _ _ ⟨b2977, rfl, rfl, rfl, rfl, rfl, rfl, rfl, rfl, rfl, rfl, (HSub.refl _)⟩
        · skip
          refine JL.loadOwn 0 az_28 rfl rfl rfl .none rfl ?_
          refine JA.after hE (HSub.refl _) (.cons _ (.cons _ (.cons_cons _ (List.nil_sublist _)))) ?_
          exact nd2916_9 _ _ _ _ ⟨rfl, rfl, rfl, rfl, rfl, rfl, rfl, rfl, rfl, rfl, (HSub.refl _)⟩
        · skip
          refine JL.buildSlice (e := 3) (l := [.int .i64 y2644.Low]) (by kernel_rfl) .none rfl ?_
          intro b2978
          refine JA.after hE (HSub.refl _) (.cons _ (.cons _ (.cons _ (.cons_cons _ (List.nil_sublist _))))) ?_
          exact nd2916_10 _ _ _ _ ⟨b2978, rfl, rfl, rfl, rfl, rfl, rfl, rfl, rfl, rfl, rfl, (HSub.refl _)⟩
      · skip
        refine JL.buildSlice (e := 3) (l := [.int .i64 y2634.High]) (by kernel_rfl) .none rfl ?_
        intro b2979
        refine JA.after hE (HSub.refl _) (.cons _ (.cons _ (.cons _ (.cons_cons _ (List.nil_sublist _))))) ?_
        refine JA.many [1, 11, 18] (by kernel_rfl) (by simp) (all_cons ⟨_, #[true, true, true, true, true, true, true, true, true, false, true, false, true, true, true, true, true, true, false, false, false, false, false, false], rfl, (by kernel_rfl), ?_⟩ (all_cons ⟨_, #[true, false, true, true, true, true, true, true, true, false, true, true, true, true, true, true, true, true, false, false, false, false, false, false], rfl, (by kernel_rfl), ?_⟩ (all_one ⟨_, #[true, false, true, true, true, true, true, true, true, false, true, false, true, true, true, true, true, true, true, false, false, false, false, false], rfl, (by kernel_rfl), ?_⟩)))
        · skip
          refine JL.loadOwn 2 az_28 rfl rfl rfl .none rfl ?_
          refine JA.after hE (HSub.refl _) (.cons _ (.cons _ (.cons _ (.cons_cons _ (List.nil_sublist _))))) ?_
          exact nd2916_8 _ _ _ _ ⟨b2979, rfl, rfl, rfl, rfl, rfl, rfl, rfl, rfl, rfl, rfl, (HSub.refl _)⟩
        · skip
          refine JL.loadOwn 1 az_28 rfl rfl rfl .none rfl ?_
          refine JA.after hE (HSub.refl _) (.cons _ (.cons _ (.cons _ (.cons_cons _ (List.nil_sublist _))))) ?_
          exact nd2916_11 _ _ _ _ ⟨b2979, rfl, rfl, rfl, rfl, rfl, rfl, rfl, rfl, rfl, rfl, (HSub.refl _)⟩
        · skip
          refine JL.buildSlice (e := 3) (l := [.int .i64 y2644.Low]) (by kernel_rfl) .none rfl ?_
          intro b2980
          refine JA.after hE (HSub.refl _) (.cons _ (.cons _ (.cons _ (.cons _ (.cons_cons _ (List.nil_sublist _)))))) ?_
          exact nd2916_12 _ _ _ _ ⟨b2980, b2979, rfl, rfl, rfl, rfl, rfl, rfl, rfl, rfl, rfl, rfl, (HSub.refl _)⟩
      · skip
        refine JL.loadOwn 0 az_28 rfl rfl rfl .none rfl ?_
        refine JA.after hE (HSub.refl _) (.cons _ (.cons _ (.cons_cons _ (List.nil_sublist _)))) ?_
        refine JA.many [1, 8, 18] (by kernel_rfl) (by simp) (all_cons ⟨_, #[true, true, true, true, true, true, true, true, false, false, true, true, true, true, true, true, true, true, false, false, false, false, false, false], rfl, (by kernel_rfl), ?_⟩ (all_cons ⟨_, #[true, false, true, true, true, true, true, true, true, false, true, true, true, true, true, true, true, true, false, false, false, false, false, false], rfl, (by kernel_rfl), ?_⟩ (all_one ⟨_, #[true, false, true, true, true, true, true, true, false, false, true, true, true, true, true, true, true, true, true, false, false, false, false, false], rfl, (by kernel_rfl), ?_⟩)))
        · skip
          refine JL.loadOwn 1 az_28 rfl rfl rfl .none rfl ?_
          refine JA.after hE (HSub.refl _) (.cons _ (.cons _ (.cons_cons _ (List.nil_sublist _)))) ?_
          exact nd2916_9 _ _ _ _ ⟨rfl, rfl, rfl, rfl, rfl, rfl, rfl, rfl, rfl, rfl, (HSub.refl _)⟩
        · skip
          refine JL.buildSlice (e := 3) (l := [.int .i64 y2634.High]) (by kernel_rfl) .none rfl ?_
          intro b2981
          refine JA.after hE (HSub.refl _) (.cons _ (.cons _ (.cons _ (.cons_cons _ (List.nil_sublist _))))) ?_
          exact nd2916_11 _ _ _ _ ⟨b2981, rfl, rfl, rfl, rfl, rfl, rfl, rfl, rfl, rfl, rfl, (HSub.refl _)⟩
        · skip
          refine JL.buildSlice (e := 3) (l := [.int .i64 y2644.Low]) (by kernel_rfl) .none rfl ?_
          intro b2982
          refine JA.after hE (HSub.refl _) (.cons _ (.cons _ (.cons _ (.cons_cons _ (List.nil_sublist _))))) ?_
          exact nd2916_13 _ _ _ _ ⟨b2982, rfl, rfl, rfl, rfl, rfl, rfl, rfl, rfl, rfl, rfl, (HSub.refl _)⟩
      · skip
        refine JL.buildSlice (e := 3) (l := [.int .i64 y2644.Low]) (by kernel_rfl) .none rfl ?_
        intro b2983
        refine JA.after hE (HSub.refl _) (.cons _ (.cons _ (.cons _ (.cons_cons _ (List.nil_sublist _))))) ?_
        refine JA.many [1, 8, 11] (by kernel_rfl) (by simp) (all_cons ⟨_, #[true, true, true, true, true, true, true, true, false, false, true, false, true, true, true, true, true, true, true, false, false, false, false, false], rfl, (by kernel_rfl), ?_⟩ (all_cons ⟨_, #[true, false, true, true, true, true, true, true, true, false, true, false, true, true, true, true, true, true, true, false, false, false, false, false], rfl, (by kernel_rfl), ?_⟩ (all_one ⟨_, #[true, false, true, true, true, true, true, true, false, false, true, true, true, true, true, true, true, true, true, false, false, false, false, false], rfl, (by kernel_rfl), ?_⟩)))
        · skip
          refine JL.loadOwn 2 az_28 rfl rfl rfl .none rfl ?_
          refine JA.after hE (HSub.refl _) (.cons _ (.cons _ (.cons _ (.cons_cons _ (List.nil_sublist _))))) ?_
          exact nd2916_10 _ _ _ _ ⟨b2983, rfl, rfl, rfl, rfl, rfl, rfl, rfl, rfl, rfl, rfl, (HSub.refl _)⟩
        · skip
          refine JL.buildSlice (e := 3) (l := [.int .i64 y2634.High]) (by kernel_rfl) .none rfl ?_
          intro b2984
          refine JA.after hE (HSub.refl _) (.cons _ (.cons _ (.cons _ (.cons _ (.cons_cons _ (List.nil_sublist _)))))) ?_
          refine JA.perm (swapAt_perm 0 _) ?_
          exact nd2916_12 _ _ _ _ ⟨b2983, b2984, rfl, rfl, rfl, rfl, rfl, rfl, rfl, rfl, rfl, rfl, (HSub.refl _)⟩
        · skip
          refine JL.loadOwn 1 az_28 rfl rfl rfl .none rfl ?_
          refine JA.after hE (HSub.refl _) (.cons _ (.cons _ (.cons _ (.cons_cons _ (List.nil_sublist _))))) ?_
          exact nd2916_13 _ _ _ _ ⟨b2983, rfl, rfl, rfl, rfl, rfl, rfl, rfl, rfl, rfl, rfl, (HSub.refl _)⟩
    · refine JC.cond_f (b := decide (i_2622 < (d.Ribs.length : Int))) rfl hc2628 ?_
      refine JC.exit ?_
      refine JQ.exit_then ?_
      refine JQ.exit_then ?_
      refine JQ.exit_block ?_
      obtain rfl := Option.some.inj hF
      have ehr2626 := hr2626 _ rfl
      subst ehr2626
      refine JQ.mask [true, true, false] [true, true] ?_
      exact JQ.join (out_2623, out_2624) ⟨vout_2623, xsout_2623, vout_2624, xsout_2624, rfl, rfl, rfl, rfl, hout_2623, hout_2624, hs2625, rfl⟩
  · rintro ⟨out_1896, out_1897⟩ H1898 f bs gs ⟨vout_1896, xsout_1896, vout_1897, xsout_1897, hf2, hf3, rfl, rfl, hout_1896, hout_1897, hs1898, rfl⟩
    have hF := hKr1899
    try dsimp only at hF
    refine (JQ.norm (i := 2) hf2 (JQ.norm (i := 3) hf3 ?_))
    refine JQ.go ?_
    refine JC.seq ?_
    refine JC.mixed 4 4 #[false, false, false, false] [(b3, .cells [.int .i64 y4.High, vout_1897].toArray 78), (b2, .cells [.int .i64 y4.Low, vout_1896].toArray 78)] (by rfl) mo_ (by kernel_rfl) (by kernel_rfl) ?_
    intro hQ hE
    refine JA.take 0 (listed' := #[true, false, false, false]) hQ rfl (by kernel_rfl) (by kernel_rfl) (by kernel_rfl) (by kernel_rfl) (by kernel_rfl) hE (HSub.refl _) (.cons_cons _ (.cons_cons _ (List.nil_sublist _))) ?_
    refine JL.loadOwn 1 az_78 rfl rfl rfl .none rfl ?_
    refine JA.cont ?_
    refine JA.take 1 (listed' := #[true, true, false, false]) hQ rfl (by kernel_rfl) (by kernel_rfl) (by kernel_rfl) (by kernel_rfl) (by kernel_rfl) hE (HSub.refl _) (.cons_cons _ (.cons_cons _ (List.nil_sublist _))) ?_
    refine JL.loadOwn 0 az_78 rfl rfl rfl .none rfl ?_
    refine JA.cont ?_
    refine JA.many [2] (by kernel_rfl) (by simp) (all_one ⟨_, #[true, true, true, false], rfl, (by kernel_rfl), ?_⟩)
    refine JL.oneG 0 rfl (fun ho2992 => ?_)
    refine JL.storeOwn 1 (cs := [.int .i64 y4.Low, vout_1896]) az_78 rfl rfl rfl (one_cons rfl (one_cons ho2992.1 one_nil)) rfl rfl .none ?_
    refine JA.after hE (HSub.refl _) (.cons_cons _ (.cons_cons _ (List.nil_sublist _))) ?_
    refine JA.many [3] (by kernel_rfl) (by simp) (all_one ⟨_, #[true, true, true, true], rfl, (by kernel_rfl), ?_⟩)
    refine JL.oneG 1 rfl (fun ho2993 => ?_)
    refine JL.storeOwn 0 (cs := [.int .i64 y4.High, vout_1897]) az_78 rfl rfl rfl (one_cons rfl (one_cons ho2993.1 one_nil)) rfl rfl .none ?_
    refine JA.after hE (HSub.refl _) (.cons_cons _ (.cons_cons _ (List.nil_sublist _))) ?_
    refine JA.done hQ (by kernel_rfl) ?_
    refine JQ.go ?_
    refine JC.ret ?_
    refine JQ.freezeG 0 (R := RInt) rfl RInt.mono hout_1896 rfl ?_
    intro H2994 hs2994 hg2995
    refine JQ.freezeG 0 (R := RInt) rfl RInt.mono (CH.mono RInt.mono hs2994 hout_1897) rfl ?_
    intro H2996 hs2996 hg2997
    obtain rfl := Option.some.inj hF
    exact JQ.outH rfl (.cell 1 az_78 rfl rfl rfl (.cell 0 az_78 rfl rfl rfl .nil)) ⟨vout_1896, vout_1897, rfl, (SL.mono RInt.mono hs2996 hg2995), hg2997⟩

end Go.Proofs.Ytcpnnfdhafbemaa
