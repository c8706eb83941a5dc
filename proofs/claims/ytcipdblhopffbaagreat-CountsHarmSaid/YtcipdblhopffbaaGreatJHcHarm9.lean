/-
  A part of the proof of HcHarm: the texts HaGenK15, HaGenK16.
-/
import Derived.Test.YtcipdblhopffbaaGreatJHcHarm8
section
set_option maxRecDepth 100000
set_option maxHeartbeats 40000000
namespace Go.Proofs.YtcipdblhopffbaaGreat
open Go Go.RowKit Go.Dec
set_option linter.unusedVariables false
-- 99 ferrule/ferruleref05.ends
def F_ref05_ends_s1 (n : Nat) (d : Canopy) : Int × List Int × List Int → Option ((Int × List Int × List Int) ⊕ (List Int × List Int))
 | (i_2622, out_2623, out_2624) => if decide (i_2622 < (d.Ribs.length : Int)) = true then ((geti d.Ribs i_2622).bind fun y2634 => (lim (out_2623 ++ [y2634.High])).bind fun l2640 => (geti d.Ribs i_2622).bind fun y2644 => (lim (out_2624 ++ [y2644.Low])).bind fun l2650 => some (Sum.inl ((w64 (i_2622 + 1)), l2640, l2650))) else (some (Sum.inr (out_2623, out_2624)))
def F_ref05_ends (n : Nat) (d : Canopy) : Option (ref05_Truth × ref05_Truth) :=
 (F_ref05_lift n d).bind fun y4 => (loopO n (F_ref05_ends_s1 n d) (0, ([] : List Int), ([] : List Int))).bind fun r1899 => match r1899 with | (out_1896, out_1897) => some ((ref05_Truth.mk y4.Low out_1896), (ref05_Truth.mk y4.High out_1897))
theorem c_ref05_ends (n : Nat) (H : Hp) (d : Canopy) (d_v0 : Value) (hd_0 : SL H 7 R_Section d_v0 d.Frame.Sections) (d_v7 : Value) (hd_7 : SL H 2 R_Span d_v7 d.Ribs) (d_v8 : Value) (hd_8 : SL H 1 RInt d_v8 d.Shares) (y : ref05_Truth × ref05_Truth) (hF : F_ref05_ends n d = some y) : HC Tryz.prog 99 [.agg [d_v0, .int .i64 d.Frame.Low, .int .i64 d.Frame.High, .int .i64 d.Frame.Ease.Num, .int .i64 d.Frame.Ease.Den, .int .i64 d.Frame.Rod, .int .i64 d.Frame.Case, d_v7, d_v8].toArray] H (fun H' v => ∃ ra_v1 rb_v1 : Value, v = .tuple [.agg [.int .i64 y.1.Lift, ra_v1].toArray, .agg [.int .i64 y.2.Lift, rb_v1].toArray].toArray ∧ SL H' 1 RInt ra_v1 y.1.Strengths ∧ SL H' 1 RInt rb_v1 y.2.Strengths) := by
 rw [F_ref05_ends] at hF
 refine HC.of (N := 45) Tryz.func99 rfl rfl rfl fun w => ?_
 refine JC.seq (JC.region (by rfl) ?_)
 intro hQ
 refine JL.box (cs := [d_v0, .int .i64 d.Frame.Low, .int .i64 d.Frame.High, .int .i64 d.Frame.Ease.Num, .int .i64 d.Frame.Ease.Den, .int .i64 d.Frame.Rod, .int .i64 d.Frame.Case, d_v7, d_v8]) rfl .none rfl ?_
 intro b1
 refine JL.alloc ze_59 .none rfl ?_
 intro b2
 refine JL.alloc ze_59 .none rfl ?_
 intro b3
 refine JL.done hQ (JQ.go (JC.seq (JC.region (by rfl) ?_)))
 intro hQ
 refine JL.loadOwn 2 az_30 rfl rfl rfl .none rfl ?_
 obtain ⟨y4, hy4, hF⟩ := bind_some hF
 refine JL.callS (c_ref05_lift n H d d_v0 hd_0 d_v7 hd_7 d_v8 hd_8 y4 hy4) rfl en_115 .none rfl ?_
 refine JL.alloc ze_42 .none rfl ?_
 intro b5
 refine JL.storeOwn 0 (cs := [.int .i64 y4.Low, .int .i64 y4.High]) az_42 rfl rfl rfl (one_cons rfl (one_cons rfl one_nil)) rfl rfl .none ?_
 refine JL.done hQ (JQ.go (JC.seq (JC.mixed 8 8 (tf 0 8) [(b5, .cells [.int .i64 y4.Low, .int .i64 y4.High].toArray 42), (b1, .cells [d_v0, .int .i64 d.Frame.Low, .int .i64 d.Frame.High, .int .i64 d.Frame.Ease.Num, .int .i64 d.Frame.Ease.Den, .int .i64 d.Frame.Rod, .int .i64 d.Frame.Case, d_v7, d_v8].toArray 30)] (by rfl) mo_ (by kernel_rfl) (by kernel_rfl) ?_)))
 intro hQ hE
 refine JA.tk 0 (tf 1 7) hQ rfl hE (.cons_cons _ (.cons _ (.cons _ (.cons_cons _ (List.nil_sublist _))))) ?_
 refine JL.fieldAddr fo_42_0 rfl .none rfl (JA.cont ?_)
 refine JA.tk 1 (tf 2 6) hQ rfl hE (.cons_cons _ (.cons _ (.cons _ (.cons_cons _ (List.nil_sublist _))))) ?_
 refine JL.loadOwn 0 az_3 rfl rfl rfl .none rfl (JA.cont ?_)
 refine JA.tk 2 (tf 3 5) hQ rfl hE (.cons_cons _ (.cons _ (.cons _ (.cons_cons _ (List.nil_sublist _))))) ?_
 refine JL.fieldAddr fo_42_1 rfl .none rfl (JA.cont ?_)
 refine JA.tk 3 (tf 4 4) hQ rfl hE (.cons_cons _ (.cons _ (.cons _ (.cons_cons _ (List.nil_sublist _))))) ?_
 refine JL.loadOwn 0 az_3 rfl rfl rfl .none rfl (JA.cont ?_)
 refine JA.tk 4 (tf 5 3) hQ rfl hE (.cons_cons _ (.cons _ (.cons _ (.cons_cons _ (List.nil_sublist _))))) ?_
 refine JL.fieldAddr fo_59_0 rfl .none rfl (JA.cont ?_)
 refine JA.many [5] (by kernel_rfl) (by simp) (all_one ⟨_, (tf 6 2), rfl, (by kernel_rfl), ?_⟩)
 refine JL.storeOwn 2 (cs := [.int .i64 y4.Low]) az_3 rfl rfl rfl (one_cons rfl one_nil) rfl rfl .none ?_
 refine JA.after hE (HSub.refl _) (.cons_cons _ (.cons _ (.cons _ (.cons_cons _ (List.nil_sublist _))))) ?_
 refine JA.tk 6 (tf 7 1) hQ rfl hE (.cons_cons _ (.cons _ (.cons _ (.cons_cons _ (List.nil_sublist _))))) ?_
 refine JL.fieldAddr fo_59_0 rfl .none rfl (JA.cont ?_)
 refine JA.many [7] (by kernel_rfl) (by simp) (all_one ⟨_, (tf 8 0), rfl, (by kernel_rfl), ?_⟩)
 refine JL.storeOwn 1 (cs := [.int .i64 y4.High]) az_3 rfl rfl rfl (one_cons rfl one_nil) rfl rfl .none ?_
 refine JA.after hE (HSub.refl _) (.cons_cons _ (.cons _ (.cons _ (.cons_cons _ (List.nil_sublist _))))) ?_
 refine JA.done hQ (by kernel_rfl) ?_
 refine JQ.go (JC.seq (JC.seq (JC.region (by rfl) ?_)))
 intro hQ
 refine JL.assign .none rfl (JL.done hQ (JQ.go (JC.fresh (fun f => f 1 = .pointer (some ⟨b1, 0, none⟩) ∧ f 2 = .pointer (some ⟨b2, 0, none⟩) ∧ f 3 = .pointer (some ⟨b3, 0, none⟩) ∧ f 5 = .int .i64 0) ⟨rfl, rfl, rfl, rfl⟩ ?_)))
 rintro f ⟨hf1, hf2, hf3, hf5⟩
 refine (JC.norm (i := 1) hf1 (JC.norm (i := 2) hf2 (JC.norm (i := 3) hf3 (JC.norm (i := 5) hf5 ?_))))
 refine JC.newNil (e := 3) (sz := 1) ?_
 refine JC.newNil (e := 3) (sz := 1) ?_
 obtain ⟨r1899, hlr1899, hKr1899⟩ := bind_some hF
 refine JC.join (fun (x : List Int × List Int) H1898 f bs gs => match x with | (out_1896, out_1897) => ∃ (vout_1896 : Value) (xsout_1896 : List Value) (vout_1897 : Value) (xsout_1897 : List Value), f 2 = .pointer (some ⟨b2, 0, none⟩) ∧ f 3 = .pointer (some ⟨b3, 0, none⟩) ∧ bs = [(b3, .cells [.int .i64 y4.High, vout_1897].toArray 59), (b2, .cells [.int .i64 y4.Low, vout_1896].toArray 59)] ∧ gs = [⟨vout_1896, 3, 1, out_1896.length, xsout_1896⟩, ⟨vout_1897, 3, 1, out_1897.length, xsout_1897⟩] ∧ CH H1898 1 RInt xsout_1896 out_1896 ∧ CH H1898 1 RInt xsout_1897 out_1897 ∧ HSub H H1898 ∧ (out_1896, out_1897) = r1899) ?_ ?_
 ·skip
  refine JC.block (JC.mask [false, true, true, true] [true, true] ?_)
  refine JC.loop hlr1899 (fun (x : Int × List Int × List Int) H2625 f bs gs => match x with | (i_2622, out_2623, out_2624) => ∃ (vout_2623 : Value) (xsout_2623 : List Value) (vout_2624 : Value) (xsout_2624 : List Value), f 1 = .pointer (some ⟨b1, 0, none⟩) ∧ f 2 = .pointer (some ⟨b2, 0, none⟩) ∧ f 3 = .pointer (some ⟨b3, 0, none⟩) ∧ f 5 = .int .i64 i_2622 ∧ bs = [(b3, .cells [.int .i64 y4.High, vout_2624].toArray 59), (b2, .cells [.int .i64 y4.Low, vout_2623].toArray 59), (b1, .cells [d_v0, .int .i64 d.Frame.Low, .int .i64 d.Frame.High, .int .i64 d.Frame.Ease.Num, .int .i64 d.Frame.Ease.Den, .int .i64 d.Frame.Rod, .int .i64 d.Frame.Case, d_v7, d_v8].toArray 30)] ∧ gs = [⟨vout_2623, 3, 1, out_2623.length, xsout_2623⟩, ⟨vout_2624, 3, 1, out_2624.length, xsout_2624⟩] ∧ CH H2625 1 RInt xsout_2623 out_2623 ∧ CH H2625 1 RInt xsout_2624 out_2624 ∧ HSub H H2625) ⟨(.slice none 0 0), [], (.slice none 0 0), [], rfl, rfl, rfl, rfl, rfl, rfl, CH.nil, CH.nil, (HSub.refl _)⟩ ?_
  rintro ⟨i_2622, out_2623, out_2624⟩ x2627 H2625 f bs gs ⟨vout_2623, xsout_2623, vout_2624, xsout_2624, hf1, hf2, hf3, hf5, rfl, rfl, hout_2623, hout_2624, hs2625⟩ hF hr2626
  rw [F_ref05_ends_s1] at hF
  refine (JC.norm (i := 1) hf1 (JC.norm (i := 2) hf2 (JC.norm (i := 3) hf3 (JC.norm (i := 5) hf5 ?_))))
  refine JC.seq (JC.seq (JC.region (by rfl) ?_))
  intro hQ
  refine JL.move .none rfl (JL.fieldAddr fo_30_1 rfl .none rfl (JL.loadOwn 2 az_27 rfl rfl rfl .none rfl (JL.lenSL (R := R_Span) ul_27 (SL.mono R_Span_mono hs2625 hd_7) .none rfl ?_)))
  refine JL.bin rfl rfl rfl .none rfl (JL.done hQ (JQ.go ?_))
  rcases ite_some hF with ⟨hc2628, hF⟩ | ⟨hc2628, hF⟩
  ·refine JC.cond_t (b := decide (i_2622 < (d.Ribs.length : Int))) rfl hc2628 ?_
   refine JC.skip (JQ.go (JC.seq (JC.block ?_)))
   obtain ⟨y2634, hy2634, hF⟩ := bind_some hF
   obtain ⟨l2640, hl2640, hF⟩ := bind_some hF
   obtain ⟨y2644, hy2644, hF⟩ := bind_some hF
   obtain ⟨l2650, hl2650, hF⟩ := bind_some hF
   refine JC.mixed 24 24 (tf 0 24) [(b1, .cells [d_v0, .int .i64 d.Frame.Low, .int .i64 d.Frame.High, .int .i64 d.Frame.Ease.Num, .int .i64 d.Frame.Ease.Den, .int .i64 d.Frame.Rod, .int .i64 d.Frame.Case, d_v7, d_v8].toArray 30)] (by rfl) mo_ (by kernel_rfl) (by kernel_rfl) ?_
   intro hQ hE
   refine JA.cut 4 #[true, true, true, true, true, true, true, true, true, true, true, true, true, true, true, true, true, true, true, false, true, false, false, false] (fun H2917 f bs gs => ∃ (b2908 : Nat) (b2884 : Nat) (v2890 : Value) (xs2891 : List Value), f 1 = .pointer (some ⟨b1, 0, none⟩) ∧ f 2 = .pointer (some ⟨b2, 0, none⟩) ∧ f 3 = .pointer (some ⟨b3, 0, none⟩) ∧ f 5 = .int .i64 i_2622 ∧ f 30 = v2890 ∧ f 32 = vout_2624 ∧ f 39 = .slice (some ⟨b2908, 0, none⟩) 1 1 ∧ f 41 = .pointer (some ⟨b2, 1, none⟩) ∧ bs = [(b2908, .cells [.int .i64 y2644.Low].toArray 3), (b2884, .cells [.int .i64 y2634.High].toArray 3), (b3, .cells [.int .i64 y4.High, vout_2624].toArray 59), (b2, .cells [.int .i64 y4.Low, vout_2623].toArray 59), (b1, .cells [d_v0, .int .i64 d.Frame.Low, .int .i64 d.Frame.High, .int .i64 d.Frame.Ease.Num, .int .i64 d.Frame.Ease.Den, .int .i64 d.Frame.Rod, .int .i64 d.Frame.Case, d_v7, d_v8].toArray 30)] ∧ gs = [⟨v2890, 3, 1, l2640.length, xs2891⟩, ⟨vout_2624, 3, 1, out_2624.length, xsout_2624⟩] ∧ CH H2917 1 RInt xs2891 l2640 ∧ HSub H2625 H2917) ?_ ?_
   ·rintro H2917 f bs gs ⟨b2908, b2884, v2890, xs2891, hf1, hf2, hf3, hf5, hf30, hf32, hf39, hf41, rfl, rfl, hm2918, hs2917⟩
    refine (JA.norm (i := 1) hf1 (JA.norm (i := 2) hf2 (JA.norm (i := 3) hf3 (JA.norm (i := 5) hf5 (JA.norm (i := 30) hf30 (JA.norm (i := 32) hf32 (JA.norm (i := 39) hf39 (JA.norm (i := 41) hf41 ?_))))))))
    refine JA.many [19] (by kernel_rfl) (by simp) (all_one ⟨_, (tf 21 3), rfl, (by kernel_rfl), ?_⟩)
    refine JL.appO (R := RInt) 1 0 (l := out_2624) (m := [y2644.Low]) ap_28 rfl ⟨rfl, rfl⟩ rfl (CH.mono RInt.mono hs2917 hout_2624) rfl rfl rfl (CH.cons (cs := [.int .i64 y2644.Low]) rfl rfl CH.nil) rfl (one_cons rfl one_nil) hl2650 .none rfl ?_
    intro v2919 xs2920 hch2921
    refine JA.after hE hs2917 (.cons _ (.cons _ (.cons _ (.cons _ (.cons_cons _ (List.nil_sublist _)))))) ?_
    refine JA.many [21] (by kernel_rfl) (by simp) (all_one ⟨_, (tf 22 2), rfl, (by kernel_rfl), ?_⟩)
    refine JL.oneG 0 rfl (fun ho2922 => ?_)
    refine JL.storeOwn 3 (cs := [v2890]) az_28 rfl ho2922.2 rfl (one_cons ho2922.1 one_nil) rfl rfl .none ?_
    refine JA.after hE hs2917 (.cons _ (.cons _ (.cons _ (.cons _ (.cons_cons _ (List.nil_sublist _)))))) ?_
    refine JA.take 22 (listed' := (tf 23 1)) hQ rfl (by kernel_rfl) (by kernel_rfl) (by kernel_rfl) (by kernel_rfl) (by kernel_rfl) hE hs2917 (.cons _ (.cons _ (.cons _ (.cons _ (.cons_cons _ (List.nil_sublist _)))))) ?_
    refine JL.fieldAddr fo_59_1 rfl .none rfl (JA.cont ?_)
    refine JA.many [23] (by kernel_rfl) (by simp) (all_one ⟨_, (tf 24 0), rfl, (by kernel_rfl), ?_⟩)
    refine JL.oneG 1 rfl (fun ho2923 => ?_)
    refine JL.storeOwn 2 (cs := [v2919]) az_28 rfl ho2923.2 rfl (one_cons ho2923.1 one_nil) rfl rfl .none ?_
    refine JA.after hE hs2917 (.cons _ (.cons _ (.cons _ (.cons _ (.cons_cons _ (List.nil_sublist _)))))) ?_
    refine JA.done hQ (by kernel_rfl) ?_
    refine JQ.normal_block (JQ.go (JC.region (by rfl) ?_))
    intro hQ
    refine JL.move .none rfl (JL.bin rfl rfl rfl .none rfl (JL.assign .none rfl (JL.done hQ ?_)))
    obtain rfl := Option.some.inj hF
    refine JQ.mask [false, false, true, true, true] [true, true] ?_
    exact JQ.next rfl ⟨v2890, xs2891, v2919, xs2920, rfl, rfl, rfl, rfl, rfl, rfl, hm2918, hch2921, (HSub.trans hs2625 hs2917)⟩
   intro nd2916_0
   refine JA.cut 5 #[true, true, true, true, true, true, true, true, true, true, true, true, true, true, true, true, true, true, false, false, true, false, false, false] (fun H2924 f bs gs => ∃ (b2884 : Nat) (v2890 : Value) (xs2891 : List Value), f 1 = .pointer (some ⟨b1, 0, none⟩) ∧ f 2 = .pointer (some ⟨b2, 0, none⟩) ∧ f 3 = .pointer (some ⟨b3, 0, none⟩) ∧ f 5 = .int .i64 i_2622 ∧ f 30 = v2890 ∧ f 32 = vout_2624 ∧ f 38 = .int .i64 y2644.Low ∧ f 41 = .pointer (some ⟨b2, 1, none⟩) ∧ bs = [(b2884, .cells [.int .i64 y2634.High].toArray 3), (b3, .cells [.int .i64 y4.High, vout_2624].toArray 59), (b2, .cells [.int .i64 y4.Low, vout_2623].toArray 59), (b1, .cells [d_v0, .int .i64 d.Frame.Low, .int .i64 d.Frame.High, .int .i64 d.Frame.Ease.Num, .int .i64 d.Frame.Ease.Den, .int .i64 d.Frame.Rod, .int .i64 d.Frame.Case, d_v7, d_v8].toArray 30)] ∧ gs = [⟨v2890, 3, 1, l2640.length, xs2891⟩, ⟨vout_2624, 3, 1, out_2624.length, xsout_2624⟩] ∧ CH H2924 1 RInt xs2891 l2640 ∧ HSub H2625 H2924) ?_ ?_
   ·rintro H2924 f bs gs ⟨b2884, v2890, xs2891, hf1, hf2, hf3, hf5, hf30, hf32, hf38, hf41, rfl, rfl, hm2925, hs2924⟩
    refine (JA.norm (i := 1) hf1 (JA.norm (i := 2) hf2 (JA.norm (i := 3) hf3 (JA.norm (i := 5) hf5 (JA.norm (i := 30) hf30 (JA.norm (i := 32) hf32 (JA.norm (i := 38) hf38 (JA.norm (i := 41) hf41 ?_))))))))
    refine JA.many [18] (by kernel_rfl) (by simp) (all_one ⟨_, #[true, true, true, true, true, true, true, true, true, true, true, true, true, true, true, true, true, true, true, false, true, false, false, false], rfl, (by kernel_rfl), ?_⟩)
    refine JL.buildSlice (e := 3) (l := [.int .i64 y2644.Low]) (by kernel_rfl) .none rfl ?_
    intro b2926
    refine JA.after hE hs2924 (.cons _ (.cons _ (.cons _ (.cons _ (.cons_cons _ (List.nil_sublist _)))))) ?_
    exact nd2916_0 _ _ _ _ ⟨b2926, b2884, v2890, xs2891, rfl, rfl, rfl, rfl, rfl, rfl, rfl, rfl, rfl, rfl, hm2925, hs2924⟩
   intro nd2916_1
   refine JA.cut 5 #[true, true, true, true, true, true, true, true, true, true, true, false, true, true, true, true, true, true, true, false, true, false, false, false] (fun H2927 f bs gs => ∃ (b2899 : Nat) (b2884 : Nat) (v2890 : Value) (xs2891 : List Value), f 1 = .pointer (some ⟨b1, 0, none⟩) ∧ f 2 = .pointer (some ⟨b2, 0, none⟩) ∧ f 3 = .pointer (some ⟨b3, 0, none⟩) ∧ f 5 = .int .i64 i_2622 ∧ f 30 = v2890 ∧ f 31 = .pointer (some ⟨b3, 1, none⟩) ∧ f 39 = .slice (some ⟨b2899, 0, none⟩) 1 1 ∧ f 41 = .pointer (some ⟨b2, 1, none⟩) ∧ bs = [(b2899, .cells [.int .i64 y2644.Low].toArray 3), (b2884, .cells [.int .i64 y2634.High].toArray 3), (b3, .cells [.int .i64 y4.High, vout_2624].toArray 59), (b2, .cells [.int .i64 y4.Low, vout_2623].toArray 59), (b1, .cells [d_v0, .int .i64 d.Frame.Low, .int .i64 d.Frame.High, .int .i64 d.Frame.Ease.Num, .int .i64 d.Frame.Ease.Den, .int .i64 d.Frame.Rod, .int .i64 d.Frame.Case, d_v7, d_v8].toArray 30)] ∧ gs = [⟨v2890, 3, 1, l2640.length, xs2891⟩, ⟨vout_2624, 3, 1, out_2624.length, xsout_2624⟩] ∧ CH H2927 1 RInt xs2891 l2640 ∧ HSub H2625 H2927) ?_ ?_
   ·rintro H2927 f bs gs ⟨b2899, b2884, v2890, xs2891, hf1, hf2, hf3, hf5, hf30, hf31, hf39, hf41, rfl, rfl, hm2928, hs2927⟩
    refine (JA.norm (i := 1) hf1 (JA.norm (i := 2) hf2 (JA.norm (i := 3) hf3 (JA.norm (i := 5) hf5 (JA.norm (i := 30) hf30 (JA.norm (i := 31) hf31 (JA.norm (i := 39) hf39 (JA.norm (i := 41) hf41 ?_))))))))
    refine JA.many [11] (by kernel_rfl) (by simp) (all_one ⟨_, #[true, true, true, true, true, true, true, true, true, true, true, true, true, true, true, true, true, true, true, false, true, false, false, false], rfl, (by kernel_rfl), ?_⟩)
    refine JL.loadOwn 2 az_28 rfl rfl rfl .none rfl (JA.after hE hs2927 (.cons _ (.cons _ (.cons _ (.cons _ (.cons_cons _ (List.nil_sublist _)))))) ?_)
    exact nd2916_0 _ _ _ _ ⟨b2899, b2884, v2890, xs2891, rfl, rfl, rfl, rfl, rfl, rfl, rfl, rfl, rfl, rfl, hm2928, hs2927⟩
   intro nd2916_2
   refine JA.cut 6 #[true, true, true, true, true, true, true, true, true, false, true, true, true, true, true, true, true, true, true, false, false, false, false, false] (fun H2929 f bs gs => ∃ (b2903 : Nat) (b2884 : Nat), f 1 = .pointer (some ⟨b1, 0, none⟩) ∧ f 2 = .pointer (some ⟨b2, 0, none⟩) ∧ f 3 = .pointer (some ⟨b3, 0, none⟩) ∧ f 5 = .int .i64 i_2622 ∧ f 22 = vout_2623 ∧ f 29 = .slice (some ⟨b2884, 0, none⟩) 1 1 ∧ f 32 = vout_2624 ∧ f 39 = .slice (some ⟨b2903, 0, none⟩) 1 1 ∧ bs = [(b2903, .cells [.int .i64 y2644.Low].toArray 3), (b2884, .cells [.int .i64 y2634.High].toArray 3), (b3, .cells [.int .i64 y4.High, vout_2624].toArray 59), (b2, .cells [.int .i64 y4.Low, vout_2623].toArray 59), (b1, .cells [d_v0, .int .i64 d.Frame.Low, .int .i64 d.Frame.High, .int .i64 d.Frame.Ease.Num, .int .i64 d.Frame.Ease.Den, .int .i64 d.Frame.Rod, .int .i64 d.Frame.Case, d_v7, d_v8].toArray 30)] ∧ gs = [⟨vout_2623, 3, 1, out_2623.length, xsout_2623⟩, ⟨vout_2624, 3, 1, out_2624.length, xsout_2624⟩] ∧ HSub H2625 H2929) ?_ ?_
   ·rintro H2929 f bs gs ⟨b2903, b2884, hf1, hf2, hf3, hf5, hf22, hf29, hf32, hf39, rfl, rfl, hs2929⟩
    refine (JA.norm (i := 1) hf1 (JA.norm (i := 2) hf2 (JA.norm (i := 3) hf3 (JA.norm (i := 5) hf5 (JA.norm (i := 22) hf22 (JA.norm (i := 29) hf29 (JA.norm (i := 32) hf32 (JA.norm (i := 39) hf39 ?_))))))))
    refine JA.many [9] (by kernel_rfl) (by simp) (all_one ⟨_, (tf 19 5), rfl, (by kernel_rfl), ?_⟩)
    refine JL.appO (R := RInt) 0 1 (l := out_2623) (m := [y2634.High]) ap_28 rfl ⟨rfl, rfl⟩ rfl (CH.mono RInt.mono hs2929 hout_2623) rfl rfl rfl (CH.cons (cs := [.int .i64 y2634.High]) rfl rfl CH.nil) rfl (one_cons rfl one_nil) hl2640 .none rfl ?_
    intro v2930 xs2931 hch2932
    refine JA.after hE hs2929 (.cons _ (.cons _ (.cons _ (.cons _ (.cons_cons _ (List.nil_sublist _)))))) ?_
    refine JA.take 20 (listed' := #[true, true, true, true, true, true, true, true, true, true, true, true, true, true, true, true, true, true, true, false, true, false, false, false]) hQ rfl (by kernel_rfl) (by kernel_rfl) (by kernel_rfl) (by kernel_rfl) (by kernel_rfl) hE hs2929 (.cons _ (.cons _ (.cons _ (.cons _ (.cons_cons _ (List.nil_sublist _)))))) ?_
    refine JL.fieldAddr fo_59_1 rfl .none rfl (JA.cont ?_)
    exact nd2916_0 _ _ _ _ ⟨b2903, b2884, v2930, xs2931, rfl, rfl, rfl, rfl, rfl, rfl, rfl, rfl, rfl, rfl, hch2932, hs2929⟩
   intro nd2916_3
   refine JA.cut 7 #[true, true, true, true, true, true, true, true, true, false, true, true, true, true, true, true, true, true, false, false, false, false, false, false] (fun H2933 f bs gs => ∃ (b2884 : Nat), f 1 = .pointer (some ⟨b1, 0, none⟩) ∧ f 2 = .pointer (some ⟨b2, 0, none⟩) ∧ f 3 = .pointer (some ⟨b3, 0, none⟩) ∧ f 5 = .int .i64 i_2622 ∧ f 22 = vout_2623 ∧ f 29 = .slice (some ⟨b2884, 0, none⟩) 1 1 ∧ f 32 = vout_2624 ∧ f 38 = .int .i64 y2644.Low ∧ bs = [(b2884, .cells [.int .i64 y2634.High].toArray 3), (b3, .cells [.int .i64 y4.High, vout_2624].toArray 59), (b2, .cells [.int .i64 y4.Low, vout_2623].toArray 59), (b1, .cells [d_v0, .int .i64 d.Frame.Low, .int .i64 d.Frame.High, .int .i64 d.Frame.Ease.Num, .int .i64 d.Frame.Ease.Den, .int .i64 d.Frame.Rod, .int .i64 d.Frame.Case, d_v7, d_v8].toArray 30)] ∧ gs = [⟨vout_2623, 3, 1, out_2623.length, xsout_2623⟩, ⟨vout_2624, 3, 1, out_2624.length, xsout_2624⟩] ∧ HSub H2625 H2933) ?_ ?_
   ·rintro H2933 f bs gs ⟨b2884, hf1, hf2, hf3, hf5, hf22, hf29, hf32, hf38, rfl, rfl, hs2933⟩
    refine (JA.norm (i := 1) hf1 (JA.norm (i := 2) hf2 (JA.norm (i := 3) hf3 (JA.norm (i := 5) hf5 (JA.norm (i := 22) hf22 (JA.norm (i := 29) hf29 (JA.norm (i := 32) hf32 (JA.norm (i := 38) hf38 ?_))))))))
    refine JA.many [9, 18] (by kernel_rfl) (by simp) (all_cons ⟨_, (tf 18 6), rfl, (by kernel_rfl), ?_⟩ (all_one ⟨_, #[true, true, true, true, true, true, true, true, true, false, true, true, true, true, true, true, true, true, true, false, false, false, false, false], rfl, (by kernel_rfl), ?_⟩))
    ·skip
     refine JL.appO (R := RInt) 0 0 (l := out_2623) (m := [y2634.High]) ap_28 rfl ⟨rfl, rfl⟩ rfl (CH.mono RInt.mono hs2933 hout_2623) rfl rfl rfl (CH.cons (cs := [.int .i64 y2634.High]) rfl rfl CH.nil) rfl (one_cons rfl one_nil) hl2640 .none rfl ?_
     intro v2934 xs2935 hch2936
     refine JA.after hE hs2933 (.cons _ (.cons _ (.cons _ (.cons_cons _ (List.nil_sublist _))))) ?_
     refine JA.take 20 (listed' := #[true, true, true, true, true, true, true, true, true, true, true, true, true, true, true, true, true, true, false, false, true, false, false, false]) hQ rfl (by kernel_rfl) (by kernel_rfl) (by kernel_rfl) (by kernel_rfl) (by kernel_rfl) hE hs2933 (.cons _ (.cons _ (.cons _ (.cons_cons _ (List.nil_sublist _))))) ?_
     refine JL.fieldAddr fo_59_1 rfl .none rfl (JA.cont ?_)
     exact nd2916_1 _ _ _ _ ⟨b2884, v2934, xs2935, rfl, rfl, rfl, rfl, rfl, rfl, rfl, rfl, rfl, rfl, hch2936, hs2933⟩
    ·skip
     refine JL.buildSlice (e := 3) (l := [.int .i64 y2644.Low]) (by kernel_rfl) .none rfl ?_
     intro b2937
     refine JA.after hE hs2933 (.cons _ (.cons _ (.cons _ (.cons _ (.cons_cons _ (List.nil_sublist _)))))) ?_
     exact nd2916_3 _ _ _ _ ⟨b2937, b2884, rfl, rfl, rfl, rfl, rfl, rfl, rfl, rfl, rfl, rfl, hs2933⟩
   intro nd2916_4
   refine JA.cut 7 #[true, true, true, true, true, true, true, true, true, false, true, false, true, true, true, true, true, true, true, false, false, false, false, false] (fun H2938 f bs gs => ∃ (b2893 : Nat) (b2884 : Nat), f 1 = .pointer (some ⟨b1, 0, none⟩) ∧ f 2 = .pointer (some ⟨b2, 0, none⟩) ∧ f 3 = .pointer (some ⟨b3, 0, none⟩) ∧ f 5 = .int .i64 i_2622 ∧ f 22 = vout_2623 ∧ f 29 = .slice (some ⟨b2884, 0, none⟩) 1 1 ∧ f 31 = .pointer (some ⟨b3, 1, none⟩) ∧ f 39 = .slice (some ⟨b2893, 0, none⟩) 1 1 ∧ bs = [(b2893, .cells [.int .i64 y2644.Low].toArray 3), (b2884, .cells [.int .i64 y2634.High].toArray 3), (b3, .cells [.int .i64 y4.High, vout_2624].toArray 59), (b2, .cells [.int .i64 y4.Low, vout_2623].toArray 59), (b1, .cells [d_v0, .int .i64 d.Frame.Low, .int .i64 d.Frame.High, .int .i64 d.Frame.Ease.Num, .int .i64 d.Frame.Ease.Den, .int .i64 d.Frame.Rod, .int .i64 d.Frame.Case, d_v7, d_v8].toArray 30)] ∧ gs = [⟨vout_2623, 3, 1, out_2623.length, xsout_2623⟩, ⟨vout_2624, 3, 1, out_2624.length, xsout_2624⟩] ∧ HSub H2625 H2938) ?_ ?_
   ·rintro H2938 f bs gs ⟨b2893, b2884, hf1, hf2, hf3, hf5, hf22, hf29, hf31, hf39, rfl, rfl, hs2938⟩
    refine (JA.norm (i := 1) hf1 (JA.norm (i := 2) hf2 (JA.norm (i := 3) hf3 (JA.norm (i := 5) hf5 (JA.norm (i := 22) hf22 (JA.norm (i := 29) hf29 (JA.norm (i := 31) hf31 (JA.norm (i := 39) hf39 ?_))))))))
    refine JA.many [9, 11] (by kernel_rfl) (by simp) (all_cons ⟨_, #[true, true, true, true, true, true, true, true, true, true, true, false, true, true, true, true, true, true, true, false, false, false, false, false], rfl, (by kernel_rfl), ?_⟩ (all_one ⟨_, #[true, true, true, true, true, true, true, true, true, false, true, true, true, true, true, true, true, true, true, false, false, false, false, false], rfl, (by kernel_rfl), ?_⟩))
    ·skip
     refine JL.appO (R := RInt) 0 1 (l := out_2623) (m := [y2634.High]) ap_28 rfl ⟨rfl, rfl⟩ rfl (CH.mono RInt.mono hs2938 hout_2623) rfl rfl rfl (CH.cons (cs := [.int .i64 y2634.High]) rfl rfl CH.nil) rfl (one_cons rfl one_nil) hl2640 .none rfl ?_
     intro v2939 xs2940 hch2941
     refine JA.after hE hs2938 (.cons _ (.cons _ (.cons _ (.cons _ (.cons_cons _ (List.nil_sublist _)))))) ?_
     refine JA.take 20 (listed' := #[true, true, true, true, true, true, true, true, true, true, true, false, true, true, true, true, true, true, true, false, true, false, false, false]) hQ rfl (by kernel_rfl) (by kernel_rfl) (by kernel_rfl) (by kernel_rfl) (by kernel_rfl) hE hs2938 (.cons _ (.cons _ (.cons _ (.cons _ (.cons_cons _ (List.nil_sublist _)))))) ?_
     refine JL.fieldAddr fo_59_1 rfl .none rfl (JA.cont ?_)
     exact nd2916_2 _ _ _ _ ⟨b2893, b2884, v2939, xs2940, rfl, rfl, rfl, rfl, rfl, rfl, rfl, rfl, rfl, rfl, hch2941, hs2938⟩
    ·skip
     refine JL.loadOwn 2 az_28 rfl rfl rfl .none rfl (JA.after hE hs2938 (.cons _ (.cons _ (.cons _ (.cons _ (.cons_cons _ (List.nil_sublist _)))))) ?_)
     exact nd2916_3 _ _ _ _ ⟨b2893, b2884, rfl, rfl, rfl, rfl, rfl, rfl, rfl, rfl, rfl, rfl, hs2938⟩
   intro nd2916_5
   refine JA.cut 7 #[true, true, true, true, true, true, true, true, false, false, true, true, true, true, true, true, true, true, true, false, false, false, false, false] (fun H2942 f bs gs => ∃ (b2895 : Nat), f 1 = .pointer (some ⟨b1, 0, none⟩) ∧ f 2 = .pointer (some ⟨b2, 0, none⟩) ∧ f 3 = .pointer (some ⟨b3, 0, none⟩) ∧ f 5 = .int .i64 i_2622 ∧ f 22 = vout_2623 ∧ f 28 = .int .i64 y2634.High ∧ f 32 = vout_2624 ∧ f 39 = .slice (some ⟨b2895, 0, none⟩) 1 1 ∧ bs = [(b2895, .cells [.int .i64 y2644.Low].toArray 3), (b3, .cells [.int .i64 y4.High, vout_2624].toArray 59), (b2, .cells [.int .i64 y4.Low, vout_2623].toArray 59), (b1, .cells [d_v0, .int .i64 d.Frame.Low, .int .i64 d.Frame.High, .int .i64 d.Frame.Ease.Num, .int .i64 d.Frame.Ease.Den, .int .i64 d.Frame.Rod, .int .i64 d.Frame.Case, d_v7, d_v8].toArray 30)] ∧ gs = [⟨vout_2623, 3, 1, out_2623.length, xsout_2623⟩, ⟨vout_2624, 3, 1, out_2624.length, xsout_2624⟩] ∧ HSub H2625 H2942) ?_ ?_
   ·rintro H2942 f bs gs ⟨b2895, hf1, hf2, hf3, hf5, hf22, hf28, hf32, hf39, rfl, rfl, hs2942⟩
    refine (JA.norm (i := 1) hf1 (JA.norm (i := 2) hf2 (JA.norm (i := 3) hf3 (JA.norm (i := 5) hf5 (JA.norm (i := 22) hf22 (JA.norm (i := 28) hf28 (JA.norm (i := 32) hf32 (JA.norm (i := 39) hf39 ?_))))))))
    refine JA.many [8] (by kernel_rfl) (by simp) (all_one ⟨_, #[true, true, true, true, true, true, true, true, true, false, true, true, true, true, true, true, true, true, true, false, false, false, false, false], rfl, (by kernel_rfl), ?_⟩)
    refine JL.buildSlice (e := 3) (l := [.int .i64 y2634.High]) (by kernel_rfl) .none rfl ?_
    intro b2943
    refine JA.after hE hs2942 (.cons _ (.cons _ (.cons _ (.cons _ (.cons_cons _ (List.nil_sublist _)))))) ?_
    refine JA.perm (swapAt_perm 0 _) ?_
    exact nd2916_3 _ _ _ _ ⟨b2895, b2943, rfl, rfl, rfl, rfl, rfl, rfl, rfl, rfl, rfl, rfl, hs2942⟩
   intro nd2916_6
   refine JA.cut 7 #[true, false, true, true, true, true, true, true, true, false, true, true, true, true, true, true, true, true, true, false, false, false, false, false] (fun H2944 f bs gs => ∃ (b2897 : Nat) (b2882 : Nat), f 1 = .pointer (some ⟨b1, 0, none⟩) ∧ f 2 = .pointer (some ⟨b2, 0, none⟩) ∧ f 3 = .pointer (some ⟨b3, 0, none⟩) ∧ f 5 = .int .i64 i_2622 ∧ f 21 = .pointer (some ⟨b2, 1, none⟩) ∧ f 29 = .slice (some ⟨b2882, 0, none⟩) 1 1 ∧ f 32 = vout_2624 ∧ f 39 = .slice (some ⟨b2897, 0, none⟩) 1 1 ∧ bs = [(b2897, .cells [.int .i64 y2644.Low].toArray 3), (b2882, .cells [.int .i64 y2634.High].toArray 3), (b3, .cells [.int .i64 y4.High, vout_2624].toArray 59), (b2, .cells [.int .i64 y4.Low, vout_2623].toArray 59), (b1, .cells [d_v0, .int .i64 d.Frame.Low, .int .i64 d.Frame.High, .int .i64 d.Frame.Ease.Num, .int .i64 d.Frame.Ease.Den, .int .i64 d.Frame.Rod, .int .i64 d.Frame.Case, d_v7, d_v8].toArray 30)] ∧ gs = [⟨vout_2623, 3, 1, out_2623.length, xsout_2623⟩, ⟨vout_2624, 3, 1, out_2624.length, xsout_2624⟩] ∧ HSub H2625 H2944) ?_ ?_
   ·rintro H2944 f bs gs ⟨b2897, b2882, hf1, hf2, hf3, hf5, hf21, hf29, hf32, hf39, rfl, rfl, hs2944⟩
    refine (JA.norm (i := 1) hf1 (JA.norm (i := 2) hf2 (JA.norm (i := 3) hf3 (JA.norm (i := 5) hf5 (JA.norm (i := 21) hf21 (JA.norm (i := 29) hf29 (JA.norm (i := 32) hf32 (JA.norm (i := 39) hf39 ?_))))))))
    refine JA.many [1] (by kernel_rfl) (by simp) (all_one ⟨_, #[true, true, true, true, true, true, true, true, true, false, true, true, true, true, true, true, true, true, true, false, false, false, false, false], rfl, (by kernel_rfl), ?_⟩)
    refine JL.loadOwn 3 az_28 rfl rfl rfl .none rfl (JA.after hE hs2944 (.cons _ (.cons _ (.cons _ (.cons _ (.cons_cons _ (List.nil_sublist _)))))) ?_)
    exact nd2916_3 _ _ _ _ ⟨b2897, b2882, rfl, rfl, rfl, rfl, rfl, rfl, rfl, rfl, rfl, rfl, hs2944⟩
   intro nd2916_7
   refine JA.cut 8 #[true, true, true, true, true, true, true, true, true, false, true, false, true, true, true, true, true, true, false, false, false, false, false, false] (fun H2945 f bs gs => ∃ (b2884 : Nat), f 1 = .pointer (some ⟨b1, 0, none⟩) ∧ f 2 = .pointer (some ⟨b2, 0, none⟩) ∧ f 3 = .pointer (some ⟨b3, 0, none⟩) ∧ f 5 = .int .i64 i_2622 ∧ f 22 = vout_2623 ∧ f 29 = .slice (some ⟨b2884, 0, none⟩) 1 1 ∧ f 31 = .pointer (some ⟨b3, 1, none⟩) ∧ f 38 = .int .i64 y2644.Low ∧ bs = [(b2884, .cells [.int .i64 y2634.High].toArray 3), (b3, .cells [.int .i64 y4.High, vout_2624].toArray 59), (b2, .cells [.int .i64 y4.Low, vout_2623].toArray 59), (b1, .cells [d_v0, .int .i64 d.Frame.Low, .int .i64 d.Frame.High, .int .i64 d.Frame.Ease.Num, .int .i64 d.Frame.Ease.Den, .int .i64 d.Frame.Rod, .int .i64 d.Frame.Case, d_v7, d_v8].toArray 30)] ∧ gs = [⟨vout_2623, 3, 1, out_2623.length, xsout_2623⟩, ⟨vout_2624, 3, 1, out_2624.length, xsout_2624⟩] ∧ HSub H2625 H2945) ?_ ?_
   ·rintro H2945 f bs gs ⟨b2884, hf1, hf2, hf3, hf5, hf22, hf29, hf31, hf38, rfl, rfl, hs2945⟩
    refine (JA.norm (i := 1) hf1 (JA.norm (i := 2) hf2 (JA.norm (i := 3) hf3 (JA.norm (i := 5) hf5 (JA.norm (i := 22) hf22 (JA.norm (i := 29) hf29 (JA.norm (i := 31) hf31 (JA.norm (i := 38) hf38 ?_))))))))
    refine JA.many [9, 11, 18] (by kernel_rfl) (by simp) (all_cons ⟨_, #[true, true, true, true, true, true, true, true, true, true, true, false, true, true, true, true, true, true, false, false, false, false, false, false], rfl, (by kernel_rfl), ?_⟩ (all_cons ⟨_, #[true, true, true, true, true, true, true, true, true, false, true, true, true, true, true, true, true, true, false, false, false, false, false, false], rfl, (by kernel_rfl), ?_⟩ (all_one ⟨_, #[true, true, true, true, true, true, true, true, true, false, true, false, true, true, true, true, true, true, true, false, false, false, false, false], rfl, (by kernel_rfl), ?_⟩)))
    ·skip
     refine JL.appO (R := RInt) 0 0 (l := out_2623) (m := [y2634.High]) ap_28 rfl ⟨rfl, rfl⟩ rfl (CH.mono RInt.mono hs2945 hout_2623) rfl rfl rfl (CH.cons (cs := [.int .i64 y2634.High]) rfl rfl CH.nil) rfl (one_cons rfl one_nil) hl2640 .none rfl ?_
     intro v2946 xs2947 hch2948
     refine JA.after hE hs2945 (.cons _ (.cons _ (.cons _ (.cons_cons _ (List.nil_sublist _))))) ?_
     refine JA.take 20 (listed' := #[true, true, true, true, true, true, true, true, true, true, true, false, true, true, true, true, true, true, false, false, true, false, false, false]) hQ rfl (by kernel_rfl) (by kernel_rfl) (by kernel_rfl) (by kernel_rfl) (by kernel_rfl) hE hs2945 (.cons _ (.cons _ (.cons _ (.cons_cons _ (List.nil_sublist _))))) ?_
     refine JL.fieldAddr fo_59_1 rfl .none rfl (JA.cont ?_)
     refine JA.many [11, 18] (by kernel_rfl) (by simp) (all_cons ⟨_, #[true, true, true, true, true, true, true, true, true, true, true, true, true, true, true, true, true, true, false, false, true, false, false, false], rfl, (by kernel_rfl), ?_⟩ (all_one ⟨_, #[true, true, true, true, true, true, true, true, true, true, true, false, true, true, true, true, true, true, true, false, true, false, false, false], rfl, (by kernel_rfl), ?_⟩))
     ·skip
      refine JL.loadOwn 1 az_28 rfl rfl rfl .none rfl (JA.after hE hs2945 (.cons _ (.cons _ (.cons _ (.cons_cons _ (List.nil_sublist _))))) ?_)
      exact nd2916_1 _ _ _ _ ⟨b2884, v2946, xs2947, rfl, rfl, rfl, rfl, rfl, rfl, rfl, rfl, rfl, rfl, hch2948, hs2945⟩
     ·skip
      refine JL.buildSlice (e := 3) (l := [.int .i64 y2644.Low]) (by kernel_rfl) .none rfl ?_
      intro b2949
      refine JA.after hE hs2945 (.cons _ (.cons _ (.cons _ (.cons _ (.cons_cons _ (List.nil_sublist _)))))) ?_
      exact nd2916_2 _ _ _ _ ⟨b2949, b2884, v2946, xs2947, rfl, rfl, rfl, rfl, rfl, rfl, rfl, rfl, rfl, rfl, hch2948, hs2945⟩
    ·skip
     refine JL.loadOwn 1 az_28 rfl rfl rfl .none rfl (JA.after hE hs2945 (.cons _ (.cons _ (.cons _ (.cons_cons _ (List.nil_sublist _))))) ?_)
     exact nd2916_4 _ _ _ _ ⟨b2884, rfl, rfl, rfl, rfl, rfl, rfl, rfl, rfl, rfl, rfl, hs2945⟩
    ·skip
     refine JL.buildSlice (e := 3) (l := [.int .i64 y2644.Low]) (by kernel_rfl) .none rfl ?_
     intro b2950
     refine JA.after hE hs2945 (.cons _ (.cons _ (.cons _ (.cons _ (.cons_cons _ (List.nil_sublist _)))))) ?_
     exact nd2916_5 _ _ _ _ ⟨b2950, b2884, rfl, rfl, rfl, rfl, rfl, rfl, rfl, rfl, rfl, rfl, hs2945⟩
   intro nd2916_8
   refine JA.cut 8 #[true, true, true, true, true, true, true, true, false, false, true, true, true, true, true, true, true, true, false, false, false, false, false, false] (fun H2951 f bs gs => f 1 = .pointer (some ⟨b1, 0, none⟩) ∧ f 2 = .pointer (some ⟨b2, 0, none⟩) ∧ f 3 = .pointer (some ⟨b3, 0, none⟩) ∧ f 5 = .int .i64 i_2622 ∧ f 22 = vout_2623 ∧ f 28 = .int .i64 y2634.High ∧ f 32 = vout_2624 ∧ f 38 = .int .i64 y2644.Low ∧ bs = [(b3, .cells [.int .i64 y4.High, vout_2624].toArray 59), (b2, .cells [.int .i64 y4.Low, vout_2623].toArray 59), (b1, .cells [d_v0, .int .i64 d.Frame.Low, .int .i64 d.Frame.High, .int .i64 d.Frame.Ease.Num, .int .i64 d.Frame.Ease.Den, .int .i64 d.Frame.Rod, .int .i64 d.Frame.Case, d_v7, d_v8].toArray 30)] ∧ gs = [⟨vout_2623, 3, 1, out_2623.length, xsout_2623⟩, ⟨vout_2624, 3, 1, out_2624.length, xsout_2624⟩] ∧ HSub H2625 H2951) ?_ ?_
   ·rintro H2951 f bs gs ⟨hf1, hf2, hf3, hf5, hf22, hf28, hf32, hf38, rfl, rfl, hs2951⟩
    refine (JA.norm (i := 1) hf1 (JA.norm (i := 2) hf2 (JA.norm (i := 3) hf3 (JA.norm (i := 5) hf5 (JA.norm (i := 22) hf22 (JA.norm (i := 28) hf28 (JA.norm (i := 32) hf32 (JA.norm (i := 38) hf38 ?_))))))))
    refine JA.many [8, 18] (by kernel_rfl) (by simp) (all_cons ⟨_, #[true, true, true, true, true, true, true, true, true, false, true, true, true, true, true, true, true, true, false, false, false, false, false, false], rfl, (by kernel_rfl), ?_⟩ (all_one ⟨_, #[true, true, true, true, true, true, true, true, false, false, true, true, true, true, true, true, true, true, true, false, false, false, false, false], rfl, (by kernel_rfl), ?_⟩))
    ·skip
     refine JL.buildSlice (e := 3) (l := [.int .i64 y2634.High]) (by kernel_rfl) .none rfl ?_
     intro b2952
     refine JA.after hE hs2951 (.cons _ (.cons _ (.cons _ (.cons_cons _ (List.nil_sublist _))))) ?_
     exact nd2916_4 _ _ _ _ ⟨b2952, rfl, rfl, rfl, rfl, rfl, rfl, rfl, rfl, rfl, rfl, hs2951⟩
    ·skip
     refine JL.buildSlice (e := 3) (l := [.int .i64 y2644.Low]) (by kernel_rfl) .none rfl ?_
     intro b2953
     refine JA.after hE hs2951 (.cons _ (.cons _ (.cons _ (.cons_cons _ (List.nil_sublist _))))) ?_
     exact nd2916_6 _ _ _ _ ⟨b2953, rfl, rfl, rfl, rfl, rfl, rfl, rfl, rfl, rfl, rfl, hs2951⟩
   intro nd2916_9
   refine JA.cut 8 #[true, true, true, true, true, true, true, true, false, false, true, false, true, true, true, true, true, true, true, false, false, false, false, false] (fun H2954 f bs gs => ∃ (b2885 : Nat), f 1 = .pointer (some ⟨b1, 0, none⟩) ∧ f 2 = .pointer (some ⟨b2, 0, none⟩) ∧ f 3 = .pointer (some ⟨b3, 0, none⟩) ∧ f 5 = .int .i64 i_2622 ∧ f 22 = vout_2623 ∧ f 28 = .int .i64 y2634.High ∧ f 31 = .pointer (some ⟨b3, 1, none⟩) ∧ f 39 = .slice (some ⟨b2885, 0, none⟩) 1 1 ∧ bs = [(b2885, .cells [.int .i64 y2644.Low].toArray 3), (b3, .cells [.int .i64 y4.High, vout_2624].toArray 59), (b2, .cells [.int .i64 y4.Low, vout_2623].toArray 59), (b1, .cells [d_v0, .int .i64 d.Frame.Low, .int .i64 d.Frame.High, .int .i64 d.Frame.Ease.Num, .int .i64 d.Frame.Ease.Den, .int .i64 d.Frame.Rod, .int .i64 d.Frame.Case, d_v7, d_v8].toArray 30)] ∧ gs = [⟨vout_2623, 3, 1, out_2623.length, xsout_2623⟩, ⟨vout_2624, 3, 1, out_2624.length, xsout_2624⟩] ∧ HSub H2625 H2954) ?_ ?_
   ·rintro H2954 f bs gs ⟨b2885, hf1, hf2, hf3, hf5, hf22, hf28, hf31, hf39, rfl, rfl, hs2954⟩
    refine (JA.norm (i := 1) hf1 (JA.norm (i := 2) hf2 (JA.norm (i := 3) hf3 (JA.norm (i := 5) hf5 (JA.norm (i := 22) hf22 (JA.norm (i := 28) hf28 (JA.norm (i := 31) hf31 (JA.norm (i := 39) hf39 ?_))))))))
    refine JA.many [8, 11] (by kernel_rfl) (by simp) (all_cons ⟨_, #[true, true, true, true, true, true, true, true, true, false, true, false, true, true, true, true, true, true, true, false, false, false, false, false], rfl, (by kernel_rfl), ?_⟩ (all_one ⟨_, #[true, true, true, true, true, true, true, true, false, false, true, true, true, true, true, true, true, true, true, false, false, false, false, false], rfl, (by kernel_rfl), ?_⟩))
    ·skip
     refine JL.buildSlice (e := 3) (l := [.int .i64 y2634.High]) (by kernel_rfl) .none rfl ?_
     intro b2955
     refine JA.after hE hs2954 (.cons _ (.cons _ (.cons _ (.cons _ (.cons_cons _ (List.nil_sublist _)))))) ?_
     refine JA.perm (swapAt_perm 0 _) ?_
     exact nd2916_5 _ _ _ _ ⟨b2885, b2955, rfl, rfl, rfl, rfl, rfl, rfl, rfl, rfl, rfl, rfl, hs2954⟩
    ·skip
     refine JL.loadOwn 1 az_28 rfl rfl rfl .none rfl (JA.after hE hs2954 (.cons _ (.cons _ (.cons _ (.cons_cons _ (List.nil_sublist _))))) ?_)
     exact nd2916_6 _ _ _ _ ⟨b2885, rfl, rfl, rfl, rfl, rfl, rfl, rfl, rfl, rfl, rfl, hs2954⟩
   intro nd2916_10
   refine JA.cut 8 #[true, false, true, true, true, true, true, true, true, false, true, true, true, true, true, true, true, true, false, false, false, false, false, false] (fun H2956 f bs gs => ∃ (b2882 : Nat), f 1 = .pointer (some ⟨b1, 0, none⟩) ∧ f 2 = .pointer (some ⟨b2, 0, none⟩) ∧ f 3 = .pointer (some ⟨b3, 0, none⟩) ∧ f 5 = .int .i64 i_2622 ∧ f 21 = .pointer (some ⟨b2, 1, none⟩) ∧ f 29 = .slice (some ⟨b2882, 0, none⟩) 1 1 ∧ f 32 = vout_2624 ∧ f 38 = .int .i64 y2644.Low ∧ bs = [(b2882, .cells [.int .i64 y2634.High].toArray 3), (b3, .cells [.int .i64 y4.High, vout_2624].toArray 59), (b2, .cells [.int .i64 y4.Low, vout_2623].toArray 59), (b1, .cells [d_v0, .int .i64 d.Frame.Low, .int .i64 d.Frame.High, .int .i64 d.Frame.Ease.Num, .int .i64 d.Frame.Ease.Den, .int .i64 d.Frame.Rod, .int .i64 d.Frame.Case, d_v7, d_v8].toArray 30)] ∧ gs = [⟨vout_2623, 3, 1, out_2623.length, xsout_2623⟩, ⟨vout_2624, 3, 1, out_2624.length, xsout_2624⟩] ∧ HSub H2625 H2956) ?_ ?_
   ·rintro H2956 f bs gs ⟨b2882, hf1, hf2, hf3, hf5, hf21, hf29, hf32, hf38, rfl, rfl, hs2956⟩
    refine (JA.norm (i := 1) hf1 (JA.norm (i := 2) hf2 (JA.norm (i := 3) hf3 (JA.norm (i := 5) hf5 (JA.norm (i := 21) hf21 (JA.norm (i := 29) hf29 (JA.norm (i := 32) hf32 (JA.norm (i := 38) hf38 ?_))))))))
    refine JA.many [1, 18] (by kernel_rfl) (by simp) (all_cons ⟨_, #[true, true, true, true, true, true, true, true, true, false, true, true, true, true, true, true, true, true, false, false, false, false, false, false], rfl, (by kernel_rfl), ?_⟩ (all_one ⟨_, #[true, false, true, true, true, true, true, true, true, false, true, true, true, true, true, true, true, true, true, false, false, false, false, false], rfl, (by kernel_rfl), ?_⟩))
    ·skip
     refine JL.loadOwn 2 az_28 rfl rfl rfl .none rfl (JA.after hE hs2956 (.cons _ (.cons _ (.cons _ (.cons_cons _ (List.nil_sublist _))))) ?_)
     exact nd2916_4 _ _ _ _ ⟨b2882, rfl, rfl, rfl, rfl, rfl, rfl, rfl, rfl, rfl, rfl, hs2956⟩
    ·skip
     refine JL.buildSlice (e := 3) (l := [.int .i64 y2644.Low]) (by kernel_rfl) .none rfl ?_
     intro b2957
     refine JA.after hE hs2956 (.cons _ (.cons _ (.cons _ (.cons _ (.cons_cons _ (List.nil_sublist _)))))) ?_
     exact nd2916_7 _ _ _ _ ⟨b2957, b2882, rfl, rfl, rfl, rfl, rfl, rfl, rfl, rfl, rfl, rfl, hs2956⟩
   intro nd2916_11
   refine JA.cut 8 #[true, false, true, true, true, true, true, true, true, false, true, false, true, true, true, true, true, true, true, false, false, false, false, false] (fun H2958 f bs gs => ∃ (b2886 : Nat) (b2882 : Nat), f 1 = .pointer (some ⟨b1, 0, none⟩) ∧ f 2 = .pointer (some ⟨b2, 0, none⟩) ∧ f 3 = .pointer (some ⟨b3, 0, none⟩) ∧ f 5 = .int .i64 i_2622 ∧ f 21 = .pointer (some ⟨b2, 1, none⟩) ∧ f 29 = .slice (some ⟨b2882, 0, none⟩) 1 1 ∧ f 31 = .pointer (some ⟨b3, 1, none⟩) ∧ f 39 = .slice (some ⟨b2886, 0, none⟩) 1 1 ∧ bs = [(b2886, .cells [.int .i64 y2644.Low].toArray 3), (b2882, .cells [.int .i64 y2634.High].toArray 3), (b3, .cells [.int .i64 y4.High, vout_2624].toArray 59), (b2, .cells [.int .i64 y4.Low, vout_2623].toArray 59), (b1, .cells [d_v0, .int .i64 d.Frame.Low, .int .i64 d.Frame.High, .int .i64 d.Frame.Ease.Num, .int .i64 d.Frame.Ease.Den, .int .i64 d.Frame.Rod, .int .i64 d.Frame.Case, d_v7, d_v8].toArray 30)] ∧ gs = [⟨vout_2623, 3, 1, out_2623.length, xsout_2623⟩, ⟨vout_2624, 3, 1, out_2624.length, xsout_2624⟩] ∧ HSub H2625 H2958) ?_ ?_
   ·rintro H2958 f bs gs ⟨b2886, b2882, hf1, hf2, hf3, hf5, hf21, hf29, hf31, hf39, rfl, rfl, hs2958⟩
    refine (JA.norm (i := 1) hf1 (JA.norm (i := 2) hf2 (JA.norm (i := 3) hf3 (JA.norm (i := 5) hf5 (JA.norm (i := 21) hf21 (JA.norm (i := 29) hf29 (JA.norm (i := 31) hf31 (JA.norm (i := 39) hf39 ?_))))))))
    refine JA.many [1, 11] (by kernel_rfl) (by simp) (all_cons ⟨_, #[true, true, true, true, true, true, true, true, true, false, true, false, true, true, true, true, true, true, true, false, false, false, false, false], rfl, (by kernel_rfl), ?_⟩ (all_one ⟨_, #[true, false, true, true, true, true, true, true, true, false, true, true, true, true, true, true, true, true, true, false, false, false, false, false], rfl, (by kernel_rfl), ?_⟩))
    ·skip
     refine JL.loadOwn 3 az_28 rfl rfl rfl .none rfl (JA.after hE hs2958 (.cons _ (.cons _ (.cons _ (.cons _ (.cons_cons _ (List.nil_sublist _)))))) ?_)
     exact nd2916_5 _ _ _ _ ⟨b2886, b2882, rfl, rfl, rfl, rfl, rfl, rfl, rfl, rfl, rfl, rfl, hs2958⟩
    ·skip
     refine JL.loadOwn 2 az_28 rfl rfl rfl .none rfl (JA.after hE hs2958 (.cons _ (.cons _ (.cons _ (.cons _ (.cons_cons _ (List.nil_sublist _)))))) ?_)
     exact nd2916_7 _ _ _ _ ⟨b2886, b2882, rfl, rfl, rfl, rfl, rfl, rfl, rfl, rfl, rfl, rfl, hs2958⟩
   intro nd2916_12
   refine JA.cut 8 #[true, false, true, true, true, true, true, true, false, false, true, true, true, true, true, true, true, true, true, false, false, false, false, false] (fun H2959 f bs gs => ∃ (b2888 : Nat), f 1 = .pointer (some ⟨b1, 0, none⟩) ∧ f 2 = .pointer (some ⟨b2, 0, none⟩) ∧ f 3 = .pointer (some ⟨b3, 0, none⟩) ∧ f 5 = .int .i64 i_2622 ∧ f 21 = .pointer (some ⟨b2, 1, none⟩) ∧ f 28 = .int .i64 y2634.High ∧ f 32 = vout_2624 ∧ f 39 = .slice (some ⟨b2888, 0, none⟩) 1 1 ∧ bs = [(b2888, .cells [.int .i64 y2644.Low].toArray 3), (b3, .cells [.int .i64 y4.High, vout_2624].toArray 59), (b2, .cells [.int .i64 y4.Low, vout_2623].toArray 59), (b1, .cells [d_v0, .int .i64 d.Frame.Low, .int .i64 d.Frame.High, .int .i64 d.Frame.Ease.Num, .int .i64 d.Frame.Ease.Den, .int .i64 d.Frame.Rod, .int .i64 d.Frame.Case, d_v7, d_v8].toArray 30)] ∧ gs = [⟨vout_2623, 3, 1, out_2623.length, xsout_2623⟩, ⟨vout_2624, 3, 1, out_2624.length, xsout_2624⟩] ∧ HSub H2625 H2959) ?_ ?_
   ·rintro H2959 f bs gs ⟨b2888, hf1, hf2, hf3, hf5, hf21, hf28, hf32, hf39, rfl, rfl, hs2959⟩
    refine (JA.norm (i := 1) hf1 (JA.norm (i := 2) hf2 (JA.norm (i := 3) hf3 (JA.norm (i := 5) hf5 (JA.norm (i := 21) hf21 (JA.norm (i := 28) hf28 (JA.norm (i := 32) hf32 (JA.norm (i := 39) hf39 ?_))))))))
    refine JA.many [1, 8] (by kernel_rfl) (by simp) (all_cons ⟨_, #[true, true, true, true, true, true, true, true, false, false, true, true, true, true, true, true, true, true, true, false, false, false, false, false], rfl, (by kernel_rfl), ?_⟩ (all_one ⟨_, #[true, false, true, true, true, true, true, true, true, false, true, true, true, true, true, true, true, true, true, false, false, false, false, false], rfl, (by kernel_rfl), ?_⟩))
    ·skip
     refine JL.loadOwn 2 az_28 rfl rfl rfl .none rfl (JA.after hE hs2959 (.cons _ (.cons _ (.cons _ (.cons_cons _ (List.nil_sublist _))))) ?_)
     exact nd2916_6 _ _ _ _ ⟨b2888, rfl, rfl, rfl, rfl, rfl, rfl, rfl, rfl, rfl, rfl, hs2959⟩
    ·skip
     refine JL.buildSlice (e := 3) (l := [.int .i64 y2634.High]) (by kernel_rfl) .none rfl ?_
     intro b2960
     refine JA.after hE hs2959 (.cons _ (.cons _ (.cons _ (.cons _ (.cons_cons _ (List.nil_sublist _)))))) ?_
     refine JA.perm (swapAt_perm 0 _) ?_
     exact nd2916_7 _ _ _ _ ⟨b2888, b2960, rfl, rfl, rfl, rfl, rfl, rfl, rfl, rfl, rfl, rfl, hs2959⟩
   intro nd2916_13
   refine JA.tk 0 (tf 1 23) hQ rfl hE (.cons _ (.cons _ (.cons_cons _ (List.nil_sublist _)))) ?_
   refine JL.fieldAddr fo_59_1 rfl .none rfl (JA.cont ?_)
   refine JA.tk 2 #[true, false, true, false, false, false, false, false, false, false, false, false, false, false, false, false, false, false, false, false, false, false, false, false] hQ rfl hE (.cons _ (.cons _ (.cons_cons _ (List.nil_sublist _)))) ?_
   refine JL.fieldAddr fo_30_1 rfl .none rfl (JA.cont ?_)
   refine JA.tk 3 #[true, false, true, true, false, false, false, false, false, false, false, false, false, false, false, false, false, false, false, false, false, false, false, false] hQ rfl hE (.cons _ (.cons _ (.cons_cons _ (List.nil_sublist _)))) ?_
   refine JL.loadOwn 0 az_27 rfl rfl rfl .none rfl (JA.cont ?_)
   refine JA.tk 4 #[true, false, true, true, true, false, false, false, false, false, false, false, false, false, false, false, false, false, false, false, false, false, false, false] hQ rfl hE (.cons _ (.cons _ (.cons_cons _ (List.nil_sublist _)))) ?_
   refine JL.move .none rfl (JA.cont ?_)
   refine JA.tk 5 #[true, false, true, true, true, true, false, false, false, false, false, false, false, false, false, false, false, false, false, false, false, false, false, false] hQ rfl hE (.cons _ (.cons _ (.cons_cons _ (List.nil_sublist _)))) ?_
   refine JL.indexSL (R := R_Span) sl_27 (SL.mono R_Span_mono hs2625 hd_7) rfl hy2634 .none rfl ?_
   rintro b2965 o2966 cs2967 hc2968 - rfl
   refine JA.cont ?_
   refine JA.tk 6 #[true, false, true, true, true, true, true, false, false, false, false, false, false, false, false, false, false, false, false, false, false, false, false, false] hQ rfl hE (.cons _ (.cons _ (.cons_cons _ (List.nil_sublist _)))) ?_
   refine JL.fieldAddr fo_42_1 rfl .none rfl (JA.cont ?_)
   refine JA.tk 7 #[true, false, true, true, true, true, true, true, false, false, false, false, false, false, false, false, false, false, false, false, false, false, false, false] hQ rfl hE (.cons _ (.cons _ (.cons_cons _ (List.nil_sublist _)))) ?_
   refine JL.loadH 1 az_3 rfl hc2968 rfl .none rfl ?_
   refine JA.cont ?_
   refine JA.tk 10 #[true, false, true, true, true, true, true, true, false, false, true, false, false, false, false, false, false, false, false, false, false, false, false, false] hQ rfl hE (.cons _ (.cons _ (.cons_cons _ (List.nil_sublist _)))) ?_
   refine JL.fieldAddr fo_59_1 rfl .none rfl (JA.cont ?_)
   refine JA.tk 12 #[true, false, true, true, true, true, true, true, false, false, true, false, true, false, false, false, false, false, false, false, false, false, false, false] hQ rfl hE (.cons _ (.cons _ (.cons_cons _ (List.nil_sublist _)))) ?_
   refine JL.fieldAddr fo_30_1 rfl .none rfl (JA.cont ?_)
   refine JA.tk 13 #[true, false, true, true, true, true, true, true, false, false, true, false, true, true, false, false, false, false, false, false, false, false, false, false] hQ rfl hE (.cons _ (.cons _ (.cons_cons _ (List.nil_sublist _)))) ?_
   refine JL.loadOwn 0 az_27 rfl rfl rfl .none rfl (JA.cont ?_)
   refine JA.tk 14 #[true, false, true, true, true, true, true, true, false, false, true, false, true, true, true, false, false, false, false, false, false, false, false, false] hQ rfl hE (.cons _ (.cons _ (.cons_cons _ (List.nil_sublist _)))) ?_
   refine JL.move .none rfl (JA.cont ?_)
   refine JA.tk 15 #[true, false, true, true, true, true, true, true, false, false, true, false, true, true, true, true, false, false, false, false, false, false, false, false] hQ rfl hE (.cons _ (.cons _ (.cons_cons _ (List.nil_sublist _)))) ?_
   refine JL.indexSL (R := R_Span) sl_27 (SL.mono R_Span_mono hs2625 hd_7) rfl hy2644 .none rfl ?_
   rintro b2973 o2974 cs2975 hc2976 - rfl
   refine JA.cont ?_
   refine JA.tk 16 #[true, false, true, true, true, true, true, true, false, false, true, false, true, true, true, true, true, false, false, false, false, false, false, false] hQ rfl hE (.cons _ (.cons _ (.cons_cons _ (List.nil_sublist _)))) ?_
   refine JL.fieldAddr fo_42_0 rfl .none rfl (JA.cont ?_)
   refine JA.tk 17 #[true, false, true, true, true, true, true, true, false, false, true, false, true, true, true, true, true, true, false, false, false, false, false, false] hQ rfl hE (.cons _ (.cons _ (.cons_cons _ (List.nil_sublist _)))) ?_
   refine JL.loadH 0 az_3 rfl hc2976 rfl .none rfl ?_
   refine JA.cont ?_
   refine JA.many [1, 8, 11, 18] (by kernel_rfl) (by simp) (all_cons ⟨_, #[true, true, true, true, true, true, true, true, false, false, true, false, true, true, true, true, true, true, false, false, false, false, false, false], rfl, (by kernel_rfl), ?_⟩ (all_cons ⟨_, #[true, false, true, true, true, true, true, true, true, false, true, false, true, true, true, true, true, true, false, false, false, false, false, false], rfl, (by kernel_rfl), ?_⟩ (all_cons ⟨_, #[true, false, true, true, true, true, true, true, false, false, true, true, true, true, true, true, true, true, false, false, false, false, false, false], rfl, (by kernel_rfl), ?_⟩ (all_one ⟨_, #[true, false, true, true, true, true, true, true, false, false, true, false, true, true, true, true, true, true, true, false, false, false, false, false], rfl, (by kernel_rfl), ?_⟩))))
   ·skip
    refine JL.loadOwn 1 az_28 rfl rfl rfl .none rfl (JA.after hE (HSub.refl _) (.cons _ (.cons _ (.cons_cons _ (List.nil_sublist _)))) ?_)
    refine JA.many [8, 11, 18] (by kernel_rfl) (by simp) (all_cons ⟨_, #[true, true, true, true, true, true, true, true, true, false, true, false, true, true, true, true, true, true, false, false, false, false, false, false], rfl, (by kernel_rfl), ?_⟩ (all_cons ⟨_, #[true, true, true, true, true, true, true, true, false, false, true, true, true, true, true, true, true, true, false, false, false, false, false, false], rfl, (by kernel_rfl), ?_⟩ (all_one ⟨_, #[true, true, true, true, true, true, true, true, false, false, true, false, true, true, true, true, true, true, true, false, false, false, false, false], rfl, (by kernel_rfl), ?_⟩)))
    ·skip
     refine JL.buildSlice (e := 3) (l := [.int .i64 y2634.High]) (by kernel_rfl) .none rfl ?_
     intro b2977
     refine JA.after hE (HSub.refl _) (.cons _ (.cons _ (.cons _ (.cons_cons _ (List.nil_sublist _))))) ?_
     exact nd2916_8 _ _ _ _ ⟨b2977, rfl, rfl, rfl, rfl, rfl, rfl, rfl, rfl, rfl, rfl, (HSub.refl _)⟩
    ·skip
     refine JL.loadOwn 0 az_28 rfl rfl rfl .none rfl (JA.after hE (HSub.refl _) (.cons _ (.cons _ (.cons_cons _ (List.nil_sublist _)))) ?_)
     exact nd2916_9 _ _ _ _ ⟨rfl, rfl, rfl, rfl, rfl, rfl, rfl, rfl, rfl, rfl, (HSub.refl _)⟩
    ·skip
     refine JL.buildSlice (e := 3) (l := [.int .i64 y2644.Low]) (by kernel_rfl) .none rfl ?_
     intro b2978
     refine JA.after hE (HSub.refl _) (.cons _ (.cons _ (.cons _ (.cons_cons _ (List.nil_sublist _))))) ?_
     exact nd2916_10 _ _ _ _ ⟨b2978, rfl, rfl, rfl, rfl, rfl, rfl, rfl, rfl, rfl, rfl, (HSub.refl _)⟩
   ·skip
    refine JL.buildSlice (e := 3) (l := [.int .i64 y2634.High]) (by kernel_rfl) .none rfl ?_
    intro b2979
    refine JA.after hE (HSub.refl _) (.cons _ (.cons _ (.cons _ (.cons_cons _ (List.nil_sublist _))))) ?_
    refine JA.many [1, 11, 18] (by kernel_rfl) (by simp) (all_cons ⟨_, #[true, true, true, true, true, true, true, true, true, false, true, false, true, true, true, true, true, true, false, false, false, false, false, false], rfl, (by kernel_rfl), ?_⟩ (all_cons ⟨_, #[true, false, true, true, true, true, true, true, true, false, true, true, true, true, true, true, true, true, false, false, false, false, false, false], rfl, (by kernel_rfl), ?_⟩ (all_one ⟨_, #[true, false, true, true, true, true, true, true, true, false, true, false, true, true, true, true, true, true, true, false, false, false, false, false], rfl, (by kernel_rfl), ?_⟩)))
    ·skip
     refine JL.loadOwn 2 az_28 rfl rfl rfl .none rfl (JA.after hE (HSub.refl _) (.cons _ (.cons _ (.cons _ (.cons_cons _ (List.nil_sublist _))))) ?_)
     exact nd2916_8 _ _ _ _ ⟨b2979, rfl, rfl, rfl, rfl, rfl, rfl, rfl, rfl, rfl, rfl, (HSub.refl _)⟩
    ·skip
     refine JL.loadOwn 1 az_28 rfl rfl rfl .none rfl (JA.after hE (HSub.refl _) (.cons _ (.cons _ (.cons _ (.cons_cons _ (List.nil_sublist _))))) ?_)
     exact nd2916_11 _ _ _ _ ⟨b2979, rfl, rfl, rfl, rfl, rfl, rfl, rfl, rfl, rfl, rfl, (HSub.refl _)⟩
    ·skip
     refine JL.buildSlice (e := 3) (l := [.int .i64 y2644.Low]) (by kernel_rfl) .none rfl ?_
     intro b2980
     refine JA.after hE (HSub.refl _) (.cons _ (.cons _ (.cons _ (.cons _ (.cons_cons _ (List.nil_sublist _)))))) ?_
     exact nd2916_12 _ _ _ _ ⟨b2980, b2979, rfl, rfl, rfl, rfl, rfl, rfl, rfl, rfl, rfl, rfl, (HSub.refl _)⟩
   ·skip
    refine JL.loadOwn 0 az_28 rfl rfl rfl .none rfl (JA.after hE (HSub.refl _) (.cons _ (.cons _ (.cons_cons _ (List.nil_sublist _)))) ?_)
    refine JA.many [1, 8, 18] (by kernel_rfl) (by simp) (all_cons ⟨_, #[true, true, true, true, true, true, true, true, false, false, true, true, true, true, true, true, true, true, false, false, false, false, false, false], rfl, (by kernel_rfl), ?_⟩ (all_cons ⟨_, #[true, false, true, true, true, true, true, true, true, false, true, true, true, true, true, true, true, true, false, false, false, false, false, false], rfl, (by kernel_rfl), ?_⟩ (all_one ⟨_, #[true, false, true, true, true, true, true, true, false, false, true, true, true, true, true, true, true, true, true, false, false, false, false, false], rfl, (by kernel_rfl), ?_⟩)))
    ·skip
     refine JL.loadOwn 1 az_28 rfl rfl rfl .none rfl (JA.after hE (HSub.refl _) (.cons _ (.cons _ (.cons_cons _ (List.nil_sublist _)))) ?_)
     exact nd2916_9 _ _ _ _ ⟨rfl, rfl, rfl, rfl, rfl, rfl, rfl, rfl, rfl, rfl, (HSub.refl _)⟩
    ·skip
     refine JL.buildSlice (e := 3) (l := [.int .i64 y2634.High]) (by kernel_rfl) .none rfl ?_
     intro b2981
     refine JA.after hE (HSub.refl _) (.cons _ (.cons _ (.cons _ (.cons_cons _ (List.nil_sublist _))))) ?_
     exact nd2916_11 _ _ _ _ ⟨b2981, rfl, rfl, rfl, rfl, rfl, rfl, rfl, rfl, rfl, rfl, (HSub.refl _)⟩
    ·skip
     refine JL.buildSlice (e := 3) (l := [.int .i64 y2644.Low]) (by kernel_rfl) .none rfl ?_
     intro b2982
     refine JA.after hE (HSub.refl _) (.cons _ (.cons _ (.cons _ (.cons_cons _ (List.nil_sublist _))))) ?_
     exact nd2916_13 _ _ _ _ ⟨b2982, rfl, rfl, rfl, rfl, rfl, rfl, rfl, rfl, rfl, rfl, (HSub.refl _)⟩
   ·skip
    refine JL.buildSlice (e := 3) (l := [.int .i64 y2644.Low]) (by kernel_rfl) .none rfl ?_
    intro b2983
    refine JA.after hE (HSub.refl _) (.cons _ (.cons _ (.cons _ (.cons_cons _ (List.nil_sublist _))))) ?_
    refine JA.many [1, 8, 11] (by kernel_rfl) (by simp) (all_cons ⟨_, #[true, true, true, true, true, true, true, true, false, false, true, false, true, true, true, true, true, true, true, false, false, false, false, false], rfl, (by kernel_rfl), ?_⟩ (all_cons ⟨_, #[true, false, true, true, true, true, true, true, true, false, true, false, true, true, true, true, true, true, true, false, false, false, false, false], rfl, (by kernel_rfl), ?_⟩ (all_one ⟨_, #[true, false, true, true, true, true, true, true, false, false, true, true, true, true, true, true, true, true, true, false, false, false, false, false], rfl, (by kernel_rfl), ?_⟩)))
    ·skip
     refine JL.loadOwn 2 az_28 rfl rfl rfl .none rfl (JA.after hE (HSub.refl _) (.cons _ (.cons _ (.cons _ (.cons_cons _ (List.nil_sublist _))))) ?_)
     exact nd2916_10 _ _ _ _ ⟨b2983, rfl, rfl, rfl, rfl, rfl, rfl, rfl, rfl, rfl, rfl, (HSub.refl _)⟩
    ·skip
     refine JL.buildSlice (e := 3) (l := [.int .i64 y2634.High]) (by kernel_rfl) .none rfl ?_
     intro b2984
     refine JA.after hE (HSub.refl _) (.cons _ (.cons _ (.cons _ (.cons _ (.cons_cons _ (List.nil_sublist _)))))) ?_
     refine JA.perm (swapAt_perm 0 _) ?_
     exact nd2916_12 _ _ _ _ ⟨b2983, b2984, rfl, rfl, rfl, rfl, rfl, rfl, rfl, rfl, rfl, rfl, (HSub.refl _)⟩
    ·skip
     refine JL.loadOwn 1 az_28 rfl rfl rfl .none rfl (JA.after hE (HSub.refl _) (.cons _ (.cons _ (.cons _ (.cons_cons _ (List.nil_sublist _))))) ?_)
     exact nd2916_13 _ _ _ _ ⟨b2983, rfl, rfl, rfl, rfl, rfl, rfl, rfl, rfl, rfl, rfl, (HSub.refl _)⟩
  ·refine JC.cond_f (b := decide (i_2622 < (d.Ribs.length : Int))) rfl hc2628 ?_
   refine JC.exit (JQ.exit_then (JQ.exit_then (JQ.exit_block ?_)))
   obtain rfl := Option.some.inj hF
   have ehr2626 := hr2626 _ rfl
   subst ehr2626
   refine JQ.mask [true, true, false] [true, true] ?_
   exact JQ.join (out_2623, out_2624) ⟨vout_2623, xsout_2623, vout_2624, xsout_2624, rfl, rfl, rfl, rfl, hout_2623, hout_2624, hs2625, rfl⟩
 ·rintro ⟨out_1896, out_1897⟩ H1898 f bs gs ⟨vout_1896, xsout_1896, vout_1897, xsout_1897, hf2, hf3, rfl, rfl, hout_1896, hout_1897, hs1898, rfl⟩
  have hF := hKr1899
  try dsimp only at hF
  refine (JQ.norm (i := 2) hf2 (JQ.norm (i := 3) hf3 ?_))
  refine JQ.go (JC.seq (JC.mixed 4 4 (tf 0 4) [(b3, .cells [.int .i64 y4.High, vout_1897].toArray 59), (b2, .cells [.int .i64 y4.Low, vout_1896].toArray 59)] (by rfl) mo_ (by kernel_rfl) (by kernel_rfl) ?_))
  intro hQ hE
  refine JA.tk 0 (tf 1 3) hQ rfl hE (.cons_cons _ (.cons_cons _ (List.nil_sublist _))) ?_
  refine JL.loadOwn 1 az_59 rfl rfl rfl .none rfl (JA.cont ?_)
  refine JA.tk 1 (tf 2 2) hQ rfl hE (.cons_cons _ (.cons_cons _ (List.nil_sublist _))) ?_
  refine JL.loadOwn 0 az_59 rfl rfl rfl .none rfl (JA.cont ?_)
  refine JA.many [2] (by kernel_rfl) (by simp) (all_one ⟨_, (tf 3 1), rfl, (by kernel_rfl), ?_⟩)
  refine JL.oneG 0 rfl (fun ho2992 => ?_)
  refine JL.storeOwn 1 (cs := [.int .i64 y4.Low, vout_1896]) az_59 rfl rfl rfl (one_cons rfl (one_cons ho2992.1 one_nil)) rfl rfl .none ?_
  refine JA.after hE (HSub.refl _) (.cons_cons _ (.cons_cons _ (List.nil_sublist _))) ?_
  refine JA.many [3] (by kernel_rfl) (by simp) (all_one ⟨_, (tf 4 0), rfl, (by kernel_rfl), ?_⟩)
  refine JL.oneG 1 rfl (fun ho2993 => ?_)
  refine JL.storeOwn 0 (cs := [.int .i64 y4.High, vout_1897]) az_59 rfl rfl rfl (one_cons rfl (one_cons ho2993.1 one_nil)) rfl rfl .none ?_
  refine JA.after hE (HSub.refl _) (.cons_cons _ (.cons_cons _ (List.nil_sublist _))) ?_
  refine JA.done hQ (by kernel_rfl) ?_
  refine JQ.go (JC.ret (JQ.freezeG 0 (R := RInt) rfl RInt.mono hout_1896 rfl ?_))
  intro H2994 hs2994 hg2995
  refine JQ.freezeG 0 (R := RInt) rfl RInt.mono (CH.mono RInt.mono hs2994 hout_1897) rfl ?_
  intro H2996 hs2996 hg2997
  obtain rfl := Option.some.inj hF
  exact JQ.outH rfl (.cell 1 az_59 rfl rfl rfl (.cell 0 az_59 rfl rfl rfl .nil)) ⟨vout_1896, vout_1897, rfl, (SL.mono RInt.mono hs2996 hg2995), hg2997⟩
end Go.Proofs.YtcipdblhopffbaaGreat
end
section
set_option maxRecDepth 100000
set_option maxHeartbeats 40000000
namespace Go.Proofs.YtcipdblhopffbaaGreat
open Go Go.RowKit Go.Dec
set_option linter.unusedVariables false
-- 82 ferrule/ferruleref05.Load
def F_ref05_Load (n : Nat) (d : Canopy) (g : Gust) (lift : Int) (rib : Int) : Option Int :=
 (nz (d.Ribs.length : Int)).bind fun _ => (geti d.Shares ((w64 ((w64 (rib - g.At)) + (d.Ribs.length : Int))).tmod (d.Ribs.length : Int))).bind fun y10 => some (w64 ((w64 ((w64 (g.Force * lift)) * y10)).tdiv 100))
theorem c_ref05_Load (n : Nat) (H : Hp) (d : Canopy) (d_v0 : Value) (hd_0 : SL H 7 R_Section d_v0 d.Frame.Sections) (d_v7 : Value) (hd_7 : SL H 2 R_Span d_v7 d.Ribs) (d_v8 : Value) (hd_8 : SL H 1 RInt d_v8 d.Shares) (g : Gust) (lift : Int) (rib : Int) (y : Int) (hF : F_ref05_Load n d g lift rib = some y) : SC Tryz.prog 82 [.agg [d_v0, .int .i64 d.Frame.Low, .int .i64 d.Frame.High, .int .i64 d.Frame.Ease.Num, .int .i64 d.Frame.Ease.Den, .int .i64 d.Frame.Rod, .int .i64 d.Frame.Case, d_v7, d_v8].toArray, .agg [.int .i64 g.Force, .int .i64 g.At].toArray, .int .i64 lift, .int .i64 rib] (.int .i64 y) H := by
 rw [F_ref05_Load] at hF
 refine SC.of (N := 31) Tryz.func82 rfl rfl rfl fun w => ?_
 refine JC.seq (JC.region (by rfl) ?_)
 intro hQ
 refine JL.box (cs := [d_v0, .int .i64 d.Frame.Low, .int .i64 d.Frame.High, .int .i64 d.Frame.Ease.Num, .int .i64 d.Frame.Ease.Den, .int .i64 d.Frame.Rod, .int .i64 d.Frame.Case, d_v7, d_v8]) rfl .none rfl ?_
 intro b1
 refine JL.box (cs := [.int .i64 g.Force, .int .i64 g.At]) rfl .none rfl ?_
 intro b2
 refine JL.assign .none rfl (JL.done hQ (JQ.go (JC.seq (JC.region (by rfl) ?_))))
 intro hQ
 refine JL.fieldAddr fo_30_1 rfl .none rfl (JL.loadOwn 1 az_27 rfl rfl rfl .none rfl (JL.lenSL (R := R_Span) ul_27 hd_7 .none rfl ?_))
 refine JL.assign .none rfl (JL.done hQ (JQ.go (JC.seq (JC.draw (by rfl) mo_ (by kernel_rfl) ?_))))
 intro hQ
 refine JL.fieldAddr fo_64_0 rfl .none rfl (JL.loadOwn 0 az_3 rfl rfl rfl .none rfl (JL.move .none rfl (JL.bin rfl rfl rfl .none rfl (JL.fieldAddr fo_30_2 rfl .none rfl (JL.loadOwn 1 az_28 rfl rfl rfl .none rfl (JL.move .none rfl (JL.fieldAddr fo_64_1 rfl .none rfl (JL.loadOwn 0 az_3 rfl rfl rfl .none rfl (JL.bin rfl rfl rfl .none rfl (JL.move .none rfl (JL.bin rfl rfl rfl .none rfl (JL.move .none rfl ?_))))))))))))
 obtain ⟨u9, hu9, hF⟩ := bind_some hF
 refine JL.div rfl rfl (nz_some hu9) rfl .none rfl ?_
 obtain ⟨y10, hy10, hF⟩ := bind_some hF
 refine JL.indexSL (R := RInt) sl_28 hd_8 rfl hy10 .none rfl ?_
 rintro b11 o12 cs13 hc14 - rfl
 refine JL.loadH 0 az_3 rfl hc14 rfl .none rfl ?_
 refine JL.bin rfl rfl rfl .none rfl (JL.div rfl rfl (by decide) rfl .none rfl ?_)
 refine JL.assign .none rfl (JL.doneQ hQ ?_)
 refine JQ.go (JC.fresh (fun f => f 8 = .int .i64 (w64 ((w64 ((w64 (g.Force * lift)) * y10)).tdiv 100))) rfl ?_)
 rintro f hf8
 refine (JC.norm (i := 8) hf8 ?_)
 refine JC.ret ?_
 obtain rfl := Option.some.inj hF
 exact JQ.outS rfl (.tmp .nil) rfl
-- 83 ferrule/ferruleref05.side
def F_ref05_side_s1 (n : Nat) (loads : List Int) (gone : List Bool) (rib : Int) (step : Int) : Int × Int → Option ((Int × Int) ⊕ (Int ⊕ Int))
 | (sum_91, k_92) => if decide (k_92 < (loads.length : Int)) = true then ((nz (loads.length : Int)).bind fun _ => (nz (loads.length : Int)).bind fun _ => (geti gone ((w64 (((w64 (rib + (w64 (k_92 * step)))).tmod (loads.length : Int)) + (loads.length : Int))).tmod (loads.length : Int))).bind fun y99 => if (!y99) = true then (some (Sum.inr (Sum.inl sum_91))) else ((geti loads ((w64 (((w64 (rib + (w64 (k_92 * step)))).tmod (loads.length : Int)) + (loads.length : Int))).tmod (loads.length : Int))).bind fun y105 => some (Sum.inl ((w64 (sum_91 + y105)), (w64 (k_92 + 1)))))) else (some (Sum.inr (Sum.inr sum_91)))
def F_ref05_side (n : Nat) (loads : List Int) (gone : List Bool) (rib : Int) (step : Int) : Option Int :=
 (loopO n (F_ref05_side_s1 n loads gone rib step) (0, 1)).bind fun r56 => match r56 with | .inl o => some o | .inr sum_54 => some sum_54
theorem c_ref05_side (n : Nat) (H : Hp) (loads : List Int) (loads_v0 : Value) (hloads_0 : SL H 1 RInt loads_v0 loads) (gone : List Bool) (gone_v0 : Value) (hgone_0 : SL H 1 RBool gone_v0 gone) (rib : Int) (step : Int) (y : Int) (hF : F_ref05_side n loads gone rib step = some y) : SC Tryz.prog 83 [loads_v0, gone_v0, .int .i64 rib, .int .i64 step] (.int .i64 y) H := by
 rw [F_ref05_side] at hF
 refine SC.of (N := 44) Tryz.func83 rfl rfl rfl fun w => ?_
 refine JC.seq (JC.region (by rfl) ?_)
 intro hQ
 refine JL.assign .none rfl (JL.done hQ (JQ.go (JC.seq (JC.region (by rfl) ?_))))
 intro hQ
 refine JL.move .none rfl (JL.lenSL (R := RInt) ul_28 hloads_0 .none rfl ?_)
 refine JL.assign .none rfl (JL.done hQ (JQ.go (JC.seq (JC.region (by rfl) ?_))))
 intro hQ
 refine JL.assign .none rfl (JL.done hQ (JQ.go (JC.seq (JC.seq (JC.region (by rfl) ?_)))))
 intro hQ
 refine JL.assign .none rfl (JL.done hQ (JQ.go ?_))
 obtain ⟨r56, hlr56, hKr56⟩ := bind_some hF
 refine JC.join (fun (sum_54 : Int) H55 f bs gs => f 10 = .int .i64 sum_54 ∧ bs = [] ∧ gs = [] ∧ HSub H H55 ∧ Sum.inr sum_54 = r56) ?_ ?_
 ·skip
  refine JC.block (JC.loop hlr56 (fun (x : Int × Int) H93 f bs gs => match x with | (sum_91, k_92) => f 0 = loads_v0 ∧ f 1 = gone_v0 ∧ f 2 = .int .i64 rib ∧ f 3 = .int .i64 step ∧ f 9 = .int .i64 (loads.length : Int) ∧ f 10 = .int .i64 sum_91 ∧ f 11 = .int .i64 k_92 ∧ bs = [] ∧ gs = [] ∧ HSub H H93) ⟨rfl, rfl, rfl, rfl, rfl, rfl, rfl, rfl, rfl, (HSub.refl _)⟩ ?_)
  rintro ⟨sum_91, k_92⟩ x95 H93 f bs gs ⟨hf0, hf1, hf2, hf3, hf9, hf10, hf11, rfl, rfl, hs93⟩ hF hr94
  rw [F_ref05_side_s1] at hF
  refine (JC.norm (i := 0) hf0 (JC.norm (i := 1) hf1 (JC.norm (i := 2) hf2 (JC.norm (i := 3) hf3 (JC.norm (i := 9) hf9 (JC.norm (i := 10) hf10 (JC.norm (i := 11) hf11 ?_)))))))
  refine JC.seq (JC.seq (JC.region (by rfl) ?_))
  intro hQ
  refine JL.move .none rfl (JL.move .none rfl (JL.bin rfl rfl rfl .none rfl (JL.done hQ (JQ.go ?_))))
  rcases ite_some hF with ⟨hc96, hF⟩ | ⟨hc96, hF⟩
  ·refine JC.cond_t (b := decide (k_92 < (loads.length : Int))) rfl hc96 ?_
   refine JC.skip (JQ.go (JC.seq (JC.block (JC.seq (JC.region (by rfl) ?_)))))
   intro hQ
   refine JL.move .none rfl (JL.move .none rfl (JL.move .none rfl (JL.bin rfl rfl rfl .none rfl (JL.bin rfl rfl rfl .none rfl (JL.move .none rfl ?_)))))
   obtain ⟨u97, hu97, hF⟩ := bind_some hF
   refine JL.div rfl rfl (nz_some hu97) rfl .none rfl ?_
   refine JL.move .none rfl (JL.bin rfl rfl rfl .none rfl (JL.move .none rfl ?_))
   obtain ⟨u98, hu98, hF⟩ := bind_some hF
   refine JL.div rfl rfl (nz_some hu98) rfl .none rfl ?_
   refine JL.assign .none rfl (JL.done hQ (JQ.go (JC.fresh (fun f => f 0 = loads_v0 ∧ f 1 = gone_v0 ∧ f 2 = .int .i64 rib ∧ f 3 = .int .i64 step ∧ f 9 = .int .i64 (loads.length : Int) ∧ f 10 = .int .i64 sum_91 ∧ f 11 = .int .i64 k_92 ∧ f 12 = .int .i64 ((w64 (((w64 (rib + (w64 (k_92 * step)))).tmod (loads.length : Int)) + (loads.length : Int))).tmod (loads.length : Int))) ⟨rfl, rfl, rfl, rfl, rfl, rfl, rfl, rfl⟩ ?_)))
   rintro f ⟨hf0, hf1, hf2, hf3, hf9, hf10, hf11, hf12⟩
   refine (JC.norm (i := 0) hf0 (JC.norm (i := 1) hf1 (JC.norm (i := 2) hf2 (JC.norm (i := 3) hf3 (JC.norm (i := 9) hf9 (JC.norm (i := 10) hf10 (JC.norm (i := 11) hf11 (JC.norm (i := 12) hf12 ?_))))))))
   refine JC.seq (JC.seq (JC.region (by rfl) ?_))
   intro hQ
   refine JL.move .none rfl (JL.move .none rfl ?_)
   obtain ⟨y99, hy99, hF⟩ := bind_some hF
   refine JL.indexSL (R := RBool) sl_126 (SL.mono RBool.mono hs93 hgone_0) rfl hy99 .none rfl ?_
   rintro b100 o101 cs102 hc103 - rfl
   refine JL.loadH 0 az_4 rfl hc103 rfl .none rfl ?_
   refine JL.not rfl .none rfl (JL.done hQ (JQ.go ?_))
   rcases ite_some hF with ⟨hc104, hF⟩ | ⟨hc104, hF⟩
   ·refine JC.cond_t (b := (!y99)) rfl hc104 ?_
    refine JC.seq (JC.region (by rfl) ?_)
    intro hQ
    refine JL.move .none rfl (JL.assign .none rfl (JL.done hQ (JQ.go (JC.fresh (fun f => f 8 = .int .i64 sum_91) rfl ?_))))
    rintro f hf8
    refine (JC.norm (i := 8) hf8 ?_)
    refine JC.ret (JQ.ret_then (JQ.ret_block (JQ.ret_then (JQ.ret_then (JQ.ret_block (JQ.ret_join (JQ.ret_then ?_)))))))
    obtain rfl := Option.some.inj hF
    have ehr94 := hr94 _ rfl
    subst ehr94
    have hF := hKr56
    try dsimp only at hF
    obtain rfl := Option.some.inj hF
    exact JQ.outS rfl (.tmp .nil) rfl
   ·refine JC.cond_f (b := (!y99)) rfl hc104 ?_
    refine JC.skip (JQ.go (JC.region (by rfl) ?_))
    intro hQ
    refine JL.move .none rfl (JL.move .none rfl (JL.move .none rfl ?_))
    obtain ⟨y105, hy105, hF⟩ := bind_some hF
    refine JL.indexSL (R := RInt) sl_28 (SL.mono RInt.mono hs93 hloads_0) rfl hy105 .none rfl ?_
    rintro b106 o107 cs108 hc109 - rfl
    refine JL.loadH 0 az_3 rfl hc109 rfl .none rfl ?_
    refine JL.bin rfl rfl rfl .none rfl (JL.assign .none rfl (JL.done hQ (JQ.normal_block (JQ.go (JC.fresh (fun f => f 0 = loads_v0 ∧ f 1 = gone_v0 ∧ f 2 = .int .i64 rib ∧ f 3 = .int .i64 step ∧ f 9 = .int .i64 (loads.length : Int) ∧ f 10 = .int .i64 (w64 (sum_91 + y105)) ∧ f 11 = .int .i64 k_92) ⟨rfl, rfl, rfl, rfl, rfl, rfl, rfl⟩ ?_)))))
    rintro f ⟨hf0, hf1, hf2, hf3, hf9, hf10, hf11⟩
    refine (JC.norm (i := 0) hf0 (JC.norm (i := 1) hf1 (JC.norm (i := 2) hf2 (JC.norm (i := 3) hf3 (JC.norm (i := 9) hf9 (JC.norm (i := 10) hf10 (JC.norm (i := 11) hf11 ?_)))))))
    refine JC.region (by rfl) ?_
    intro hQ
    refine JL.move .none rfl (JL.bin rfl rfl rfl .none rfl (JL.assign .none rfl (JL.done hQ ?_)))
    obtain rfl := Option.some.inj hF
    exact JQ.next rfl ⟨rfl, rfl, rfl, rfl, rfl, rfl, rfl, rfl, rfl, hs93⟩
  ·refine JC.cond_f (b := decide (k_92 < (loads.length : Int))) rfl hc96 ?_
   refine JC.exit (JQ.exit_then (JQ.exit_then (JQ.exit_block ?_)))
   obtain rfl := Option.some.inj hF
   have ehr94 := hr94 _ rfl
   subst ehr94
   exact JQ.join sum_91 ⟨rfl, rfl, rfl, hs93, rfl⟩
 ·rintro sum_54 H55 f bs gs ⟨hf10, rfl, rfl, hs55, rfl⟩
  have hF := hKr56
  try dsimp only at hF
  refine (JQ.norm (i := 10) hf10 ?_)
  refine JQ.go (JC.seq (JC.region (by rfl) ?_))
  intro hQ
  refine JL.move .none rfl (JL.assign .none rfl (JL.done hQ (JQ.go (JC.ret ?_))))
  obtain rfl := Option.some.inj hF
  exact JQ.outS rfl (.tmp .nil) rfl
-- 58 ferrule/ferruleref05.Rounds
def F_ref05_Rounds_s1 (n : Nat) (d : Canopy) (g : Gust) (t : ref05_Truth) : Int × List Int → Option ((Int × List Int) ⊕ (List Int))
 | (i_126, out_127) => if decide (i_126 < (d.Ribs.length : Int)) = true then ((F_ref05_Load n d g t.Lift i_126).bind fun y132 => (geti out_127 i_126).bind fun y133 => some (Sum.inl ((w64 (i_126 + 1)), (setx out_127 i_126 y132)))) else (some (Sum.inr out_127))
def F_ref05_Rounds_s3 (n : Nat) (d : Canopy) (t : ref05_Truth) (out_103 : List Int) (gone_4014 : List Bool) (round_4015 : Int) : Int × List Bool × List Int → Option ((Int × List Bool × List Int) ⊕ (List Bool × List Int))
 | (i_4553, out_4554, out_4555) => if decide (i_4553 < (d.Ribs.length : Int)) = true then ((geti gone_4014 i_4553).bind fun y4597 => (if (!y4597) = true then ((geti out_103 i_4553).bind fun y4619 => (F_ref05_side n out_103 gone_4014 i_4553 (-1)).bind fun y4624 => (F_ref05_side n out_103 gone_4014 i_4553 1).bind fun y4627 => (geti t.Strengths i_4553).bind fun y4628 => some (decide (y4628 < (w64 ((w64 (y4619 + (w64 (y4624.tdiv 2)))) + (w64 (y4627.tdiv 2))))))) else (some false) : Option Bool).bind fun p4616 => (if p4616 = true then ((geti out_4554 i_4553).bind fun y4649 => (geti out_4555 i_4553).bind fun y4654 => some ((setx out_4554 i_4553 true), (setx out_4555 i_4553 round_4015))) else (some (out_4554, out_4555))).bind fun r4647 => match r4647 with | (out_4644, out_4645) => some (Sum.inl ((w64 (i_4553 + 1)), out_4644, out_4645))) else (some (Sum.inr (out_4554, out_4555)))
def F_ref05_Rounds_s2 (n : Nat) (d : Canopy) (t : ref05_Truth) (out_103 : List Int) : List Bool × Int × List Int → Option ((List Bool × Int × List Int) ⊕ (List Int))
 | (gone_4014, round_4015, out_4016) => if decide (round_4015 ≤ (d.Ribs.length : Int)) = true then ((lim (([] : List Bool) ++ gone_4014)).bind fun l4023 => (loopO n (F_ref05_Rounds_s3 n d t out_103 gone_4014 round_4015) (0, l4023, out_4016)).bind fun r4344 => match r4344 with | (out_4341, out_4342) => some (Sum.inl (out_4341, (w64 (round_4015 + 1)), out_4342))) else (some (Sum.inr out_4016))
def F_ref05_Rounds (n : Nat) (d : Canopy) (g : Gust) (t : ref05_Truth) : Option (List Int) :=
 (mkn (d.Ribs.length : Int)).bind fun _ => (mkn (d.Ribs.length : Int)).bind fun _ => (mkn (d.Ribs.length : Int)).bind fun _ => (loopO n (F_ref05_Rounds_s1 n d g t) (0, (List.replicate ((d.Ribs.length : Int)).toNat (0 : Int)))).bind fun out_103 => (loopO n (F_ref05_Rounds_s2 n d t out_103) ((List.replicate ((d.Ribs.length : Int)).toNat (false : Bool)), 1, (List.replicate ((d.Ribs.length : Int)).toNat (0 : Int)))).bind fun out_2721 => some out_2721
theorem c_ref05_Rounds (n : Nat) (H : Hp) (d : Canopy) (d_v0 : Value) (hd_0 : SL H 7 R_Section d_v0 d.Frame.Sections) (d_v7 : Value) (hd_7 : SL H 2 R_Span d_v7 d.Ribs) (d_v8 : Value) (hd_8 : SL H 1 RInt d_v8 d.Shares) (g : Gust) (t : ref05_Truth) (t_v1 : Value) (ht_1 : SL H 1 RInt t_v1 t.Strengths) (y : (List Int)) (hF : F_ref05_Rounds n d g t = some y) : HC Tryz.prog 58 [.agg [d_v0, .int .i64 d.Frame.Low, .int .i64 d.Frame.High, .int .i64 d.Frame.Ease.Num, .int .i64 d.Frame.Ease.Den, .int .i64 d.Frame.Rod, .int .i64 d.Frame.Case, d_v7, d_v8].toArray, .agg [.int .i64 g.Force, .int .i64 g.At].toArray, .agg [.int .i64 t.Lift, t_v1].toArray] H (fun H' ra_v0 => SL H' 1 RInt ra_v0 y) := by
 rw [F_ref05_Rounds] at hF
 refine HC.of (N := 89) Tryz.func58 rfl rfl rfl fun w => ?_
 refine JC.seq (JC.region (by rfl) ?_)
 intro hQ
 refine JL.box (cs := [d_v0, .int .i64 d.Frame.Low, .int .i64 d.Frame.High, .int .i64 d.Frame.Ease.Num, .int .i64 d.Frame.Ease.Den, .int .i64 d.Frame.Rod, .int .i64 d.Frame.Case, d_v7, d_v8]) rfl .none rfl ?_
 intro b1
 refine JL.box (cs := [.int .i64 g.Force, .int .i64 g.At]) rfl .none rfl ?_
 intro b2
 refine JL.box (cs := [.int .i64 t.Lift, t_v1]) rfl .none rfl ?_
 intro b3
 refine JL.assign .none rfl (JL.done hQ (JQ.go (JC.seq (JC.region (by rfl) ?_))))
 intro hQ
 refine JL.fieldAddr fo_30_1 rfl .none rfl (JL.loadOwn 2 az_27 rfl rfl rfl .none rfl (JL.lenSL (R := R_Span) ul_27 hd_7 .none rfl ?_))
 refine JL.assign .none rfl (JL.done hQ (JQ.go (JC.seq ?_)))
 obtain ⟨u4, hu4, hF⟩ := bind_some hF
 obtain ⟨u9, hu9, hF⟩ := bind_some hF
 obtain ⟨u14, hu14, hF⟩ := bind_some hF
 refine JC.mixed 9 9 (tf 0 9) [(b3, .cells [.int .i64 t.Lift, t_v1].toArray 59), (b2, .cells [.int .i64 g.Force, .int .i64 g.At].toArray 64), (b1, .cells [d_v0, .int .i64 d.Frame.Low, .int .i64 d.Frame.High, .int .i64 d.Frame.Ease.Num, .int .i64 d.Frame.Ease.Den, .int .i64 d.Frame.Rod, .int .i64 d.Frame.Case, d_v7, d_v8].toArray 30)] (by rfl) mo_ (by kernel_rfl) (by kernel_rfl) ?_
 intro hQ hE
 refine JA.cut 0 (tf 9 0) (fun H67 f bs gs => ∃ (v55 : Value) (xs56 : List Value) (v31 : Value) (xs32 : List Value) (v19 : Value) (xs20 : List Value), f 3 = .pointer (some ⟨b1, 0, none⟩) ∧ f 4 = .pointer (some ⟨b2, 0, none⟩) ∧ f 5 = .pointer (some ⟨b3, 0, none⟩) ∧ f 7 = .int .i64 (d.Ribs.length : Int) ∧ f 8 = v19 ∧ f 9 = v31 ∧ f 10 = v55 ∧ bs = [(b3, .cells [.int .i64 t.Lift, t_v1].toArray 59), (b2, .cells [.int .i64 g.Force, .int .i64 g.At].toArray 64), (b1, .cells [d_v0, .int .i64 d.Frame.Low, .int .i64 d.Frame.High, .int .i64 d.Frame.Ease.Num, .int .i64 d.Frame.Ease.Den, .int .i64 d.Frame.Rod, .int .i64 d.Frame.Case, d_v7, d_v8].toArray 30)] ∧ gs = [⟨v55, 3, 1, (List.replicate ((d.Ribs.length : Int)).toNat (0 : Int)).length, xs56⟩, ⟨v31, 4, 1, (List.replicate ((d.Ribs.length : Int)).toNat (false : Bool)).length, xs32⟩, ⟨v19, 3, 1, (List.replicate ((d.Ribs.length : Int)).toNat (0 : Int)).length, xs20⟩] ∧ CH H67 1 RInt xs56 (List.replicate ((d.Ribs.length : Int)).toNat (0 : Int)) ∧ CH H67 1 RBool xs32 (List.replicate ((d.Ribs.length : Int)).toNat (false : Bool)) ∧ CH H67 1 RInt xs20 (List.replicate ((d.Ribs.length : Int)).toNat (0 : Int)) ∧ HSub H H67) ?_ ?_
 ·rintro H67 f bs gs ⟨v55, xs56, v31, xs32, v19, xs20, hf3, hf4, hf5, hf7, hf8, hf9, hf10, rfl, rfl, hm68, hm69, hm70, hs67⟩
  refine (JA.norm (i := 3) hf3 (JA.norm (i := 4) hf4 (JA.norm (i := 5) hf5 (JA.norm (i := 7) hf7 (JA.norm (i := 8) hf8 (JA.norm (i := 9) hf9 (JA.norm (i := 10) hf10 ?_)))))))
  refine JA.done hQ (by kernel_rfl) ?_
  refine JQ.go (JC.seq (JC.seq (JC.region (by rfl) ?_)))
  intro hQ
  refine JL.assign .none rfl (JL.done hQ (JQ.go ?_))
  obtain ⟨r105, hlr105, hKr105⟩ := bind_some hF
  refine JC.join (fun (out_103 : List Int) H104 f bs gs => ∃ (vout_103 : Value) (xsout_103 : List Value), f 5 = .pointer (some ⟨b3, 0, none⟩) ∧ f 7 = .int .i64 (d.Ribs.length : Int) ∧ f 8 = vout_103 ∧ f 9 = v31 ∧ f 10 = v55 ∧ bs = [(b3, .cells [.int .i64 t.Lift, t_v1].toArray 59)] ∧ gs = [⟨v55, 3, 1, (List.replicate ((d.Ribs.length : Int)).toNat (0 : Int)).length, xs56⟩, ⟨v31, 4, 1, (List.replicate ((d.Ribs.length : Int)).toNat (false : Bool)).length, xs32⟩, ⟨vout_103, 3, 1, out_103.length, xsout_103⟩] ∧ CH H104 1 RInt xsout_103 out_103 ∧ HSub H67 H104 ∧ out_103 = r105) ?_ ?_
  ·skip
   refine JC.block (JC.loop hlr105 (fun (x : Int × List Int) H128 f bs gs => match x with | (i_126, out_127) => ∃ (vout_127 : Value) (xsout_127 : List Value), f 3 = .pointer (some ⟨b1, 0, none⟩) ∧ f 4 = .pointer (some ⟨b2, 0, none⟩) ∧ f 5 = .pointer (some ⟨b3, 0, none⟩) ∧ f 7 = .int .i64 (d.Ribs.length : Int) ∧ f 8 = vout_127 ∧ f 9 = v31 ∧ f 10 = v55 ∧ f 11 = .int .i64 i_126 ∧ bs = [(b3, .cells [.int .i64 t.Lift, t_v1].toArray 59), (b2, .cells [.int .i64 g.Force, .int .i64 g.At].toArray 64), (b1, .cells [d_v0, .int .i64 d.Frame.Low, .int .i64 d.Frame.High, .int .i64 d.Frame.Ease.Num, .int .i64 d.Frame.Ease.Den, .int .i64 d.Frame.Rod, .int .i64 d.Frame.Case, d_v7, d_v8].toArray 30)] ∧ gs = [⟨v55, 3, 1, (List.replicate ((d.Ribs.length : Int)).toNat (0 : Int)).length, xs56⟩, ⟨v31, 4, 1, (List.replicate ((d.Ribs.length : Int)).toNat (false : Bool)).length, xs32⟩, ⟨vout_127, 3, 1, out_127.length, xsout_127⟩] ∧ CH H128 1 RInt xsout_127 out_127 ∧ HSub H67 H128) ⟨v19, xs20, rfl, rfl, rfl, rfl, rfl, rfl, rfl, rfl, rfl, rfl, hm70, (HSub.refl _)⟩ ?_)
   rintro ⟨i_126, out_127⟩ x130 H128 f bs gs ⟨vout_127, xsout_127, hf3, hf4, hf5, hf7, hf8, hf9, hf10, hf11, rfl, rfl, hout_127, hs128⟩ hF hr129
   rw [F_ref05_Rounds_s1] at hF
   refine (JC.norm (i := 3) hf3 (JC.norm (i := 4) hf4 (JC.norm (i := 5) hf5 (JC.norm (i := 7) hf7 (JC.norm (i := 8) hf8 (JC.norm (i := 9) hf9 (JC.norm (i := 10) hf10 (JC.norm (i := 11) hf11 ?_))))))))
   refine JC.seq (JC.seq (JC.region (by rfl) ?_))
   intro hQ
   refine JL.move .none rfl (JL.move .none rfl (JL.bin rfl rfl rfl .none rfl (JL.done hQ (JQ.go ?_))))
   rcases ite_some hF with ⟨hc131, hF⟩ | ⟨hc131, hF⟩
   ·refine JC.cond_t (b := decide (i_126 < (d.Ribs.length : Int))) rfl hc131 ?_
    refine JC.skip (JQ.go (JC.seq (JC.block (JC.region (by rfl) ?_))))
    intro hQ
    refine JL.move .none rfl (JL.move .none rfl (JL.loadOwn 2 az_30 rfl rfl rfl .none rfl (JL.loadOwn 1 az_64 rfl rfl rfl .none rfl (JL.fieldAddr fo_59_0 rfl .none rfl (JL.loadOwn 0 az_3 rfl rfl rfl .none rfl (JL.move .none rfl ?_))))))
    obtain ⟨y132, hy132, hF⟩ := bind_some hF
    refine JL.callS (c_ref05_Load n H128 d d_v0 (SL.mono R_Section_mono (HSub.trans hs67 hs128) hd_0) d_v7 (SL.mono R_Span_mono (HSub.trans hs67 hs128) hd_7) d_v8 (SL.mono RInt.mono (HSub.trans hs67 hs128) hd_8) g t.Lift i_126 y132 hy132) rfl en_82 .none rfl ?_
    obtain ⟨y133, hy133, hF⟩ := bind_some hF
    refine JL.indexG 2 (l := out_127) sl_28 rfl rfl rfl rfl hy133 .none rfl ?_
    intro b134 hb135
    refine JL.storeG (R := RInt) 2 (i := i_126) (l := out_127) (y := y133) (y' := y132) (off := 0) az_3 rfl rfl rfl rfl (one_cons rfl one_nil) rfl hb135 hout_127 rfl hy133 rfl (by rintro cs rfl; rfl) .none ?_
    intro xs136 hch137
    refine JL.done hQ (JQ.normal_block (JQ.go (JC.fresh (fun f => f 3 = .pointer (some ⟨b1, 0, none⟩) ∧ f 4 = .pointer (some ⟨b2, 0, none⟩) ∧ f 5 = .pointer (some ⟨b3, 0, none⟩) ∧ f 7 = .int .i64 (d.Ribs.length : Int) ∧ f 8 = vout_127 ∧ f 9 = v31 ∧ f 10 = v55 ∧ f 11 = .int .i64 i_126) ⟨rfl, rfl, rfl, rfl, rfl, rfl, rfl, rfl⟩ ?_)))
    rintro f ⟨hf3, hf4, hf5, hf7, hf8, hf9, hf10, hf11⟩
    refine (JC.norm (i := 3) hf3 (JC.norm (i := 4) hf4 (JC.norm (i := 5) hf5 (JC.norm (i := 7) hf7 (JC.norm (i := 8) hf8 (JC.norm (i := 9) hf9 (JC.norm (i := 10) hf10 (JC.norm (i := 11) hf11 ?_))))))))
    refine JC.region (by rfl) ?_
    intro hQ
    refine JL.move .none rfl (JL.bin rfl rfl rfl .none rfl (JL.assign .none rfl (JL.done hQ ?_)))
    obtain rfl := Option.some.inj hF
    exact JQ.next rfl ⟨vout_127, xs136, rfl, rfl, rfl, rfl, rfl, rfl, rfl, rfl, rfl, rfl, hch137, hs128⟩
   ·refine JC.cond_f (b := decide (i_126 < (d.Ribs.length : Int))) rfl hc131 ?_
    refine JC.exit (JQ.exit_then (JQ.exit_then (JQ.exit_block ?_)))
    obtain rfl := Option.some.inj hF
    have ehr129 := hr129 _ rfl
    subst ehr129
    refine JQ.mask [true, false, false] [true, true, true] ?_
    exact JQ.join out_127 ⟨vout_127, xsout_127, rfl, rfl, rfl, rfl, rfl, rfl, rfl, hout_127, hs128, rfl⟩
  ·rintro out_103 H104 f bs gs ⟨vout_103, xsout_103, hf5, hf7, hf8, hf9, hf10, rfl, rfl, hout_103, hs104, rfl⟩
   have hF := hKr105
   try dsimp only at hF
   refine (JQ.norm (i := 5) hf5 (JQ.norm (i := 7) hf7 (JQ.norm (i := 8) hf8 (JQ.norm (i := 9) hf9 (JQ.norm (i := 10) hf10 ?_)))))
   refine JQ.go (JC.seq (JC.seq (JC.region (by rfl) ?_)))
   intro hQ
   refine JL.assign .none rfl (JL.done hQ (JQ.go (JC.freezeG 1 (R := RBool) rfl RBool.mono (CH.mono RBool.mono hs104 hm69) rfl ?_)))
   intro H782 hs782 hg783
   obtain ⟨r2723, hlr2723, hKr2723⟩ := bind_some hF
   refine JC.join (fun (out_2721 : List Int) H2722 f bs gs => ∃ (vout_2721 : Value) (xsout_2721 : List Value), f 10 = vout_2721 ∧ bs = [] ∧ gs = [⟨vout_2721, 3, 1, out_2721.length, xsout_2721⟩] ∧ CH H2722 1 RInt xsout_2721 out_2721 ∧ HSub H782 H2722 ∧ out_2721 = r2723) ?_ ?_
   ·skip
    refine JC.block (JC.loop hlr2723 (fun (x : List Bool × Int × List Int) H4017 f bs gs => match x with | (gone_4014, round_4015, out_4016) => ∃ (vgone_4014 : Value) (vout_4016 : Value) (xsout_4016 : List Value), f 5 = .pointer (some ⟨b3, 0, none⟩) ∧ f 7 = .int .i64 (d.Ribs.length : Int) ∧ f 8 = vout_103 ∧ f 9 = vgone_4014 ∧ f 10 = vout_4016 ∧ f 12 = .int .i64 round_4015 ∧ bs = [(b3, .cells [.int .i64 t.Lift, t_v1].toArray 59)] ∧ gs = [⟨vout_4016, 3, 1, out_4016.length, xsout_4016⟩, ⟨vout_103, 3, 1, out_103.length, xsout_103⟩] ∧ SL H4017 1 RBool vgone_4014 gone_4014 ∧ CH H4017 1 RInt xsout_4016 out_4016 ∧ HSub H782 H4017) ⟨v31, v55, xs56, rfl, rfl, rfl, rfl, rfl, rfl, rfl, rfl, hg783, (CH.mono RInt.mono (HSub.trans hs104 hs782) hm68), (HSub.refl _)⟩ ?_)
    rintro ⟨gone_4014, round_4015, out_4016⟩ x4019 H4017 f bs gs ⟨vgone_4014, vout_4016, xsout_4016, hf5, hf7, hf8, hf9, hf10, hf12, rfl, rfl, hgone_4014, hout_4016, hs4017⟩ hF hr4018
    rw [F_ref05_Rounds_s2] at hF
    refine (JC.norm (i := 5) hf5 (JC.norm (i := 7) hf7 (JC.norm (i := 8) hf8 (JC.norm (i := 9) hf9 (JC.norm (i := 10) hf10 (JC.norm (i := 12) hf12 ?_))))))
    refine JC.seq (JC.seq (JC.region (by rfl) ?_))
    intro hQ
    refine JL.move .none rfl (JL.move .none rfl (JL.bin rfl rfl rfl .none rfl (JL.done hQ (JQ.go ?_))))
    rcases ite_some hF with ⟨hc4020, hF⟩ | ⟨hc4020, hF⟩
    ·refine JC.cond_t (b := decide (round_4015 ≤ (d.Ribs.length : Int))) rfl hc4020 ?_
     refine JC.skip (JQ.go (JC.seq (JC.block (JC.seq (JC.region (by rfl) ?_)))))
     intro hQ
     refine JL.emptySlice ap_126 .none rfl ?_
     intro v4021
     refine JL.move .none rfl ?_
     obtain ⟨l4023, hl4023, hF⟩ := bind_some hF
     refine JL.appD (R := RBool) 0 (l := ([] : List Bool)) (m := gone_4014) ap_126 rfl ⟨rfl, rfl⟩ rfl CH.nil rfl hgone_4014 (RBool.one _) hl4023 .none rfl ?_
     intro v4024 xs4025 hch4026
     refine JL.assign .none rfl (JL.done hQ (JQ.go (JC.seq (JC.seq (JC.region (by rfl) ?_)))))
     intro hQ
     refine JL.assign .none rfl (JL.done hQ (JQ.go ?_))
     obtain ⟨r4344, hlr4344, hKr4344⟩ := bind_some hF
     refine JC.join (fun (x : List Bool × List Int) H4343 f bs gs => match x with | (out_4341, out_4342) => ∃ (vout_4341 : Value) (xsout_4341 : List Value) (vout_4342 : Value) (xsout_4342 : List Value), f 5 = .pointer (some ⟨b3, 0, none⟩) ∧ f 7 = .int .i64 (d.Ribs.length : Int) ∧ f 8 = vout_103 ∧ f 10 = vout_4342 ∧ f 12 = .int .i64 round_4015 ∧ f 13 = vout_4341 ∧ bs = [(b3, .cells [.int .i64 t.Lift, t_v1].toArray 59)] ∧ gs = [⟨vout_4341, 4, 1, out_4341.length, xsout_4341⟩, ⟨vout_4342, 3, 1, out_4342.length, xsout_4342⟩, ⟨vout_103, 3, 1, out_103.length, xsout_103⟩] ∧ CH H4343 1 RBool xsout_4341 out_4341 ∧ CH H4343 1 RInt xsout_4342 out_4342 ∧ HSub H4017 H4343 ∧ (out_4341, out_4342) = r4344) ?_ ?_
     ·skip
      refine JC.block (JC.loop hlr4344 (fun (x : Int × List Bool × List Int) H4556 f bs gs => match x with | (i_4553, out_4554, out_4555) => ∃ (vout_4554 : Value) (xsout_4554 : List Value) (vout_4555 : Value) (xsout_4555 : List Value), f 5 = .pointer (some ⟨b3, 0, none⟩) ∧ f 7 = .int .i64 (d.Ribs.length : Int) ∧ f 8 = vout_103 ∧ f 9 = vgone_4014 ∧ f 10 = vout_4555 ∧ f 12 = .int .i64 round_4015 ∧ f 13 = vout_4554 ∧ f 14 = .int .i64 i_4553 ∧ bs = [(b3, .cells [.int .i64 t.Lift, t_v1].toArray 59)] ∧ gs = [⟨vout_4554, 4, 1, out_4554.length, xsout_4554⟩, ⟨vout_4555, 3, 1, out_4555.length, xsout_4555⟩, ⟨vout_103, 3, 1, out_103.length, xsout_103⟩] ∧ CH H4556 1 RBool xsout_4554 out_4554 ∧ CH H4556 1 RInt xsout_4555 out_4555 ∧ HSub H4017 H4556) ⟨v4024, xs4025, vout_4016, xsout_4016, rfl, rfl, rfl, rfl, rfl, rfl, rfl, rfl, rfl, rfl, hch4026, hout_4016, (HSub.refl _)⟩ ?_)
      rintro ⟨i_4553, out_4554, out_4555⟩ x4558 H4556 f bs gs ⟨vout_4554, xsout_4554, vout_4555, xsout_4555, hf5, hf7, hf8, hf9, hf10, hf12, hf13, hf14, rfl, rfl, hout_4554, hout_4555, hs4556⟩ hF hr4557
      rw [F_ref05_Rounds_s3] at hF
      refine (JC.norm (i := 5) hf5 (JC.norm (i := 7) hf7 (JC.norm (i := 8) hf8 (JC.norm (i := 9) hf9 (JC.norm (i := 10) hf10 (JC.norm (i := 12) hf12 (JC.norm (i := 13) hf13 (JC.norm (i := 14) hf14 ?_))))))))
      refine JC.seq (JC.seq (JC.region (by rfl) ?_))
      intro hQ
      refine JL.move .none rfl (JL.move .none rfl (JL.bin rfl rfl rfl .none rfl (JL.done hQ (JQ.go ?_))))
      rcases ite_some hF with ⟨hc4559, hF⟩ | ⟨hc4559, hF⟩
      ·refine JC.cond_t (b := decide (i_4553 < (d.Ribs.length : Int))) rfl hc4559 ?_
       refine JC.skip (JQ.go (JC.seq (JC.block (JC.seq (JC.factG 2 rfl (fun hfo4596 => ?_))))))
       refine JC.draw (by rfl) mo_ (by kernel_rfl) ?_
       intro hQ
       refine JL.move .none rfl (JL.move .none rfl ?_)
       obtain ⟨y4597, hy4597, hF⟩ := bind_some hF
       refine JL.indexSL (R := RBool) sl_126 (SL.mono RBool.mono hs4556 hgone_4014) rfl hy4597 .none rfl ?_
       rintro b4598 o4599 cs4600 hc4601 - rfl
       refine JL.loadH 0 az_4 rfl hc4601 rfl .none rfl ?_
       refine JL.not rfl .none rfl (JL.move .none rfl ?_)
       obtain ⟨p4616, hp4616, hF⟩ := bind_some hF
       refine JL.cut 23 (fun f => f 5 = .pointer (some ⟨b3, 0, none⟩) ∧ f 7 = .int .i64 (d.Ribs.length : Int) ∧ f 8 = vout_103 ∧ f 9 = vgone_4014 ∧ f 10 = vout_4555 ∧ f 12 = .int .i64 round_4015 ∧ f 13 = vout_4554 ∧ f 14 = .int .i64 i_4553 ∧ f 79 = .bool p4616) ?_ ?_
       ·intro hJ4617
        rcases ite_some hp4616 with ⟨hc4618, hF⟩ | ⟨hc4618, hF⟩
        ·skip
         refine JL.move (.some rfl rfl rfl hc4618) rfl (JL.move (.some rfl rfl rfl hc4618) rfl ?_)
         obtain ⟨y4619, hy4619, hF⟩ := bind_some hF
         refine JL.indexGq (gq := ⟨vout_103, 3, 1, out_103.length, xsout_103⟩) (l := out_103) hfo4596 sl_28 rfl rfl rfl hy4619 (.some rfl rfl rfl hc4618) rfl ?_
         intro b4620 hb4621
         refine JL.loadG (R := RInt) 2 (i := i_4553) (l := out_103) (off := 0) az_3 rfl rfl rfl hb4621 (CH.mono RInt.mono (HSub.trans hs782 (HSub.trans hs4017 hs4556)) hout_103) hy4619 (by rintro cs rfl; rfl) (.some rfl rfl rfl hc4618) rfl ?_
         refine JL.move (.some rfl rfl rfl hc4618) rfl (JL.move (.some rfl rfl rfl hc4618) rfl (JL.move (.some rfl rfl rfl hc4618) rfl ?_))
         obtain ⟨y4624, hy4624, hF⟩ := bind_some hF
         refine JL.callLG1 (R := RInt) 2 rfl RInt.mono (CH.mono RInt.mono (HSub.trans hs782 (HSub.trans hs4017 hs4556)) hout_103) rfl (fun H4622 hs4622 hg4623 => c_ref05_side n H4622 out_103 vout_103 hg4623 gone_4014 vgone_4014 (SL.mono RBool.mono (HSub.trans hs4556 hs4622) hgone_4014) i_4553 (-1) y4624 hy4624) rfl en_83 (.some rfl rfl rfl hc4618) rfl ?_
         refine JL.div rfl rfl (by decide) rfl (.some rfl rfl rfl hc4618) rfl ?_
         refine JL.bin rfl rfl rfl (.some rfl rfl rfl hc4618) rfl (JL.move (.some rfl rfl rfl hc4618) rfl (JL.move (.some rfl rfl rfl hc4618) rfl (JL.move (.some rfl rfl rfl hc4618) rfl ?_)))
         obtain ⟨y4627, hy4627, hF⟩ := bind_some hF
         refine JL.callLG1 (R := RInt) 2 rfl RInt.mono (CH.mono RInt.mono (HSub.trans hs782 (HSub.trans hs4017 hs4556)) hout_103) rfl (fun H4625 hs4625 hg4626 => c_ref05_side n H4625 out_103 vout_103 hg4626 gone_4014 vgone_4014 (SL.mono RBool.mono (HSub.trans hs4556 hs4625) hgone_4014) i_4553 1 y4627 hy4627) rfl en_83 (.some rfl rfl rfl hc4618) rfl ?_
         refine JL.div rfl rfl (by decide) rfl (.some rfl rfl rfl hc4618) rfl ?_
         refine JL.bin rfl rfl rfl (.some rfl rfl rfl hc4618) rfl (JL.fieldAddr fo_59_1 rfl (.some rfl rfl rfl hc4618) rfl (JL.loadOwn 0 az_28 rfl rfl rfl (.some rfl rfl rfl hc4618) rfl (JL.move (.some rfl rfl rfl hc4618) rfl ?_)))
         obtain ⟨y4628, hy4628, hF⟩ := bind_some hF
         refine JL.indexSL (R := RInt) sl_28 (SL.mono RInt.mono (HSub.trans hs67 (HSub.trans hs104 (HSub.trans hs782 (HSub.trans hs4017 hs4556)))) ht_1) rfl hy4628 (.some rfl rfl rfl hc4618) rfl ?_
         rintro b4629 o4630 cs4631 hc4632 - rfl
         refine JL.loadH 0 az_3 rfl hc4632 rfl (.some rfl rfl rfl hc4618) rfl ?_
         refine JL.bin rfl rfl rfl (.some rfl rfl rfl hc4618) rfl (JL.pick_t (b := (!y4597)) rfl hc4618 .none rfl ?_)
         obtain rfl := Option.some.inj hF
         exact hJ4617 _ ⟨rfl, rfl, rfl, rfl, rfl, rfl, rfl, rfl, rfl⟩
        ·skip
         refine JL.skip (.bool rfl rfl rfl hc4618) rfl (JL.skip (.bool rfl rfl rfl hc4618) rfl (JL.skip (.bool rfl rfl rfl hc4618) rfl (JL.skip (.bool rfl rfl rfl hc4618) rfl (JL.skip (.bool rfl rfl rfl hc4618) rfl (JL.skip (.bool rfl rfl rfl hc4618) rfl (JL.skip (.bool rfl rfl rfl hc4618) rfl (JL.skip (.bool rfl rfl rfl hc4618) rfl (JL.skip (.bool rfl rfl rfl hc4618) rfl (JL.skip (.bool rfl rfl rfl hc4618) rfl (JL.skip (.bool rfl rfl rfl hc4618) rfl (JL.skip (.bool rfl rfl rfl hc4618) rfl (JL.skip (.bool rfl rfl rfl hc4618) rfl (JL.skip (.bool rfl rfl rfl hc4618) rfl (JL.skip (.bool rfl rfl rfl hc4618) rfl (JL.skip (.bool rfl rfl rfl hc4618) rfl (JL.skip (.bool rfl rfl rfl hc4618) rfl (JL.skip (.bool rfl rfl rfl hc4618) rfl (JL.skip (.bool rfl rfl rfl hc4618) rfl (JL.skip (.bool rfl rfl rfl hc4618) rfl (JL.skip (.bool rfl rfl rfl hc4618) rfl (JL.skip (.bool rfl rfl rfl hc4618) rfl (JL.pick_f (b := (!y4597)) rfl hc4618 .none rfl ?_))))))))))))))))))))))
         obtain rfl := Option.some.inj hF
         exact hJ4617 _ ⟨rfl, rfl, rfl, rfl, rfl, rfl, rfl, rfl, rfl⟩
       ·rintro f ⟨hf5, hf7, hf8, hf9, hf10, hf12, hf13, hf14, hf79⟩
        refine (JL.norm (i := 5) hf5 (JL.norm (i := 7) hf7 (JL.norm (i := 8) hf8 (JL.norm (i := 9) hf9 (JL.norm (i := 10) hf10 (JL.norm (i := 12) hf12 (JL.norm (i := 13) hf13 (JL.norm (i := 14) hf14 (JL.norm (i := 79) hf79 ?_)))))))))
        refine JL.doneQ hQ ?_
        refine JQ.go ?_
        obtain ⟨r4647, hlr4647, hKr4647⟩ := bind_some hF
        refine JC.join (fun (x : List Bool × List Int) H4646 f bs gs => match x with | (out_4644, out_4645) => ∃ (vout_4644 : Value) (xsout_4644 : List Value) (vout_4645 : Value) (xsout_4645 : List Value), f 5 = .pointer (some ⟨b3, 0, none⟩) ∧ f 7 = .int .i64 (d.Ribs.length : Int) ∧ f 8 = vout_103 ∧ f 9 = vgone_4014 ∧ f 10 = vout_4645 ∧ f 12 = .int .i64 round_4015 ∧ f 13 = vout_4644 ∧ f 14 = .int .i64 i_4553 ∧ bs = [(b3, .cells [.int .i64 t.Lift, t_v1].toArray 59)] ∧ gs = [⟨vout_4644, 4, 1, out_4644.length, xsout_4644⟩, ⟨vout_4645, 3, 1, out_4645.length, xsout_4645⟩, ⟨vout_103, 3, 1, out_103.length, xsout_103⟩] ∧ CH H4646 1 RBool xsout_4644 out_4644 ∧ CH H4646 1 RInt xsout_4645 out_4645 ∧ HSub H4556 H4646 ∧ (out_4644, out_4645) = r4647) ?_ ?_
        ·have hF := hlr4647
         rcases ite_some hF with ⟨hc4648, hF⟩ | ⟨hc4648, hF⟩
         ·refine JC.cond_t (b := p4616) rfl hc4648 ?_
          refine JC.region (by rfl) ?_
          intro hQ
          refine JL.move .none rfl (JL.move .none rfl (JL.move .none rfl (JL.move .none rfl (JL.move .none rfl ?_))))
          obtain ⟨y4649, hy4649, hF⟩ := bind_some hF
          refine JL.indexG 0 (l := out_4554) sl_126 rfl rfl rfl rfl hy4649 .none rfl ?_
          intro b4650 hb4651
          refine JL.storeG (R := RBool) 0 (i := i_4553) (l := out_4554) (y := y4649) (y' := true) (off := 0) az_4 rfl rfl rfl rfl (one_cons rfl one_nil) rfl hb4651 hout_4554 rfl hy4649 rfl (by rintro cs rfl; rfl) .none ?_
          intro xs4652 hch4653
          obtain ⟨y4654, hy4654, hF⟩ := bind_some hF
          refine JL.indexG 1 (l := out_4555) sl_28 rfl rfl rfl rfl hy4654 .none rfl ?_
          intro b4655 hb4656
          refine JL.storeG (R := RInt) 1 (i := i_4553) (l := out_4555) (y := y4654) (y' := round_4015) (off := 0) az_3 rfl rfl rfl rfl (one_cons rfl one_nil) rfl hb4656 hout_4555 rfl hy4654 rfl (by rintro cs rfl; rfl) .none ?_
          intro xs4657 hch4658
          refine JL.done hQ ?_
          obtain rfl := Option.some.inj hF
          exact JQ.join ((setx out_4554 i_4553 true), (setx out_4555 i_4553 round_4015)) ⟨vout_4554, xs4652, vout_4555, xs4657, rfl, rfl, rfl, rfl, rfl, rfl, rfl, rfl, rfl, rfl, hch4653, hch4658, (HSub.refl _), rfl⟩
         ·refine JC.cond_f (b := p4616) rfl hc4648 ?_
          refine JC.skip ?_
          obtain rfl := Option.some.inj hF
          exact JQ.join (out_4554, out_4555) ⟨vout_4554, xsout_4554, vout_4555, xsout_4555, rfl, rfl, rfl, rfl, rfl, rfl, rfl, rfl, rfl, rfl, hout_4554, hout_4555, (HSub.refl _), rfl⟩
        ·rintro ⟨out_4644, out_4645⟩ H4646 f bs gs ⟨vout_4644, xsout_4644, vout_4645, xsout_4645, hf5, hf7, hf8, hf9, hf10, hf12, hf13, hf14, rfl, rfl, hout_4644, hout_4645, hs4646, rfl⟩
         have hF := hKr4647
         try dsimp only at hF
         refine (JQ.norm (i := 5) hf5 (JQ.norm (i := 7) hf7 (JQ.norm (i := 8) hf8 (JQ.norm (i := 9) hf9 (JQ.norm (i := 10) hf10 (JQ.norm (i := 12) hf12 (JQ.norm (i := 13) hf13 (JQ.norm (i := 14) hf14 ?_))))))))
         refine JQ.normal_block (JQ.go (JC.region (by rfl) ?_))
         intro hQ
         refine JL.move .none rfl (JL.bin rfl rfl rfl .none rfl (JL.assign .none rfl (JL.done hQ ?_)))
         obtain rfl := Option.some.inj hF
         exact JQ.next rfl ⟨vout_4644, xsout_4644, vout_4645, xsout_4645, rfl, rfl, rfl, rfl, rfl, rfl, rfl, rfl, rfl, rfl, hout_4644, hout_4645, (HSub.trans hs4556 hs4646)⟩
      ·refine JC.cond_f (b := decide (i_4553 < (d.Ribs.length : Int))) rfl hc4559 ?_
       refine JC.exit (JQ.exit_then (JQ.exit_then (JQ.exit_block ?_)))
       obtain rfl := Option.some.inj hF
       have ehr4557 := hr4557 _ rfl
       subst ehr4557
       exact JQ.join (out_4554, out_4555) ⟨vout_4554, xsout_4554, vout_4555, xsout_4555, rfl, rfl, rfl, rfl, rfl, rfl, rfl, rfl, hout_4554, hout_4555, hs4556, rfl⟩
     ·rintro ⟨out_4341, out_4342⟩ H4343 f bs gs ⟨vout_4341, xsout_4341, vout_4342, xsout_4342, hf5, hf7, hf8, hf10, hf12, hf13, rfl, rfl, hout_4341, hout_4342, hs4343, rfl⟩
      have hF := hKr4344
      try dsimp only at hF
      refine (JQ.norm (i := 5) hf5 (JQ.norm (i := 7) hf7 (JQ.norm (i := 8) hf8 (JQ.norm (i := 10) hf10 (JQ.norm (i := 12) hf12 (JQ.norm (i := 13) hf13 ?_))))))
      refine JQ.go (JC.region (by rfl) ?_)
      intro hQ
      refine JL.move .none rfl (JL.freezeG 0 (R := RBool) rfl RBool.mono hout_4341 rfl ?_)
      intro H4659 hs4659 hg4660
      refine JL.assign .none rfl (JL.done hQ (JQ.normal_block (JQ.go (JC.region (by rfl) ?_))))
      intro hQ
      refine JL.move .none rfl (JL.bin rfl rfl rfl .none rfl (JL.assign .none rfl (JL.done hQ ?_)))
      obtain rfl := Option.some.inj hF
      exact JQ.next rfl ⟨vout_4341, vout_4342, xsout_4342, rfl, rfl, rfl, rfl, rfl, rfl, rfl, rfl, hg4660, (CH.mono RInt.mono hs4659 hout_4342), (HSub.trans hs4017 (HSub.trans hs4343 hs4659))⟩
    ·refine JC.cond_f (b := decide (round_4015 ≤ (d.Ribs.length : Int))) rfl hc4020 ?_
     refine JC.exit (JQ.exit_then (JQ.exit_then (JQ.exit_block ?_)))
     obtain rfl := Option.some.inj hF
     have ehr4018 := hr4018 _ rfl
     subst ehr4018
     refine JQ.mask [false] [true, false] ?_
     exact JQ.join out_4016 ⟨vout_4016, xsout_4016, rfl, rfl, rfl, hout_4016, hs4017, rfl⟩
   ·rintro out_2721 H2722 f bs gs ⟨vout_2721, xsout_2721, hf10, rfl, rfl, hout_2721, hs2722, rfl⟩
    have hF := hKr2723
    try dsimp only at hF
    refine (JQ.norm (i := 10) hf10 ?_)
    refine JQ.go (JC.seq (JC.region (by rfl) ?_))
    intro hQ
    refine JL.move .none rfl (JL.assign .none rfl (JL.done hQ (JQ.go (JC.ret (JQ.freezeG 0 (R := RInt) rfl RInt.mono hout_2721 rfl ?_)))))
    intro H4661 hs4661 hg4662
    obtain rfl := Option.some.inj hF
    exact JQ.outH rfl (.tmp .nil) hg4662
 intro nd66_0
 refine JA.cut 2 #[true, true, true, true, true, false, true, true, false] (fun H4663 f bs gs => ∃ (v31 : Value) (xs32 : List Value) (v19 : Value) (xs20 : List Value), f 3 = .pointer (some ⟨b1, 0, none⟩) ∧ f 4 = .pointer (some ⟨b2, 0, none⟩) ∧ f 5 = .pointer (some ⟨b3, 0, none⟩) ∧ f 7 = .int .i64 (d.Ribs.length : Int) ∧ f 8 = v19 ∧ f 9 = v31 ∧ f 22 = .int .i64 (d.Ribs.length : Int) ∧ bs = [(b3, .cells [.int .i64 t.Lift, t_v1].toArray 59), (b2, .cells [.int .i64 g.Force, .int .i64 g.At].toArray 64), (b1, .cells [d_v0, .int .i64 d.Frame.Low, .int .i64 d.Frame.High, .int .i64 d.Frame.Ease.Num, .int .i64 d.Frame.Ease.Den, .int .i64 d.Frame.Rod, .int .i64 d.Frame.Case, d_v7, d_v8].toArray 30)] ∧ gs = [⟨v31, 4, 1, (List.replicate ((d.Ribs.length : Int)).toNat (false : Bool)).length, xs32⟩, ⟨v19, 3, 1, (List.replicate ((d.Ribs.length : Int)).toNat (0 : Int)).length, xs20⟩] ∧ CH H4663 1 RBool xs32 (List.replicate ((d.Ribs.length : Int)).toNat (false : Bool)) ∧ CH H4663 1 RInt xs20 (List.replicate ((d.Ribs.length : Int)).toNat (0 : Int)) ∧ HSub H H4663) ?_ ?_
 ·rintro H4663 f bs gs ⟨v31, xs32, v19, xs20, hf3, hf4, hf5, hf7, hf8, hf9, hf22, rfl, rfl, hm4664, hm4665, hs4663⟩
  refine (JA.norm (i := 3) hf3 (JA.norm (i := 4) hf4 (JA.norm (i := 5) hf5 (JA.norm (i := 7) hf7 (JA.norm (i := 8) hf8 (JA.norm (i := 9) hf9 (JA.norm (i := 22) hf22 ?_)))))))
  refine JA.many [5] (by kernel_rfl) (by simp) (all_one ⟨_, (tf 8 1), rfl, (by kernel_rfl), ?_⟩)
  refine JL.makeG (R := RInt) (z0 := 0) (.inl ap_28) ze_3 rfl (fun _ => rfl) rfl rfl hu14 .none rfl ?_
  intro v4666 xs4667 hch4668
  refine JA.after hE hs4663 (.cons_cons _ (.cons_cons _ (.cons_cons _ (List.nil_sublist _)))) ?_
  refine JA.take 8 (listed' := (tf 9 0)) hQ rfl (by kernel_rfl) (by kernel_rfl) (by kernel_rfl) (by kernel_rfl) (by kernel_rfl) hE hs4663 (.cons_cons _ (.cons_cons _ (.cons_cons _ (List.nil_sublist _)))) ?_
  refine JL.assign .none rfl (JA.cont ?_)
  exact nd66_0 _ _ _ _ ⟨v4666, xs4667, v31, xs32, v19, xs20, rfl, rfl, rfl, rfl, rfl, rfl, rfl, rfl, rfl, hch4668, hm4664, hm4665, hs4663⟩
 intro nd66_1
 refine JA.cut 3 #[true, true, true, false, true, true, true, false, false] (fun H4670 f bs gs => ∃ (v35 : Value) (xs36 : List Value) (v19 : Value) (xs20 : List Value), f 3 = .pointer (some ⟨b1, 0, none⟩) ∧ f 4 = .pointer (some ⟨b2, 0, none⟩) ∧ f 5 = .pointer (some ⟨b3, 0, none⟩) ∧ f 7 = .int .i64 (d.Ribs.length : Int) ∧ f 8 = v19 ∧ f 20 = .int .i64 (d.Ribs.length : Int) ∧ f 23 = v35 ∧ bs = [(b3, .cells [.int .i64 t.Lift, t_v1].toArray 59), (b2, .cells [.int .i64 g.Force, .int .i64 g.At].toArray 64), (b1, .cells [d_v0, .int .i64 d.Frame.Low, .int .i64 d.Frame.High, .int .i64 d.Frame.Ease.Num, .int .i64 d.Frame.Ease.Den, .int .i64 d.Frame.Rod, .int .i64 d.Frame.Case, d_v7, d_v8].toArray 30)] ∧ gs = [⟨v35, 3, 1, (List.replicate ((d.Ribs.length : Int)).toNat (0 : Int)).length, xs36⟩, ⟨v19, 3, 1, (List.replicate ((d.Ribs.length : Int)).toNat (0 : Int)).length, xs20⟩] ∧ CH H4670 1 RInt xs36 (List.replicate ((d.Ribs.length : Int)).toNat (0 : Int)) ∧ CH H4670 1 RInt xs20 (List.replicate ((d.Ribs.length : Int)).toNat (0 : Int)) ∧ HSub H H4670) ?_ ?_
 ·rintro H4670 f bs gs ⟨v35, xs36, v19, xs20, hf3, hf4, hf5, hf7, hf8, hf20, hf23, rfl, rfl, hm4671, hm4672, hs4670⟩
  refine (JA.norm (i := 3) hf3 (JA.norm (i := 4) hf4 (JA.norm (i := 5) hf5 (JA.norm (i := 7) hf7 (JA.norm (i := 8) hf8 (JA.norm (i := 20) hf20 (JA.norm (i := 23) hf23 ?_)))))))
  refine JA.many [3] (by kernel_rfl) (by simp) (all_one ⟨_, (tf 7 2), rfl, (by kernel_rfl), ?_⟩)
  refine JL.makeG (R := RBool) (z0 := false) (.inr ap_126) ze_4 rfl (fun _ => rfl) rfl rfl hu9 .none rfl ?_
  intro v4673 xs4674 hch4675
  refine JA.after hE hs4670 (.cons_cons _ (.cons_cons _ (.cons_cons _ (List.nil_sublist _)))) ?_
  refine JA.take 7 (listed' := (tf 8 1)) hQ rfl (by kernel_rfl) (by kernel_rfl) (by kernel_rfl) (by kernel_rfl) (by kernel_rfl) hE hs4670 (.cons_cons _ (.cons_cons _ (.cons_cons _ (List.nil_sublist _)))) ?_
  refine JL.assign .none rfl (JA.cont ?_)
  refine JA.take 8 (listed' := (tf 9 0)) hQ rfl (by kernel_rfl) (by kernel_rfl) (by kernel_rfl) (by kernel_rfl) (by kernel_rfl) hE hs4670 (.cons_cons _ (.cons_cons _ (.cons_cons _ (List.nil_sublist _)))) ?_
  refine JL.assign .none rfl (JA.cont ?_)
  refine JA.permG (swapAt_perm 0 _) ?_
  exact nd66_0 _ _ _ _ ⟨v35, xs36, v4673, xs4674, v19, xs20, rfl, rfl, rfl, rfl, rfl, rfl, rfl, rfl, rfl, hm4671, hch4675, hm4672, hs4670⟩
 intro nd66_2
 refine JA.cut 4 #[true, false, true, true, true, true, false, false, false] (fun H4677 f bs gs => ∃ (v43 : Value) (xs44 : List Value) (v23 : Value) (xs24 : List Value), f 3 = .pointer (some ⟨b1, 0, none⟩) ∧ f 4 = .pointer (some ⟨b2, 0, none⟩) ∧ f 5 = .pointer (some ⟨b3, 0, none⟩) ∧ f 7 = .int .i64 (d.Ribs.length : Int) ∧ f 18 = .int .i64 (d.Ribs.length : Int) ∧ f 21 = v23 ∧ f 23 = v43 ∧ bs = [(b3, .cells [.int .i64 t.Lift, t_v1].toArray 59), (b2, .cells [.int .i64 g.Force, .int .i64 g.At].toArray 64), (b1, .cells [d_v0, .int .i64 d.Frame.Low, .int .i64 d.Frame.High, .int .i64 d.Frame.Ease.Num, .int .i64 d.Frame.Ease.Den, .int .i64 d.Frame.Rod, .int .i64 d.Frame.Case, d_v7, d_v8].toArray 30)] ∧ gs = [⟨v43, 3, 1, (List.replicate ((d.Ribs.length : Int)).toNat (0 : Int)).length, xs44⟩, ⟨v23, 4, 1, (List.replicate ((d.Ribs.length : Int)).toNat (false : Bool)).length, xs24⟩] ∧ CH H4677 1 RInt xs44 (List.replicate ((d.Ribs.length : Int)).toNat (0 : Int)) ∧ CH H4677 1 RBool xs24 (List.replicate ((d.Ribs.length : Int)).toNat (false : Bool)) ∧ HSub H H4677) ?_ ?_
 ·rintro H4677 f bs gs ⟨v43, xs44, v23, xs24, hf3, hf4, hf5, hf7, hf18, hf21, hf23, rfl, rfl, hm4678, hm4679, hs4677⟩
  refine (JA.norm (i := 3) hf3 (JA.norm (i := 4) hf4 (JA.norm (i := 5) hf5 (JA.norm (i := 7) hf7 (JA.norm (i := 18) hf18 (JA.norm (i := 21) hf21 (JA.norm (i := 23) hf23 ?_)))))))
  refine JA.many [1] (by kernel_rfl) (by simp) (all_one ⟨_, (tf 6 3), rfl, (by kernel_rfl), ?_⟩)
  refine JL.makeG (R := RInt) (z0 := 0) (.inl ap_28) ze_3 rfl (fun _ => rfl) rfl rfl hu4 .none rfl ?_
  intro v4680 xs4681 hch4682
  refine JA.after hE hs4677 (.cons_cons _ (.cons_cons _ (.cons_cons _ (List.nil_sublist _)))) ?_
  refine JA.take 6 (listed' := (tf 7 2)) hQ rfl (by kernel_rfl) (by kernel_rfl) (by kernel_rfl) (by kernel_rfl) (by kernel_rfl) hE hs4677 (.cons_cons _ (.cons_cons _ (.cons_cons _ (List.nil_sublist _)))) ?_
  refine JL.assign .none rfl (JA.cont ?_)
  refine JA.take 7 (listed' := (tf 8 1)) hQ rfl (by kernel_rfl) (by kernel_rfl) (by kernel_rfl) (by kernel_rfl) (by kernel_rfl) hE hs4677 (.cons_cons _ (.cons_cons _ (.cons_cons _ (List.nil_sublist _)))) ?_
  refine JL.assign .none rfl (JA.cont ?_)
  refine JA.take 8 (listed' := (tf 9 0)) hQ rfl (by kernel_rfl) (by kernel_rfl) (by kernel_rfl) (by kernel_rfl) (by kernel_rfl) hE hs4677 (.cons_cons _ (.cons_cons _ (.cons_cons _ (List.nil_sublist _)))) ?_
  refine JL.assign .none rfl (JA.cont ?_)
  refine JA.permG (swapAt_perm 0 _) ?_
  refine JA.permG (swapAt_perm 1 _) ?_
  exact nd66_0 _ _ _ _ ⟨v43, xs44, v23, xs24, v4680, xs4681, rfl, rfl, rfl, rfl, rfl, rfl, rfl, rfl, rfl, hm4678, hm4679, hch4682, hs4677⟩
 intro nd66_3
 refine JA.tk 0 (tf 1 8) hQ rfl hE (.cons_cons _ (.cons_cons _ (.cons_cons _ (List.nil_sublist _)))) ?_
 refine JL.move .none rfl (JA.cont ?_)
 refine JA.tk 2 #[true, false, true, false, false, false, false, false, false] hQ rfl hE (.cons_cons _ (.cons_cons _ (.cons_cons _ (List.nil_sublist _)))) ?_
 refine JL.move .none rfl (JA.cont ?_)
 refine JA.tk 4 #[true, false, true, false, true, false, false, false, false] hQ rfl hE (.cons_cons _ (.cons_cons _ (.cons_cons _ (List.nil_sublist _)))) ?_
 refine JL.move .none rfl (JA.cont ?_)
 refine JA.many [1, 3, 5] (by kernel_rfl) (by simp) (all_cons ⟨_, #[true, true, true, false, true, false, false, false, false], rfl, (by kernel_rfl), ?_⟩ (all_cons ⟨_, #[true, false, true, true, true, false, false, false, false], rfl, (by kernel_rfl), ?_⟩ (all_one ⟨_, #[true, false, true, false, true, true, false, false, false], rfl, (by kernel_rfl), ?_⟩)))
 ·skip
  refine JL.makeG (R := RInt) (z0 := 0) (.inl ap_28) ze_3 rfl (fun _ => rfl) rfl rfl hu4 .none rfl ?_
  intro v4684 xs4685 hch4686
  refine JA.after hE (HSub.refl _) (.cons_cons _ (.cons_cons _ (.cons_cons _ (List.nil_sublist _)))) ?_
  refine JA.tk 6 #[true, true, true, false, true, false, true, false, false] hQ rfl hE (.cons_cons _ (.cons_cons _ (.cons_cons _ (List.nil_sublist _)))) ?_
  refine JL.assign .none rfl (JA.cont ?_)
  refine JA.many [3, 5] (by kernel_rfl) (by simp) (all_cons ⟨_, #[true, true, true, true, true, false, true, false, false], rfl, (by kernel_rfl), ?_⟩ (all_one ⟨_, #[true, true, true, false, true, true, true, false, false], rfl, (by kernel_rfl), ?_⟩))
  ·skip
   refine JL.makeG (R := RBool) (z0 := false) (.inr ap_126) ze_4 rfl (fun _ => rfl) rfl rfl hu9 .none rfl ?_
   intro v4688 xs4689 hch4690
   refine JA.after hE (HSub.refl _) (.cons_cons _ (.cons_cons _ (.cons_cons _ (List.nil_sublist _)))) ?_
   refine JA.tk 7 #[true, true, true, true, true, false, true, true, false] hQ rfl hE (.cons_cons _ (.cons_cons _ (.cons_cons _ (List.nil_sublist _)))) ?_
   refine JL.assign .none rfl (JA.cont ?_)
   exact nd66_1 _ _ _ _ ⟨v4688, xs4689, v4684, xs4685, rfl, rfl, rfl, rfl, rfl, rfl, rfl, rfl, rfl, hch4690, hch4686, (HSub.refl _)⟩
  ·skip
   refine JL.makeG (R := RInt) (z0 := 0) (.inl ap_28) ze_3 rfl (fun _ => rfl) rfl rfl hu14 .none rfl ?_
   intro v4692 xs4693 hch4694
   refine JA.after hE (HSub.refl _) (.cons_cons _ (.cons_cons _ (.cons_cons _ (List.nil_sublist _)))) ?_
   exact nd66_2 _ _ _ _ ⟨v4692, xs4693, v4684, xs4685, rfl, rfl, rfl, rfl, rfl, rfl, rfl, rfl, rfl, hch4694, hch4686, (HSub.refl _)⟩
 ·skip
  refine JL.makeG (R := RBool) (z0 := false) (.inr ap_126) ze_4 rfl (fun _ => rfl) rfl rfl hu9 .none rfl ?_
  intro v4696 xs4697 hch4698
  refine JA.after hE (HSub.refl _) (.cons_cons _ (.cons_cons _ (.cons_cons _ (List.nil_sublist _)))) ?_
  refine JA.many [1, 5] (by kernel_rfl) (by simp) (all_cons ⟨_, (tf 5 4), rfl, (by kernel_rfl), ?_⟩ (all_one ⟨_, #[true, false, true, true, true, true, false, false, false], rfl, (by kernel_rfl), ?_⟩))
  ·skip
   refine JL.makeG (R := RInt) (z0 := 0) (.inl ap_28) ze_3 rfl (fun _ => rfl) rfl rfl hu4 .none rfl ?_
   intro v4700 xs4701 hch4702
   refine JA.after hE (HSub.refl _) (.cons_cons _ (.cons_cons _ (.cons_cons _ (List.nil_sublist _)))) ?_
   refine JA.tk 6 #[true, true, true, true, true, false, true, false, false] hQ rfl hE (.cons_cons _ (.cons_cons _ (.cons_cons _ (List.nil_sublist _)))) ?_
   refine JL.assign .none rfl (JA.cont ?_)
   refine JA.tk 7 #[true, true, true, true, true, false, true, true, false] hQ rfl hE (.cons_cons _ (.cons_cons _ (.cons_cons _ (List.nil_sublist _)))) ?_
   refine JL.assign .none rfl (JA.cont ?_)
   refine JA.permG (swapAt_perm 0 _) ?_
   exact nd66_1 _ _ _ _ ⟨v4696, xs4697, v4700, xs4701, rfl, rfl, rfl, rfl, rfl, rfl, rfl, rfl, rfl, hch4698, hch4702, (HSub.refl _)⟩
  ·skip
   refine JL.makeG (R := RInt) (z0 := 0) (.inl ap_28) ze_3 rfl (fun _ => rfl) rfl rfl hu14 .none rfl ?_
   intro v4704 xs4705 hch4706
   refine JA.after hE (HSub.refl _) (.cons_cons _ (.cons_cons _ (.cons_cons _ (List.nil_sublist _)))) ?_
   exact nd66_3 _ _ _ _ ⟨v4704, xs4705, v4696, xs4697, rfl, rfl, rfl, rfl, rfl, rfl, rfl, rfl, rfl, hch4706, hch4698, (HSub.refl _)⟩
 ·skip
  refine JL.makeG (R := RInt) (z0 := 0) (.inl ap_28) ze_3 rfl (fun _ => rfl) rfl rfl hu14 .none rfl ?_
  intro v4708 xs4709 hch4710
  refine JA.after hE (HSub.refl _) (.cons_cons _ (.cons_cons _ (.cons_cons _ (List.nil_sublist _)))) ?_
  refine JA.many [1, 3] (by kernel_rfl) (by simp) (all_cons ⟨_, #[true, true, true, false, true, true, false, false, false], rfl, (by kernel_rfl), ?_⟩ (all_one ⟨_, #[true, false, true, true, true, true, false, false, false], rfl, (by kernel_rfl), ?_⟩))
  ·skip
   refine JL.makeG (R := RInt) (z0 := 0) (.inl ap_28) ze_3 rfl (fun _ => rfl) rfl rfl hu4 .none rfl ?_
   intro v4712 xs4713 hch4714
   refine JA.after hE (HSub.refl _) (.cons_cons _ (.cons_cons _ (.cons_cons _ (List.nil_sublist _)))) ?_
   refine JA.tk 6 #[true, true, true, false, true, true, true, false, false] hQ rfl hE (.cons_cons _ (.cons_cons _ (.cons_cons _ (List.nil_sublist _)))) ?_
   refine JL.assign .none rfl (JA.cont ?_)
   refine JA.permG (swapAt_perm 0 _) ?_
   exact nd66_2 _ _ _ _ ⟨v4708, xs4709, v4712, xs4713, rfl, rfl, rfl, rfl, rfl, rfl, rfl, rfl, rfl, hch4710, hch4714, (HSub.refl _)⟩
  ·skip
   refine JL.makeG (R := RBool) (z0 := false) (.inr ap_126) ze_4 rfl (fun _ => rfl) rfl rfl hu9 .none rfl ?_
   intro v4716 xs4717 hch4718
   refine JA.after hE (HSub.refl _) (.cons_cons _ (.cons_cons _ (.cons_cons _ (List.nil_sublist _)))) ?_
   refine JA.permG (swapAt_perm 0 _) ?_
   exact nd66_3 _ _ _ _ ⟨v4708, xs4709, v4716, xs4717, rfl, rfl, rfl, rfl, rfl, rfl, rfl, rfl, rfl, hch4710, hch4718, (HSub.refl _)⟩
end Go.Proofs.YtcipdblhopffbaaGreat
end
