/-
  A part of the proof of MoMost: the texts MoGenK8, MoGenK9.
-/
import Derived.Test.YteihdclpiekmaaaJMoMost5
section
set_option maxRecDepth 100000
set_option maxHeartbeats 40000000
namespace Go.Proofs.Yteihdclpiekmaaa
open Go Go.RowKit Go.Dec
set_option linter.unusedVariables false
-- 88 ferrule/gusts.ends
def F_gusts_ends_s1 (n : Nat) (d : Canopy) : Int × List Int × List Int → Option ((Int × List Int × List Int) ⊕ (List Int × List Int))
 | (x_1387, out_1388, out_1389) => if decide (x_1387 < (d.Ribs.length : Int)) = true then ((geti d.Ribs x_1387).bind fun y1394 => (lim (out_1388 ++ [y1394.High])).bind fun l1401 => (lim (out_1389 ++ [y1394.Low])).bind fun l1406 => some (Sum.inl ((w64 (x_1387 + 1)), l1401, l1406))) else (some (Sum.inr (out_1388, out_1389)))
def F_gusts_ends (n : Nat) (d : Canopy) : Option (gusts_blown × gusts_blown) :=
 (F_gusts_lift n d).bind fun y4 => (loopO n (F_gusts_ends_s1 n d) (0, ([] : List Int), ([] : List Int))).bind fun r1010 => match r1010 with | (out_1007, out_1008) => some ((gusts_blown.mk y4.Low out_1007 d.Shares), (gusts_blown.mk y4.High out_1008 d.Shares))
theorem c_gusts_ends (n : Nat) (H : Hp) (d : Canopy) (d_v0 : Value) (hd_0 : SL H 7 R_Section d_v0 d.Frame.Sections) (d_v7 : Value) (hd_7 : SL H 2 R_Span d_v7 d.Ribs) (d_v8 : Value) (hd_8 : SL H 1 RInt d_v8 d.Shares) (y : gusts_blown × gusts_blown) (hF : F_gusts_ends n d = some y) : HC Try.prog 88 [.agg [d_v0, .int .i64 d.Frame.Low, .int .i64 d.Frame.High, .int .i64 d.Frame.Ease.Num, .int .i64 d.Frame.Ease.Den, .int .i64 d.Frame.Rod, .int .i64 d.Frame.Case, d_v7, d_v8].toArray] H (fun H' v => ∃ ra_v1 ra_v2 rb_v1 rb_v2 : Value, v = .tuple [.agg [.int .i64 y.1.lift, ra_v1, ra_v2].toArray, .agg [.int .i64 y.2.lift, rb_v1, rb_v2].toArray].toArray ∧ SL H' 1 RInt ra_v1 y.1.ribs ∧ SL H' 1 RInt ra_v2 y.1.shares ∧ SL H' 1 RInt rb_v1 y.2.ribs ∧ SL H' 1 RInt rb_v2 y.2.shares) := by
 rw [F_gusts_ends] at hF
 refine HC.of (N := 43) Try.func88 rfl rfl rfl fun w => ?_
 refine JC.seq (JC.region (by rfl) ?_)
 intro hQ
 refine JL.box (cs := [d_v0, .int .i64 d.Frame.Low, .int .i64 d.Frame.High, .int .i64 d.Frame.Ease.Num, .int .i64 d.Frame.Ease.Den, .int .i64 d.Frame.Rod, .int .i64 d.Frame.Case, d_v7, d_v8]) rfl .none rfl ?_
 intro b1
 refine JL.alloc ze_156 .none rfl ?_
 intro b2
 refine JL.alloc ze_156 .none rfl ?_
 intro b3
 refine JL.done hQ (JQ.go (JC.seq (JC.region (by rfl) ?_)))
 intro hQ
 refine JL.loadOwn 2 az_76 rfl rfl rfl .none rfl ?_
 obtain ⟨y4, hy4, hF⟩ := bind_some hF
 refine JL.callS (c_gusts_lift n H d d_v0 hd_0 d_v7 hd_7 d_v8 hd_8 y4 hy4) rfl en_85 .none rfl ?_
 refine JL.alloc ze_39 .none rfl ?_
 intro b5
 refine JL.storeOwn 0 (cs := [.int .i64 y4.Low, .int .i64 y4.High]) az_39 rfl rfl rfl (one_cons rfl (one_cons rfl one_nil)) rfl rfl .none ?_
 refine JL.done hQ (JQ.go (JC.seq ?_))
 obtain ⟨a9, c10, rfl, hh11⟩ := hd_0
 have hd_0 : SL H 7 R_Section (.slice a9 d.Frame.Sections.length c10) d.Frame.Sections := ⟨a9, c10, rfl, hh11⟩
 obtain ⟨a12, c13, rfl, hh14⟩ := hd_7
 have hd_7 : SL H 2 R_Span (.slice a12 d.Ribs.length c13) d.Ribs := ⟨a12, c13, rfl, hh14⟩
 obtain ⟨a15, c16, rfl, hh17⟩ := hd_8
 have hd_8 : SL H 1 RInt (.slice a15 d.Shares.length c16) d.Shares := ⟨a15, c16, rfl, hh17⟩
 refine JC.mixed 12 12 #[false, false, false, false, false, false, false, false, false, false, false, false] [(b5, .cells [.int .i64 y4.Low, .int .i64 y4.High].toArray 39), (b1, .cells [(.slice a9 d.Frame.Sections.length c10), .int .i64 d.Frame.Low, .int .i64 d.Frame.High, .int .i64 d.Frame.Ease.Num, .int .i64 d.Frame.Ease.Den, .int .i64 d.Frame.Rod, .int .i64 d.Frame.Case, (.slice a12 d.Ribs.length c13), (.slice a15 d.Shares.length c16)].toArray 76)] (by rfl) mo_ (by kernel_rfl) (by kernel_rfl) ?_
 intro hQ hE
 refine JA.take 0 (listed' := #[true, false, false, false, false, false, false, false, false, false, false, false]) hQ rfl (by kernel_rfl) (by kernel_rfl) (by kernel_rfl) (by kernel_rfl) (by kernel_rfl) hE (HSub.refl _) (.cons_cons _ (.cons _ (.cons _ (.cons_cons _ (List.nil_sublist _))))) ?_
 refine JL.fieldAddr fo_39_0 rfl .none rfl ?_
 refine JA.cont ?_
 refine JA.take 1 (listed' := #[true, true, false, false, false, false, false, false, false, false, false, false]) hQ rfl (by kernel_rfl) (by kernel_rfl) (by kernel_rfl) (by kernel_rfl) (by kernel_rfl) hE (HSub.refl _) (.cons_cons _ (.cons _ (.cons _ (.cons_cons _ (List.nil_sublist _))))) ?_
 refine JL.loadOwn 0 az_3 rfl rfl rfl .none rfl ?_
 refine JA.cont ?_
 refine JA.take 2 (listed' := #[true, true, true, false, false, false, false, false, false, false, false, false]) hQ rfl (by kernel_rfl) (by kernel_rfl) (by kernel_rfl) (by kernel_rfl) (by kernel_rfl) hE (HSub.refl _) (.cons_cons _ (.cons _ (.cons _ (.cons_cons _ (List.nil_sublist _))))) ?_
 refine JL.fieldAddr fo_76_2 rfl .none rfl ?_
 refine JA.cont ?_
 refine JA.take 3 (listed' := #[true, true, true, true, false, false, false, false, false, false, false, false]) hQ rfl (by kernel_rfl) (by kernel_rfl) (by kernel_rfl) (by kernel_rfl) (by kernel_rfl) hE (HSub.refl _) (.cons_cons _ (.cons _ (.cons _ (.cons_cons _ (List.nil_sublist _))))) ?_
 refine JL.loadOwn 1 az_23 rfl rfl rfl .none rfl ?_
 refine JA.cont ?_
 refine JA.take 4 (listed' := #[true, true, true, true, true, false, false, false, false, false, false, false]) hQ rfl (by kernel_rfl) (by kernel_rfl) (by kernel_rfl) (by kernel_rfl) (by kernel_rfl) hE (HSub.refl _) (.cons_cons _ (.cons _ (.cons _ (.cons_cons _ (List.nil_sublist _))))) ?_
 refine JL.build (l := [.int .i64 y4.Low, .slice none 0 0, (.slice a15 d.Shares.length c16)]) (by kernel_rfl) .none rfl ?_
 refine JA.cont ?_
 refine JA.take 5 (listed' := #[true, true, true, true, true, true, false, false, false, false, false, false]) hQ rfl (by kernel_rfl) (by kernel_rfl) (by kernel_rfl) (by kernel_rfl) (by kernel_rfl) hE (HSub.refl _) (.cons_cons _ (.cons _ (.cons _ (.cons_cons _ (List.nil_sublist _))))) ?_
 refine JL.fieldAddr fo_39_1 rfl .none rfl ?_
 refine JA.cont ?_
 refine JA.take 6 (listed' := #[true, true, true, true, true, true, true, false, false, false, false, false]) hQ rfl (by kernel_rfl) (by kernel_rfl) (by kernel_rfl) (by kernel_rfl) (by kernel_rfl) hE (HSub.refl _) (.cons_cons _ (.cons _ (.cons _ (.cons_cons _ (List.nil_sublist _))))) ?_
 refine JL.loadOwn 0 az_3 rfl rfl rfl .none rfl ?_
 refine JA.cont ?_
 refine JA.take 7 (listed' := #[true, true, true, true, true, true, true, true, false, false, false, false]) hQ rfl (by kernel_rfl) (by kernel_rfl) (by kernel_rfl) (by kernel_rfl) (by kernel_rfl) hE (HSub.refl _) (.cons_cons _ (.cons _ (.cons _ (.cons_cons _ (List.nil_sublist _))))) ?_
 refine JL.fieldAddr fo_76_2 rfl .none rfl ?_
 refine JA.cont ?_
 refine JA.take 8 (listed' := #[true, true, true, true, true, true, true, true, true, false, false, false]) hQ rfl (by kernel_rfl) (by kernel_rfl) (by kernel_rfl) (by kernel_rfl) (by kernel_rfl) hE (HSub.refl _) (.cons_cons _ (.cons _ (.cons _ (.cons_cons _ (List.nil_sublist _))))) ?_
 refine JL.loadOwn 1 az_23 rfl rfl rfl .none rfl ?_
 refine JA.cont ?_
 refine JA.take 9 (listed' := #[true, true, true, true, true, true, true, true, true, true, false, false]) hQ rfl (by kernel_rfl) (by kernel_rfl) (by kernel_rfl) (by kernel_rfl) (by kernel_rfl) hE (HSub.refl _) (.cons_cons _ (.cons _ (.cons _ (.cons_cons _ (List.nil_sublist _))))) ?_
 refine JL.build (l := [.int .i64 y4.High, .slice none 0 0, (.slice a15 d.Shares.length c16)]) (by kernel_rfl) .none rfl ?_
 refine JA.cont ?_
 refine JA.many [10] (by kernel_rfl) (by simp) (all_one ⟨_, #[true, true, true, true, true, true, true, true, true, true, true, false], rfl, (by kernel_rfl), ?_⟩)
 refine JL.storeOwn 2 (cs := [.int .i64 y4.Low, .slice none 0 0, (.slice a15 d.Shares.length c16)]) az_156 rfl rfl rfl (one_cons rfl (one_cons rfl (one_cons (SL.one hd_8) one_nil))) rfl rfl .none ?_
 refine JA.after hE (HSub.refl _) (.cons_cons _ (.cons _ (.cons _ (.cons_cons _ (List.nil_sublist _))))) ?_
 refine JA.many [11] (by kernel_rfl) (by simp) (all_one ⟨_, #[true, true, true, true, true, true, true, true, true, true, true, true], rfl, (by kernel_rfl), ?_⟩)
 refine JL.storeOwn 1 (cs := [.int .i64 y4.High, .slice none 0 0, (.slice a15 d.Shares.length c16)]) az_156 rfl rfl rfl (one_cons rfl (one_cons rfl (one_cons (SL.one hd_8) one_nil))) rfl rfl .none ?_
 refine JA.after hE (HSub.refl _) (.cons_cons _ (.cons _ (.cons _ (.cons_cons _ (List.nil_sublist _))))) ?_
 refine JA.done hQ (by kernel_rfl) ?_
 refine JQ.go (JC.fresh (fun f => f 1 = .pointer (some ⟨b1, 0, none⟩) ∧ f 2 = .pointer (some ⟨b2, 0, none⟩) ∧ f 3 = .pointer (some ⟨b3, 0, none⟩)) ⟨rfl, rfl, rfl⟩ ?_)
 rintro f ⟨hf1, hf2, hf3⟩
 refine (JC.norm (i := 1) hf1 (JC.norm (i := 2) hf2 (JC.norm (i := 3) hf3 ?_)))
 refine JC.seq (JC.seq (JC.region (by rfl) ?_))
 intro hQ
 refine JL.fieldAddr fo_76_1 rfl .none rfl ?_
 refine JL.loadOwn 3 az_24 rfl rfl rfl .none rfl ?_
 refine JL.lenSL (R := R_Span) ul_24 hd_7 .none rfl ?_
 refine JL.move .none rfl ?_
 refine JL.done hQ (JQ.go (JC.newNil (e := 3) (sz := 1) ?_))
 refine JC.newNil (e := 3) (sz := 1) ?_
 obtain ⟨r1010, hlr1010, hKr1010⟩ := bind_some hF
 refine JC.join (fun (x : List Int × List Int) H1009 f bs gs => match x with | (out_1007, out_1008) => ∃ (vout_1007 : Value) (xsout_1007 : List Value) (vout_1008 : Value) (xsout_1008 : List Value), f 2 = .pointer (some ⟨b2, 0, none⟩) ∧ f 3 = .pointer (some ⟨b3, 0, none⟩) ∧ bs = [(b3, .cells [.int .i64 y4.High, vout_1008, (.slice a15 d.Shares.length c16)].toArray 156), (b2, .cells [.int .i64 y4.Low, vout_1007, (.slice a15 d.Shares.length c16)].toArray 156)] ∧ gs = [⟨vout_1007, 3, 1, out_1007.length, xsout_1007⟩, ⟨vout_1008, 3, 1, out_1008.length, xsout_1008⟩] ∧ CH H1009 1 RInt xsout_1007 out_1007 ∧ CH H1009 1 RInt xsout_1008 out_1008 ∧ HSub H H1009 ∧ (out_1007, out_1008) = r1010) ?_ ?_
 ·skip
  refine JC.block (JC.mask [false, true, true, false] [true, true] ?_)
  refine JC.loop hlr1010 (fun (x : Int × List Int × List Int) H1390 f bs gs => match x with | (x_1387, out_1388, out_1389) => ∃ (vout_1388 : Value) (xsout_1388 : List Value) (vout_1389 : Value) (xsout_1389 : List Value), f 2 = .pointer (some ⟨b2, 0, none⟩) ∧ f 3 = .pointer (some ⟨b3, 0, none⟩) ∧ f 20 = (.slice a12 d.Ribs.length c13) ∧ f 21 = .int .i64 (d.Ribs.length : Int) ∧ f 22 = .int .i64 x_1387 ∧ bs = [(b3, .cells [.int .i64 y4.High, vout_1389, (.slice a15 d.Shares.length c16)].toArray 156), (b2, .cells [.int .i64 y4.Low, vout_1388, (.slice a15 d.Shares.length c16)].toArray 156)] ∧ gs = [⟨vout_1388, 3, 1, out_1388.length, xsout_1388⟩, ⟨vout_1389, 3, 1, out_1389.length, xsout_1389⟩] ∧ CH H1390 1 RInt xsout_1388 out_1388 ∧ CH H1390 1 RInt xsout_1389 out_1389 ∧ HSub H H1390) ⟨(.slice none 0 0), [], (.slice none 0 0), [], rfl, rfl, rfl, rfl, rfl, rfl, rfl, CH.nil, CH.nil, (HSub.refl _)⟩ ?_
  rintro ⟨x_1387, out_1388, out_1389⟩ x1392 H1390 f bs gs ⟨vout_1388, xsout_1388, vout_1389, xsout_1389, hf2, hf3, hf20, hf21, hf22, rfl, rfl, hout_1388, hout_1389, hs1390⟩ hF hr1391
  rw [F_gusts_ends_s1] at hF
  refine (JC.norm (i := 2) hf2 (JC.norm (i := 3) hf3 (JC.norm (i := 20) hf20 (JC.norm (i := 21) hf21 (JC.norm (i := 22) hf22 ?_)))))
  refine JC.seq (JC.region (by rfl) ?_)
  intro hQ
  refine JL.bin rfl rfl rfl .none rfl ?_
  refine JL.done hQ (JQ.go (JC.seq ?_))
  rcases ite_some hF with ⟨hc1393, hF⟩ | ⟨hc1393, hF⟩
  ·refine JC.cond_t (b := decide (x_1387 < (d.Ribs.length : Int))) rfl hc1393 ?_
   refine JC.skip (JQ.go (JC.seq (JC.block (JC.seq (JC.region (by rfl) ?_)))))
   intro hQ
   obtain ⟨y1394, hy1394, hF⟩ := bind_some hF
   refine JL.indexSL (R := R_Span) sl_24 (SL.mono R_Span_mono hs1390 hd_7) rfl hy1394 .none rfl ?_
   rintro b1395 o1396 cs1397 hc1398 - rfl
   refine JL.loadH 0 az_39 rfl hc1398 rfl .none rfl ?_
   refine JL.alloc ze_39 .none rfl ?_
   intro b1399
   refine JL.storeOwn 0 (cs := [.int .i64 y1394.Low, .int .i64 y1394.High]) az_39 rfl rfl rfl (one_cons rfl (one_cons rfl one_nil)) rfl rfl .none ?_
   refine JL.done hQ (JQ.go ?_)
   obtain ⟨l1401, hl1401, hF⟩ := bind_some hF
   obtain ⟨l1406, hl1406, hF⟩ := bind_some hF
   refine JC.mixed 16 16 #[false, false, false, false, false, false, false, false, false, false, false, false, false, false, false, false] [(b1399, .cells [.int .i64 y1394.Low, .int .i64 y1394.High].toArray 39)] (by rfl) mo_ (by kernel_rfl) (by kernel_rfl) ?_
   intro hQ hE
   refine JA.cut 4 #[true, true, true, true, true, true, true, true, true, true, true, false, true, false, false, false] (fun H1525 f bs gs => ∃ (b1516 : Nat) (b1492 : Nat) (v1498 : Value) (xs1499 : List Value), f 2 = .pointer (some ⟨b2, 0, none⟩) ∧ f 3 = .pointer (some ⟨b3, 0, none⟩) ∧ f 20 = (.slice a12 d.Ribs.length c13) ∧ f 21 = .int .i64 (d.Ribs.length : Int) ∧ f 22 = .int .i64 x_1387 ∧ f 31 = v1498 ∧ f 33 = vout_1389 ∧ f 36 = .slice (some ⟨b1516, 0, none⟩) 1 1 ∧ f 38 = .pointer (some ⟨b2, 1, none⟩) ∧ bs = [(b1516, .cells [.int .i64 y1394.Low].toArray 3), (b1492, .cells [.int .i64 y1394.High].toArray 3), (b1399, .cells [.int .i64 y1394.Low, .int .i64 y1394.High].toArray 39), (b3, .cells [.int .i64 y4.High, vout_1389, (.slice a15 d.Shares.length c16)].toArray 156), (b2, .cells [.int .i64 y4.Low, vout_1388, (.slice a15 d.Shares.length c16)].toArray 156)] ∧ gs = [⟨v1498, 3, 1, l1401.length, xs1499⟩, ⟨vout_1389, 3, 1, out_1389.length, xsout_1389⟩] ∧ CH H1525 1 RInt xs1499 l1401 ∧ HSub H1390 H1525) ?_ ?_
   ·rintro H1525 f bs gs ⟨b1516, b1492, v1498, xs1499, hf2, hf3, hf20, hf21, hf22, hf31, hf33, hf36, hf38, rfl, rfl, hm1526, hs1525⟩
    refine (JA.norm (i := 2) hf2 (JA.norm (i := 3) hf3 (JA.norm (i := 20) hf20 (JA.norm (i := 21) hf21 (JA.norm (i := 22) hf22 (JA.norm (i := 31) hf31 (JA.norm (i := 33) hf33 (JA.norm (i := 36) hf36 (JA.norm (i := 38) hf38 ?_)))))))))
    refine JA.many [11] (by kernel_rfl) (by simp) (all_one ⟨_, #[true, true, true, true, true, true, true, true, true, true, true, true, true, false, false, false], rfl, (by kernel_rfl), ?_⟩)
    refine JL.appO (R := RInt) 1 0 (l := out_1389) (m := [y1394.Low]) ap_23 rfl ⟨rfl, rfl⟩ rfl (CH.mono RInt.mono hs1525 hout_1389) rfl rfl rfl (CH.cons (cs := [.int .i64 y1394.Low]) rfl rfl CH.nil) rfl (one_cons rfl one_nil) hl1406 .none rfl ?_
    intro v1527 xs1528 hch1529
    refine JA.after hE hs1525 (.cons _ (.cons _ (.cons_cons _ (.cons _ (.cons _ (List.nil_sublist _)))))) ?_
    refine JA.many [13] (by kernel_rfl) (by simp) (all_one ⟨_, #[true, true, true, true, true, true, true, true, true, true, true, true, true, true, false, false], rfl, (by kernel_rfl), ?_⟩)
    refine JL.oneG 0 rfl (fun ho1530 => ?_)
    refine JL.storeOwn 4 (cs := [v1498]) az_23 rfl ho1530.2 rfl (one_cons ho1530.1 one_nil) rfl rfl .none ?_
    refine JA.after hE hs1525 (.cons _ (.cons _ (.cons_cons _ (.cons _ (.cons _ (List.nil_sublist _)))))) ?_
    refine JA.take 14 (listed' := #[true, true, true, true, true, true, true, true, true, true, true, true, true, true, true, false]) hQ rfl (by kernel_rfl) (by kernel_rfl) (by kernel_rfl) (by kernel_rfl) (by kernel_rfl) hE hs1525 (.cons _ (.cons _ (.cons_cons _ (.cons _ (.cons _ (List.nil_sublist _)))))) ?_
    refine JL.fieldAddr fo_156_1 rfl .none rfl ?_
    refine JA.cont ?_
    refine JA.many [15] (by kernel_rfl) (by simp) (all_one ⟨_, #[true, true, true, true, true, true, true, true, true, true, true, true, true, true, true, true], rfl, (by kernel_rfl), ?_⟩)
    refine JL.oneG 1 rfl (fun ho1531 => ?_)
    refine JL.storeOwn 3 (cs := [v1527]) az_23 rfl ho1531.2 rfl (one_cons ho1531.1 one_nil) rfl rfl .none ?_
    refine JA.after hE hs1525 (.cons _ (.cons _ (.cons_cons _ (.cons _ (.cons _ (List.nil_sublist _)))))) ?_
    refine JA.done hQ (by kernel_rfl) ?_
    refine JQ.normal_block (JQ.go (JC.region (by rfl) ?_))
    intro hQ
    refine JL.bin rfl rfl rfl .none rfl ?_
    refine JL.move .none rfl ?_
    refine JL.done hQ ?_
    obtain rfl := Option.some.inj hF
    refine JQ.mask [false, false, false, true, true] [true, true] ?_
    exact JQ.next rfl ⟨v1498, xs1499, v1527, xs1528, rfl, rfl, rfl, rfl, rfl, rfl, rfl, hm1526, hch1529, (HSub.trans hs1390 hs1525)⟩
   intro nd1524_0
   refine JA.cut 5 #[true, true, true, true, true, true, true, true, true, true, false, false, true, false, false, false] (fun H1532 f bs gs => ∃ (b1492 : Nat) (v1498 : Value) (xs1499 : List Value), f 2 = .pointer (some ⟨b2, 0, none⟩) ∧ f 3 = .pointer (some ⟨b3, 0, none⟩) ∧ f 20 = (.slice a12 d.Ribs.length c13) ∧ f 21 = .int .i64 (d.Ribs.length : Int) ∧ f 22 = .int .i64 x_1387 ∧ f 31 = v1498 ∧ f 33 = vout_1389 ∧ f 35 = .int .i64 y1394.Low ∧ f 38 = .pointer (some ⟨b2, 1, none⟩) ∧ bs = [(b1492, .cells [.int .i64 y1394.High].toArray 3), (b1399, .cells [.int .i64 y1394.Low, .int .i64 y1394.High].toArray 39), (b3, .cells [.int .i64 y4.High, vout_1389, (.slice a15 d.Shares.length c16)].toArray 156), (b2, .cells [.int .i64 y4.Low, vout_1388, (.slice a15 d.Shares.length c16)].toArray 156)] ∧ gs = [⟨v1498, 3, 1, l1401.length, xs1499⟩, ⟨vout_1389, 3, 1, out_1389.length, xsout_1389⟩] ∧ CH H1532 1 RInt xs1499 l1401 ∧ HSub H1390 H1532) ?_ ?_
   ·rintro H1532 f bs gs ⟨b1492, v1498, xs1499, hf2, hf3, hf20, hf21, hf22, hf31, hf33, hf35, hf38, rfl, rfl, hm1533, hs1532⟩
    refine (JA.norm (i := 2) hf2 (JA.norm (i := 3) hf3 (JA.norm (i := 20) hf20 (JA.norm (i := 21) hf21 (JA.norm (i := 22) hf22 (JA.norm (i := 31) hf31 (JA.norm (i := 33) hf33 (JA.norm (i := 35) hf35 (JA.norm (i := 38) hf38 ?_)))))))))
    refine JA.many [10] (by kernel_rfl) (by simp) (all_one ⟨_, #[true, true, true, true, true, true, true, true, true, true, true, false, true, false, false, false], rfl, (by kernel_rfl), ?_⟩)
    refine JL.buildSlice (e := 3) (l := [.int .i64 y1394.Low]) (by kernel_rfl) .none rfl ?_
    intro b1534
    refine JA.after hE hs1532 (.cons _ (.cons _ (.cons_cons _ (.cons _ (.cons _ (List.nil_sublist _)))))) ?_
    exact nd1524_0 _ _ _ _ ⟨b1534, b1492, v1498, xs1499, rfl, rfl, rfl, rfl, rfl, rfl, rfl, rfl, rfl, rfl, rfl, hm1533, hs1532⟩
   intro nd1524_1
   refine JA.cut 5 #[true, true, true, true, true, true, true, false, true, true, true, false, true, false, false, false] (fun H1535 f bs gs => ∃ (b1507 : Nat) (b1492 : Nat) (v1498 : Value) (xs1499 : List Value), f 2 = .pointer (some ⟨b2, 0, none⟩) ∧ f 3 = .pointer (some ⟨b3, 0, none⟩) ∧ f 20 = (.slice a12 d.Ribs.length c13) ∧ f 21 = .int .i64 (d.Ribs.length : Int) ∧ f 22 = .int .i64 x_1387 ∧ f 31 = v1498 ∧ f 32 = .pointer (some ⟨b3, 1, none⟩) ∧ f 36 = .slice (some ⟨b1507, 0, none⟩) 1 1 ∧ f 38 = .pointer (some ⟨b2, 1, none⟩) ∧ bs = [(b1507, .cells [.int .i64 y1394.Low].toArray 3), (b1492, .cells [.int .i64 y1394.High].toArray 3), (b1399, .cells [.int .i64 y1394.Low, .int .i64 y1394.High].toArray 39), (b3, .cells [.int .i64 y4.High, vout_1389, (.slice a15 d.Shares.length c16)].toArray 156), (b2, .cells [.int .i64 y4.Low, vout_1388, (.slice a15 d.Shares.length c16)].toArray 156)] ∧ gs = [⟨v1498, 3, 1, l1401.length, xs1499⟩, ⟨vout_1389, 3, 1, out_1389.length, xsout_1389⟩] ∧ CH H1535 1 RInt xs1499 l1401 ∧ HSub H1390 H1535) ?_ ?_
   ·rintro H1535 f bs gs ⟨b1507, b1492, v1498, xs1499, hf2, hf3, hf20, hf21, hf22, hf31, hf32, hf36, hf38, rfl, rfl, hm1536, hs1535⟩
    refine (JA.norm (i := 2) hf2 (JA.norm (i := 3) hf3 (JA.norm (i := 20) hf20 (JA.norm (i := 21) hf21 (JA.norm (i := 22) hf22 (JA.norm (i := 31) hf31 (JA.norm (i := 32) hf32 (JA.norm (i := 36) hf36 (JA.norm (i := 38) hf38 ?_)))))))))
    refine JA.many [7] (by kernel_rfl) (by simp) (all_one ⟨_, #[true, true, true, true, true, true, true, true, true, true, true, false, true, false, false, false], rfl, (by kernel_rfl), ?_⟩)
    refine JL.loadOwn 3 az_23 rfl rfl rfl .none rfl ?_
    refine JA.after hE hs1535 (.cons _ (.cons _ (.cons_cons _ (.cons _ (.cons _ (List.nil_sublist _)))))) ?_
    exact nd1524_0 _ _ _ _ ⟨b1507, b1492, v1498, xs1499, rfl, rfl, rfl, rfl, rfl, rfl, rfl, rfl, rfl, rfl, rfl, hm1536, hs1535⟩
   intro nd1524_2
   refine JA.cut 6 #[true, true, true, true, true, false, true, true, true, true, true, false, false, false, false, false] (fun H1537 f bs gs => ∃ (b1511 : Nat) (b1492 : Nat), f 2 = .pointer (some ⟨b2, 0, none⟩) ∧ f 3 = .pointer (some ⟨b3, 0, none⟩) ∧ f 20 = (.slice a12 d.Ribs.length c13) ∧ f 21 = .int .i64 (d.Ribs.length : Int) ∧ f 22 = .int .i64 x_1387 ∧ f 27 = vout_1388 ∧ f 30 = .slice (some ⟨b1492, 0, none⟩) 1 1 ∧ f 33 = vout_1389 ∧ f 36 = .slice (some ⟨b1511, 0, none⟩) 1 1 ∧ bs = [(b1511, .cells [.int .i64 y1394.Low].toArray 3), (b1492, .cells [.int .i64 y1394.High].toArray 3), (b1399, .cells [.int .i64 y1394.Low, .int .i64 y1394.High].toArray 39), (b3, .cells [.int .i64 y4.High, vout_1389, (.slice a15 d.Shares.length c16)].toArray 156), (b2, .cells [.int .i64 y4.Low, vout_1388, (.slice a15 d.Shares.length c16)].toArray 156)] ∧ gs = [⟨vout_1388, 3, 1, out_1388.length, xsout_1388⟩, ⟨vout_1389, 3, 1, out_1389.length, xsout_1389⟩] ∧ HSub H1390 H1537) ?_ ?_
   ·rintro H1537 f bs gs ⟨b1511, b1492, hf2, hf3, hf20, hf21, hf22, hf27, hf30, hf33, hf36, rfl, rfl, hs1537⟩
    refine (JA.norm (i := 2) hf2 (JA.norm (i := 3) hf3 (JA.norm (i := 20) hf20 (JA.norm (i := 21) hf21 (JA.norm (i := 22) hf22 (JA.norm (i := 27) hf27 (JA.norm (i := 30) hf30 (JA.norm (i := 33) hf33 (JA.norm (i := 36) hf36 ?_)))))))))
    refine JA.many [5] (by kernel_rfl) (by simp) (all_one ⟨_, #[true, true, true, true, true, true, true, true, true, true, true, false, false, false, false, false], rfl, (by kernel_rfl), ?_⟩)
    refine JL.appO (R := RInt) 0 1 (l := out_1388) (m := [y1394.High]) ap_23 rfl ⟨rfl, rfl⟩ rfl (CH.mono RInt.mono hs1537 hout_1388) rfl rfl rfl (CH.cons (cs := [.int .i64 y1394.High]) rfl rfl CH.nil) rfl (one_cons rfl one_nil) hl1401 .none rfl ?_
    intro v1538 xs1539 hch1540
    refine JA.after hE hs1537 (.cons _ (.cons _ (.cons_cons _ (.cons _ (.cons _ (List.nil_sublist _)))))) ?_
    refine JA.take 12 (listed' := #[true, true, true, true, true, true, true, true, true, true, true, false, true, false, false, false]) hQ rfl (by kernel_rfl) (by kernel_rfl) (by kernel_rfl) (by kernel_rfl) (by kernel_rfl) hE hs1537 (.cons _ (.cons _ (.cons_cons _ (.cons _ (.cons _ (List.nil_sublist _)))))) ?_
    refine JL.fieldAddr fo_156_1 rfl .none rfl ?_
    refine JA.cont ?_
    exact nd1524_0 _ _ _ _ ⟨b1511, b1492, v1538, xs1539, rfl, rfl, rfl, rfl, rfl, rfl, rfl, rfl, rfl, rfl, rfl, hch1540, hs1537⟩
   intro nd1524_3
   refine JA.cut 7 #[true, true, true, true, true, false, true, true, true, true, false, false, false, false, false, false] (fun H1541 f bs gs => ∃ (b1492 : Nat), f 2 = .pointer (some ⟨b2, 0, none⟩) ∧ f 3 = .pointer (some ⟨b3, 0, none⟩) ∧ f 20 = (.slice a12 d.Ribs.length c13) ∧ f 21 = .int .i64 (d.Ribs.length : Int) ∧ f 22 = .int .i64 x_1387 ∧ f 27 = vout_1388 ∧ f 30 = .slice (some ⟨b1492, 0, none⟩) 1 1 ∧ f 33 = vout_1389 ∧ f 35 = .int .i64 y1394.Low ∧ bs = [(b1492, .cells [.int .i64 y1394.High].toArray 3), (b1399, .cells [.int .i64 y1394.Low, .int .i64 y1394.High].toArray 39), (b3, .cells [.int .i64 y4.High, vout_1389, (.slice a15 d.Shares.length c16)].toArray 156), (b2, .cells [.int .i64 y4.Low, vout_1388, (.slice a15 d.Shares.length c16)].toArray 156)] ∧ gs = [⟨vout_1388, 3, 1, out_1388.length, xsout_1388⟩, ⟨vout_1389, 3, 1, out_1389.length, xsout_1389⟩] ∧ HSub H1390 H1541) ?_ ?_
   ·rintro H1541 f bs gs ⟨b1492, hf2, hf3, hf20, hf21, hf22, hf27, hf30, hf33, hf35, rfl, rfl, hs1541⟩
    refine (JA.norm (i := 2) hf2 (JA.norm (i := 3) hf3 (JA.norm (i := 20) hf20 (JA.norm (i := 21) hf21 (JA.norm (i := 22) hf22 (JA.norm (i := 27) hf27 (JA.norm (i := 30) hf30 (JA.norm (i := 33) hf33 (JA.norm (i := 35) hf35 ?_)))))))))
    refine JA.many [5, 10] (by kernel_rfl) (by simp) (all_cons ⟨_, #[true, true, true, true, true, true, true, true, true, true, false, false, false, false, false, false], rfl, (by kernel_rfl), ?_⟩ (all_one ⟨_, #[true, true, true, true, true, false, true, true, true, true, true, false, false, false, false, false], rfl, (by kernel_rfl), ?_⟩))
    ·skip
     refine JL.appO (R := RInt) 0 0 (l := out_1388) (m := [y1394.High]) ap_23 rfl ⟨rfl, rfl⟩ rfl (CH.mono RInt.mono hs1541 hout_1388) rfl rfl rfl (CH.cons (cs := [.int .i64 y1394.High]) rfl rfl CH.nil) rfl (one_cons rfl one_nil) hl1401 .none rfl ?_
     intro v1542 xs1543 hch1544
     refine JA.after hE hs1541 (.cons _ (.cons_cons _ (.cons _ (.cons _ (List.nil_sublist _))))) ?_
     refine JA.take 12 (listed' := #[true, true, true, true, true, true, true, true, true, true, false, false, true, false, false, false]) hQ rfl (by kernel_rfl) (by kernel_rfl) (by kernel_rfl) (by kernel_rfl) (by kernel_rfl) hE hs1541 (.cons _ (.cons_cons _ (.cons _ (.cons _ (List.nil_sublist _))))) ?_
     refine JL.fieldAddr fo_156_1 rfl .none rfl ?_
     refine JA.cont ?_
     exact nd1524_1 _ _ _ _ ⟨b1492, v1542, xs1543, rfl, rfl, rfl, rfl, rfl, rfl, rfl, rfl, rfl, rfl, rfl, hch1544, hs1541⟩
    ·skip
     refine JL.buildSlice (e := 3) (l := [.int .i64 y1394.Low]) (by kernel_rfl) .none rfl ?_
     intro b1545
     refine JA.after hE hs1541 (.cons _ (.cons _ (.cons_cons _ (.cons _ (.cons _ (List.nil_sublist _)))))) ?_
     exact nd1524_3 _ _ _ _ ⟨b1545, b1492, rfl, rfl, rfl, rfl, rfl, rfl, rfl, rfl, rfl, rfl, rfl, hs1541⟩
   intro nd1524_4
   refine JA.cut 7 #[true, true, true, true, true, false, true, false, true, true, true, false, false, false, false, false] (fun H1546 f bs gs => ∃ (b1501 : Nat) (b1492 : Nat), f 2 = .pointer (some ⟨b2, 0, none⟩) ∧ f 3 = .pointer (some ⟨b3, 0, none⟩) ∧ f 20 = (.slice a12 d.Ribs.length c13) ∧ f 21 = .int .i64 (d.Ribs.length : Int) ∧ f 22 = .int .i64 x_1387 ∧ f 27 = vout_1388 ∧ f 30 = .slice (some ⟨b1492, 0, none⟩) 1 1 ∧ f 32 = .pointer (some ⟨b3, 1, none⟩) ∧ f 36 = .slice (some ⟨b1501, 0, none⟩) 1 1 ∧ bs = [(b1501, .cells [.int .i64 y1394.Low].toArray 3), (b1492, .cells [.int .i64 y1394.High].toArray 3), (b1399, .cells [.int .i64 y1394.Low, .int .i64 y1394.High].toArray 39), (b3, .cells [.int .i64 y4.High, vout_1389, (.slice a15 d.Shares.length c16)].toArray 156), (b2, .cells [.int .i64 y4.Low, vout_1388, (.slice a15 d.Shares.length c16)].toArray 156)] ∧ gs = [⟨vout_1388, 3, 1, out_1388.length, xsout_1388⟩, ⟨vout_1389, 3, 1, out_1389.length, xsout_1389⟩] ∧ HSub H1390 H1546) ?_ ?_
   ·rintro H1546 f bs gs ⟨b1501, b1492, hf2, hf3, hf20, hf21, hf22, hf27, hf30, hf32, hf36, rfl, rfl, hs1546⟩
    refine (JA.norm (i := 2) hf2 (JA.norm (i := 3) hf3 (JA.norm (i := 20) hf20 (JA.norm (i := 21) hf21 (JA.norm (i := 22) hf22 (JA.norm (i := 27) hf27 (JA.norm (i := 30) hf30 (JA.norm (i := 32) hf32 (JA.norm (i := 36) hf36 ?_)))))))))
    refine JA.many [5, 7] (by kernel_rfl) (by simp) (all_cons ⟨_, #[true, true, true, true, true, true, true, false, true, true, true, false, false, false, false, false], rfl, (by kernel_rfl), ?_⟩ (all_one ⟨_, #[true, true, true, true, true, false, true, true, true, true, true, false, false, false, false, false], rfl, (by kernel_rfl), ?_⟩))
    ·skip
     refine JL.appO (R := RInt) 0 1 (l := out_1388) (m := [y1394.High]) ap_23 rfl ⟨rfl, rfl⟩ rfl (CH.mono RInt.mono hs1546 hout_1388) rfl rfl rfl (CH.cons (cs := [.int .i64 y1394.High]) rfl rfl CH.nil) rfl (one_cons rfl one_nil) hl1401 .none rfl ?_
     intro v1547 xs1548 hch1549
     refine JA.after hE hs1546 (.cons _ (.cons _ (.cons_cons _ (.cons _ (.cons _ (List.nil_sublist _)))))) ?_
     refine JA.take 12 (listed' := #[true, true, true, true, true, true, true, false, true, true, true, false, true, false, false, false]) hQ rfl (by kernel_rfl) (by kernel_rfl) (by kernel_rfl) (by kernel_rfl) (by kernel_rfl) hE hs1546 (.cons _ (.cons _ (.cons_cons _ (.cons _ (.cons _ (List.nil_sublist _)))))) ?_
     refine JL.fieldAddr fo_156_1 rfl .none rfl ?_
     refine JA.cont ?_
     exact nd1524_2 _ _ _ _ ⟨b1501, b1492, v1547, xs1548, rfl, rfl, rfl, rfl, rfl, rfl, rfl, rfl, rfl, rfl, rfl, hch1549, hs1546⟩
    ·skip
     refine JL.loadOwn 3 az_23 rfl rfl rfl .none rfl ?_
     refine JA.after hE hs1546 (.cons _ (.cons _ (.cons_cons _ (.cons _ (.cons _ (List.nil_sublist _)))))) ?_
     exact nd1524_3 _ _ _ _ ⟨b1501, b1492, rfl, rfl, rfl, rfl, rfl, rfl, rfl, rfl, rfl, rfl, rfl, hs1546⟩
   intro nd1524_5
   refine JA.cut 7 #[true, true, true, true, false, false, true, true, true, true, true, false, false, false, false, false] (fun H1550 f bs gs => ∃ (b1503 : Nat), f 2 = .pointer (some ⟨b2, 0, none⟩) ∧ f 3 = .pointer (some ⟨b3, 0, none⟩) ∧ f 20 = (.slice a12 d.Ribs.length c13) ∧ f 21 = .int .i64 (d.Ribs.length : Int) ∧ f 22 = .int .i64 x_1387 ∧ f 27 = vout_1388 ∧ f 29 = .int .i64 y1394.High ∧ f 33 = vout_1389 ∧ f 36 = .slice (some ⟨b1503, 0, none⟩) 1 1 ∧ bs = [(b1503, .cells [.int .i64 y1394.Low].toArray 3), (b1399, .cells [.int .i64 y1394.Low, .int .i64 y1394.High].toArray 39), (b3, .cells [.int .i64 y4.High, vout_1389, (.slice a15 d.Shares.length c16)].toArray 156), (b2, .cells [.int .i64 y4.Low, vout_1388, (.slice a15 d.Shares.length c16)].toArray 156)] ∧ gs = [⟨vout_1388, 3, 1, out_1388.length, xsout_1388⟩, ⟨vout_1389, 3, 1, out_1389.length, xsout_1389⟩] ∧ HSub H1390 H1550) ?_ ?_
   ·rintro H1550 f bs gs ⟨b1503, hf2, hf3, hf20, hf21, hf22, hf27, hf29, hf33, hf36, rfl, rfl, hs1550⟩
    refine (JA.norm (i := 2) hf2 (JA.norm (i := 3) hf3 (JA.norm (i := 20) hf20 (JA.norm (i := 21) hf21 (JA.norm (i := 22) hf22 (JA.norm (i := 27) hf27 (JA.norm (i := 29) hf29 (JA.norm (i := 33) hf33 (JA.norm (i := 36) hf36 ?_)))))))))
    refine JA.many [4] (by kernel_rfl) (by simp) (all_one ⟨_, #[true, true, true, true, true, false, true, true, true, true, true, false, false, false, false, false], rfl, (by kernel_rfl), ?_⟩)
    refine JL.buildSlice (e := 3) (l := [.int .i64 y1394.High]) (by kernel_rfl) .none rfl ?_
    intro b1551
    refine JA.after hE hs1550 (.cons _ (.cons _ (.cons_cons _ (.cons _ (.cons _ (List.nil_sublist _)))))) ?_
    refine JA.perm (swapAt_perm 0 _) ?_
    exact nd1524_3 _ _ _ _ ⟨b1503, b1551, rfl, rfl, rfl, rfl, rfl, rfl, rfl, rfl, rfl, rfl, rfl, hs1550⟩
   intro nd1524_6
   refine JA.cut 7 #[true, false, true, true, true, false, true, true, true, true, true, false, false, false, false, false] (fun H1552 f bs gs => ∃ (b1505 : Nat) (b1490 : Nat), f 2 = .pointer (some ⟨b2, 0, none⟩) ∧ f 3 = .pointer (some ⟨b3, 0, none⟩) ∧ f 20 = (.slice a12 d.Ribs.length c13) ∧ f 21 = .int .i64 (d.Ribs.length : Int) ∧ f 22 = .int .i64 x_1387 ∧ f 26 = .pointer (some ⟨b2, 1, none⟩) ∧ f 30 = .slice (some ⟨b1490, 0, none⟩) 1 1 ∧ f 33 = vout_1389 ∧ f 36 = .slice (some ⟨b1505, 0, none⟩) 1 1 ∧ bs = [(b1505, .cells [.int .i64 y1394.Low].toArray 3), (b1490, .cells [.int .i64 y1394.High].toArray 3), (b1399, .cells [.int .i64 y1394.Low, .int .i64 y1394.High].toArray 39), (b3, .cells [.int .i64 y4.High, vout_1389, (.slice a15 d.Shares.length c16)].toArray 156), (b2, .cells [.int .i64 y4.Low, vout_1388, (.slice a15 d.Shares.length c16)].toArray 156)] ∧ gs = [⟨vout_1388, 3, 1, out_1388.length, xsout_1388⟩, ⟨vout_1389, 3, 1, out_1389.length, xsout_1389⟩] ∧ HSub H1390 H1552) ?_ ?_
   ·rintro H1552 f bs gs ⟨b1505, b1490, hf2, hf3, hf20, hf21, hf22, hf26, hf30, hf33, hf36, rfl, rfl, hs1552⟩
    refine (JA.norm (i := 2) hf2 (JA.norm (i := 3) hf3 (JA.norm (i := 20) hf20 (JA.norm (i := 21) hf21 (JA.norm (i := 22) hf22 (JA.norm (i := 26) hf26 (JA.norm (i := 30) hf30 (JA.norm (i := 33) hf33 (JA.norm (i := 36) hf36 ?_)))))))))
    refine JA.many [1] (by kernel_rfl) (by simp) (all_one ⟨_, #[true, true, true, true, true, false, true, true, true, true, true, false, false, false, false, false], rfl, (by kernel_rfl), ?_⟩)
    refine JL.loadOwn 4 az_23 rfl rfl rfl .none rfl ?_
    refine JA.after hE hs1552 (.cons _ (.cons _ (.cons_cons _ (.cons _ (.cons _ (List.nil_sublist _)))))) ?_
    exact nd1524_3 _ _ _ _ ⟨b1505, b1490, rfl, rfl, rfl, rfl, rfl, rfl, rfl, rfl, rfl, rfl, rfl, hs1552⟩
   intro nd1524_7
   refine JA.cut 8 #[true, true, true, true, true, false, true, false, true, true, false, false, false, false, false, false] (fun H1553 f bs gs => ∃ (b1492 : Nat), f 2 = .pointer (some ⟨b2, 0, none⟩) ∧ f 3 = .pointer (some ⟨b3, 0, none⟩) ∧ f 20 = (.slice a12 d.Ribs.length c13) ∧ f 21 = .int .i64 (d.Ribs.length : Int) ∧ f 22 = .int .i64 x_1387 ∧ f 27 = vout_1388 ∧ f 30 = .slice (some ⟨b1492, 0, none⟩) 1 1 ∧ f 32 = .pointer (some ⟨b3, 1, none⟩) ∧ f 35 = .int .i64 y1394.Low ∧ bs = [(b1492, .cells [.int .i64 y1394.High].toArray 3), (b1399, .cells [.int .i64 y1394.Low, .int .i64 y1394.High].toArray 39), (b3, .cells [.int .i64 y4.High, vout_1389, (.slice a15 d.Shares.length c16)].toArray 156), (b2, .cells [.int .i64 y4.Low, vout_1388, (.slice a15 d.Shares.length c16)].toArray 156)] ∧ gs = [⟨vout_1388, 3, 1, out_1388.length, xsout_1388⟩, ⟨vout_1389, 3, 1, out_1389.length, xsout_1389⟩] ∧ HSub H1390 H1553) ?_ ?_
   ·rintro H1553 f bs gs ⟨b1492, hf2, hf3, hf20, hf21, hf22, hf27, hf30, hf32, hf35, rfl, rfl, hs1553⟩
    refine (JA.norm (i := 2) hf2 (JA.norm (i := 3) hf3 (JA.norm (i := 20) hf20 (JA.norm (i := 21) hf21 (JA.norm (i := 22) hf22 (JA.norm (i := 27) hf27 (JA.norm (i := 30) hf30 (JA.norm (i := 32) hf32 (JA.norm (i := 35) hf35 ?_)))))))))
    refine JA.many [5, 7, 10] (by kernel_rfl) (by simp) (all_cons ⟨_, #[true, true, true, true, true, true, true, false, true, true, false, false, false, false, false, false], rfl, (by kernel_rfl), ?_⟩ (all_cons ⟨_, #[true, true, true, true, true, false, true, true, true, true, false, false, false, false, false, false], rfl, (by kernel_rfl), ?_⟩ (all_one ⟨_, #[true, true, true, true, true, false, true, false, true, true, true, false, false, false, false, false], rfl, (by kernel_rfl), ?_⟩)))
    ·skip
     refine JL.appO (R := RInt) 0 0 (l := out_1388) (m := [y1394.High]) ap_23 rfl ⟨rfl, rfl⟩ rfl (CH.mono RInt.mono hs1553 hout_1388) rfl rfl rfl (CH.cons (cs := [.int .i64 y1394.High]) rfl rfl CH.nil) rfl (one_cons rfl one_nil) hl1401 .none rfl ?_
     intro v1554 xs1555 hch1556
     refine JA.after hE hs1553 (.cons _ (.cons_cons _ (.cons _ (.cons _ (List.nil_sublist _))))) ?_
     refine JA.take 12 (listed' := #[true, true, true, true, true, true, true, false, true, true, false, false, true, false, false, false]) hQ rfl (by kernel_rfl) (by kernel_rfl) (by kernel_rfl) (by kernel_rfl) (by kernel_rfl) hE hs1553 (.cons _ (.cons_cons _ (.cons _ (.cons _ (List.nil_sublist _))))) ?_
     refine JL.fieldAddr fo_156_1 rfl .none rfl ?_
     refine JA.cont ?_
     refine JA.many [7, 10] (by kernel_rfl) (by simp) (all_cons ⟨_, #[true, true, true, true, true, true, true, true, true, true, false, false, true, false, false, false], rfl, (by kernel_rfl), ?_⟩ (all_one ⟨_, #[true, true, true, true, true, true, true, false, true, true, true, false, true, false, false, false], rfl, (by kernel_rfl), ?_⟩))
     ·skip
      refine JL.loadOwn 2 az_23 rfl rfl rfl .none rfl ?_
      refine JA.after hE hs1553 (.cons _ (.cons_cons _ (.cons _ (.cons _ (List.nil_sublist _))))) ?_
      exact nd1524_1 _ _ _ _ ⟨b1492, v1554, xs1555, rfl, rfl, rfl, rfl, rfl, rfl, rfl, rfl, rfl, rfl, rfl, hch1556, hs1553⟩
     ·skip
      refine JL.buildSlice (e := 3) (l := [.int .i64 y1394.Low]) (by kernel_rfl) .none rfl ?_
      intro b1557
      refine JA.after hE hs1553 (.cons _ (.cons _ (.cons_cons _ (.cons _ (.cons _ (List.nil_sublist _)))))) ?_
      exact nd1524_2 _ _ _ _ ⟨b1557, b1492, v1554, xs1555, rfl, rfl, rfl, rfl, rfl, rfl, rfl, rfl, rfl, rfl, rfl, hch1556, hs1553⟩
    ·skip
     refine JL.loadOwn 2 az_23 rfl rfl rfl .none rfl ?_
     refine JA.after hE hs1553 (.cons _ (.cons_cons _ (.cons _ (.cons _ (List.nil_sublist _))))) ?_
     exact nd1524_4 _ _ _ _ ⟨b1492, rfl, rfl, rfl, rfl, rfl, rfl, rfl, rfl, rfl, rfl, rfl, hs1553⟩
    ·skip
     refine JL.buildSlice (e := 3) (l := [.int .i64 y1394.Low]) (by kernel_rfl) .none rfl ?_
     intro b1558
     refine JA.after hE hs1553 (.cons _ (.cons _ (.cons_cons _ (.cons _ (.cons _ (List.nil_sublist _)))))) ?_
     exact nd1524_5 _ _ _ _ ⟨b1558, b1492, rfl, rfl, rfl, rfl, rfl, rfl, rfl, rfl, rfl, rfl, rfl, hs1553⟩
   intro nd1524_8
   refine JA.cut 8 #[true, true, true, true, false, false, true, true, true, true, false, false, false, false, false, false] (fun H1559 f bs gs => f 2 = .pointer (some ⟨b2, 0, none⟩) ∧ f 3 = .pointer (some ⟨b3, 0, none⟩) ∧ f 20 = (.slice a12 d.Ribs.length c13) ∧ f 21 = .int .i64 (d.Ribs.length : Int) ∧ f 22 = .int .i64 x_1387 ∧ f 27 = vout_1388 ∧ f 29 = .int .i64 y1394.High ∧ f 33 = vout_1389 ∧ f 35 = .int .i64 y1394.Low ∧ bs = [(b1399, .cells [.int .i64 y1394.Low, .int .i64 y1394.High].toArray 39), (b3, .cells [.int .i64 y4.High, vout_1389, (.slice a15 d.Shares.length c16)].toArray 156), (b2, .cells [.int .i64 y4.Low, vout_1388, (.slice a15 d.Shares.length c16)].toArray 156)] ∧ gs = [⟨vout_1388, 3, 1, out_1388.length, xsout_1388⟩, ⟨vout_1389, 3, 1, out_1389.length, xsout_1389⟩] ∧ HSub H1390 H1559) ?_ ?_
   ·rintro H1559 f bs gs ⟨hf2, hf3, hf20, hf21, hf22, hf27, hf29, hf33, hf35, rfl, rfl, hs1559⟩
    refine (JA.norm (i := 2) hf2 (JA.norm (i := 3) hf3 (JA.norm (i := 20) hf20 (JA.norm (i := 21) hf21 (JA.norm (i := 22) hf22 (JA.norm (i := 27) hf27 (JA.norm (i := 29) hf29 (JA.norm (i := 33) hf33 (JA.norm (i := 35) hf35 ?_)))))))))
    refine JA.many [4, 10] (by kernel_rfl) (by simp) (all_cons ⟨_, #[true, true, true, true, true, false, true, true, true, true, false, false, false, false, false, false], rfl, (by kernel_rfl), ?_⟩ (all_one ⟨_, #[true, true, true, true, false, false, true, true, true, true, true, false, false, false, false, false], rfl, (by kernel_rfl), ?_⟩))
    ·skip
     refine JL.buildSlice (e := 3) (l := [.int .i64 y1394.High]) (by kernel_rfl) .none rfl ?_
     intro b1560
     refine JA.after hE hs1559 (.cons _ (.cons_cons _ (.cons _ (.cons _ (List.nil_sublist _))))) ?_
     exact nd1524_4 _ _ _ _ ⟨b1560, rfl, rfl, rfl, rfl, rfl, rfl, rfl, rfl, rfl, rfl, rfl, hs1559⟩
    ·skip
     refine JL.buildSlice (e := 3) (l := [.int .i64 y1394.Low]) (by kernel_rfl) .none rfl ?_
     intro b1561
     refine JA.after hE hs1559 (.cons _ (.cons_cons _ (.cons _ (.cons _ (List.nil_sublist _))))) ?_
     exact nd1524_6 _ _ _ _ ⟨b1561, rfl, rfl, rfl, rfl, rfl, rfl, rfl, rfl, rfl, rfl, rfl, hs1559⟩
   intro nd1524_9
   refine JA.cut 8 #[true, true, true, true, false, false, true, false, true, true, true, false, false, false, false, false] (fun H1562 f bs gs => ∃ (b1493 : Nat), f 2 = .pointer (some ⟨b2, 0, none⟩) ∧ f 3 = .pointer (some ⟨b3, 0, none⟩) ∧ f 20 = (.slice a12 d.Ribs.length c13) ∧ f 21 = .int .i64 (d.Ribs.length : Int) ∧ f 22 = .int .i64 x_1387 ∧ f 27 = vout_1388 ∧ f 29 = .int .i64 y1394.High ∧ f 32 = .pointer (some ⟨b3, 1, none⟩) ∧ f 36 = .slice (some ⟨b1493, 0, none⟩) 1 1 ∧ bs = [(b1493, .cells [.int .i64 y1394.Low].toArray 3), (b1399, .cells [.int .i64 y1394.Low, .int .i64 y1394.High].toArray 39), (b3, .cells [.int .i64 y4.High, vout_1389, (.slice a15 d.Shares.length c16)].toArray 156), (b2, .cells [.int .i64 y4.Low, vout_1388, (.slice a15 d.Shares.length c16)].toArray 156)] ∧ gs = [⟨vout_1388, 3, 1, out_1388.length, xsout_1388⟩, ⟨vout_1389, 3, 1, out_1389.length, xsout_1389⟩] ∧ HSub H1390 H1562) ?_ ?_
   ·rintro H1562 f bs gs ⟨b1493, hf2, hf3, hf20, hf21, hf22, hf27, hf29, hf32, hf36, rfl, rfl, hs1562⟩
    refine (JA.norm (i := 2) hf2 (JA.norm (i := 3) hf3 (JA.norm (i := 20) hf20 (JA.norm (i := 21) hf21 (JA.norm (i := 22) hf22 (JA.norm (i := 27) hf27 (JA.norm (i := 29) hf29 (JA.norm (i := 32) hf32 (JA.norm (i := 36) hf36 ?_)))))))))
    refine JA.many [4, 7] (by kernel_rfl) (by simp) (all_cons ⟨_, #[true, true, true, true, true, false, true, false, true, true, true, false, false, false, false, false], rfl, (by kernel_rfl), ?_⟩ (all_one ⟨_, #[true, true, true, true, false, false, true, true, true, true, true, false, false, false, false, false], rfl, (by kernel_rfl), ?_⟩))
    ·skip
     refine JL.buildSlice (e := 3) (l := [.int .i64 y1394.High]) (by kernel_rfl) .none rfl ?_
     intro b1563
     refine JA.after hE hs1562 (.cons _ (.cons _ (.cons_cons _ (.cons _ (.cons _ (List.nil_sublist _)))))) ?_
     refine JA.perm (swapAt_perm 0 _) ?_
     exact nd1524_5 _ _ _ _ ⟨b1493, b1563, rfl, rfl, rfl, rfl, rfl, rfl, rfl, rfl, rfl, rfl, rfl, hs1562⟩
    ·skip
     refine JL.loadOwn 2 az_23 rfl rfl rfl .none rfl ?_
     refine JA.after hE hs1562 (.cons _ (.cons_cons _ (.cons _ (.cons _ (List.nil_sublist _))))) ?_
     exact nd1524_6 _ _ _ _ ⟨b1493, rfl, rfl, rfl, rfl, rfl, rfl, rfl, rfl, rfl, rfl, rfl, hs1562⟩
   intro nd1524_10
   refine JA.cut 8 #[true, false, true, true, true, false, true, true, true, true, false, false, false, false, false, false] (fun H1564 f bs gs => ∃ (b1490 : Nat), f 2 = .pointer (some ⟨b2, 0, none⟩) ∧ f 3 = .pointer (some ⟨b3, 0, none⟩) ∧ f 20 = (.slice a12 d.Ribs.length c13) ∧ f 21 = .int .i64 (d.Ribs.length : Int) ∧ f 22 = .int .i64 x_1387 ∧ f 26 = .pointer (some ⟨b2, 1, none⟩) ∧ f 30 = .slice (some ⟨b1490, 0, none⟩) 1 1 ∧ f 33 = vout_1389 ∧ f 35 = .int .i64 y1394.Low ∧ bs = [(b1490, .cells [.int .i64 y1394.High].toArray 3), (b1399, .cells [.int .i64 y1394.Low, .int .i64 y1394.High].toArray 39), (b3, .cells [.int .i64 y4.High, vout_1389, (.slice a15 d.Shares.length c16)].toArray 156), (b2, .cells [.int .i64 y4.Low, vout_1388, (.slice a15 d.Shares.length c16)].toArray 156)] ∧ gs = [⟨vout_1388, 3, 1, out_1388.length, xsout_1388⟩, ⟨vout_1389, 3, 1, out_1389.length, xsout_1389⟩] ∧ HSub H1390 H1564) ?_ ?_
   ·rintro H1564 f bs gs ⟨b1490, hf2, hf3, hf20, hf21, hf22, hf26, hf30, hf33, hf35, rfl, rfl, hs1564⟩
    refine (JA.norm (i := 2) hf2 (JA.norm (i := 3) hf3 (JA.norm (i := 20) hf20 (JA.norm (i := 21) hf21 (JA.norm (i := 22) hf22 (JA.norm (i := 26) hf26 (JA.norm (i := 30) hf30 (JA.norm (i := 33) hf33 (JA.norm (i := 35) hf35 ?_)))))))))
    refine JA.many [1, 10] (by kernel_rfl) (by simp) (all_cons ⟨_, #[true, true, true, true, true, false, true, true, true, true, false, false, false, false, false, false], rfl, (by kernel_rfl), ?_⟩ (all_one ⟨_, #[true, false, true, true, true, false, true, true, true, true, true, false, false, false, false, false], rfl, (by kernel_rfl), ?_⟩))
    ·skip
     refine JL.loadOwn 3 az_23 rfl rfl rfl .none rfl ?_
     refine JA.after hE hs1564 (.cons _ (.cons_cons _ (.cons _ (.cons _ (List.nil_sublist _))))) ?_
     exact nd1524_4 _ _ _ _ ⟨b1490, rfl, rfl, rfl, rfl, rfl, rfl, rfl, rfl, rfl, rfl, rfl, hs1564⟩
    ·skip
     refine JL.buildSlice (e := 3) (l := [.int .i64 y1394.Low]) (by kernel_rfl) .none rfl ?_
     intro b1565
     refine JA.after hE hs1564 (.cons _ (.cons _ (.cons_cons _ (.cons _ (.cons _ (List.nil_sublist _)))))) ?_
     exact nd1524_7 _ _ _ _ ⟨b1565, b1490, rfl, rfl, rfl, rfl, rfl, rfl, rfl, rfl, rfl, rfl, rfl, hs1564⟩
   intro nd1524_11
   refine JA.cut 8 #[true, false, true, true, true, false, true, false, true, true, true, false, false, false, false, false] (fun H1566 f bs gs => ∃ (b1494 : Nat) (b1490 : Nat), f 2 = .pointer (some ⟨b2, 0, none⟩) ∧ f 3 = .pointer (some ⟨b3, 0, none⟩) ∧ f 20 = (.slice a12 d.Ribs.length c13) ∧ f 21 = .int .i64 (d.Ribs.length : Int) ∧ f 22 = .int .i64 x_1387 ∧ f 26 = .pointer (some ⟨b2, 1, none⟩) ∧ f 30 = .slice (some ⟨b1490, 0, none⟩) 1 1 ∧ f 32 = .pointer (some ⟨b3, 1, none⟩) ∧ f 36 = .slice (some ⟨b1494, 0, none⟩) 1 1 ∧ bs = [(b1494, .cells [.int .i64 y1394.Low].toArray 3), (b1490, .cells [.int .i64 y1394.High].toArray 3), (b1399, .cells [.int .i64 y1394.Low, .int .i64 y1394.High].toArray 39), (b3, .cells [.int .i64 y4.High, vout_1389, (.slice a15 d.Shares.length c16)].toArray 156), (b2, .cells [.int .i64 y4.Low, vout_1388, (.slice a15 d.Shares.length c16)].toArray 156)] ∧ gs = [⟨vout_1388, 3, 1, out_1388.length, xsout_1388⟩, ⟨vout_1389, 3, 1, out_1389.length, xsout_1389⟩] ∧ HSub H1390 H1566) ?_ ?_
   ·rintro H1566 f bs gs ⟨b1494, b1490, hf2, hf3, hf20, hf21, hf22, hf26, hf30, hf32, hf36, rfl, rfl, hs1566⟩
    refine (JA.norm (i := 2) hf2 (JA.norm (i := 3) hf3 (JA.norm (i := 20) hf20 (JA.norm (i := 21) hf21 (JA.norm (i := 22) hf22 (JA.norm (i := 26) hf26 (JA.norm (i := 30) hf30 (JA.norm (i := 32) hf32 (JA.norm (i := 36) hf36 ?_)))))))))
    refine JA.many [1, 7] (by kernel_rfl) (by simp) (all_cons ⟨_, #[true, true, true, true, true, false, true, false, true, true, true, false, false, false, false, false], rfl, (by kernel_rfl), ?_⟩ (all_one ⟨_, #[true, false, true, true, true, false, true, true, true, true, true, false, false, false, false, false], rfl, (by kernel_rfl), ?_⟩))
    ·skip
     refine JL.loadOwn 4 az_23 rfl rfl rfl .none rfl ?_
     refine JA.after hE hs1566 (.cons _ (.cons _ (.cons_cons _ (.cons _ (.cons _ (List.nil_sublist _)))))) ?_
     exact nd1524_5 _ _ _ _ ⟨b1494, b1490, rfl, rfl, rfl, rfl, rfl, rfl, rfl, rfl, rfl, rfl, rfl, hs1566⟩
    ·skip
     refine JL.loadOwn 3 az_23 rfl rfl rfl .none rfl ?_
     refine JA.after hE hs1566 (.cons _ (.cons _ (.cons_cons _ (.cons _ (.cons _ (List.nil_sublist _)))))) ?_
     exact nd1524_7 _ _ _ _ ⟨b1494, b1490, rfl, rfl, rfl, rfl, rfl, rfl, rfl, rfl, rfl, rfl, rfl, hs1566⟩
   intro nd1524_12
   refine JA.cut 8 #[true, false, true, true, false, false, true, true, true, true, true, false, false, false, false, false] (fun H1567 f bs gs => ∃ (b1496 : Nat), f 2 = .pointer (some ⟨b2, 0, none⟩) ∧ f 3 = .pointer (some ⟨b3, 0, none⟩) ∧ f 20 = (.slice a12 d.Ribs.length c13) ∧ f 21 = .int .i64 (d.Ribs.length : Int) ∧ f 22 = .int .i64 x_1387 ∧ f 26 = .pointer (some ⟨b2, 1, none⟩) ∧ f 29 = .int .i64 y1394.High ∧ f 33 = vout_1389 ∧ f 36 = .slice (some ⟨b1496, 0, none⟩) 1 1 ∧ bs = [(b1496, .cells [.int .i64 y1394.Low].toArray 3), (b1399, .cells [.int .i64 y1394.Low, .int .i64 y1394.High].toArray 39), (b3, .cells [.int .i64 y4.High, vout_1389, (.slice a15 d.Shares.length c16)].toArray 156), (b2, .cells [.int .i64 y4.Low, vout_1388, (.slice a15 d.Shares.length c16)].toArray 156)] ∧ gs = [⟨vout_1388, 3, 1, out_1388.length, xsout_1388⟩, ⟨vout_1389, 3, 1, out_1389.length, xsout_1389⟩] ∧ HSub H1390 H1567) ?_ ?_
   ·rintro H1567 f bs gs ⟨b1496, hf2, hf3, hf20, hf21, hf22, hf26, hf29, hf33, hf36, rfl, rfl, hs1567⟩
    refine (JA.norm (i := 2) hf2 (JA.norm (i := 3) hf3 (JA.norm (i := 20) hf20 (JA.norm (i := 21) hf21 (JA.norm (i := 22) hf22 (JA.norm (i := 26) hf26 (JA.norm (i := 29) hf29 (JA.norm (i := 33) hf33 (JA.norm (i := 36) hf36 ?_)))))))))
    refine JA.many [1, 4] (by kernel_rfl) (by simp) (all_cons ⟨_, #[true, true, true, true, false, false, true, true, true, true, true, false, false, false, false, false], rfl, (by kernel_rfl), ?_⟩ (all_one ⟨_, #[true, false, true, true, true, false, true, true, true, true, true, false, false, false, false, false], rfl, (by kernel_rfl), ?_⟩))
    ·skip
     refine JL.loadOwn 3 az_23 rfl rfl rfl .none rfl ?_
     refine JA.after hE hs1567 (.cons _ (.cons_cons _ (.cons _ (.cons _ (List.nil_sublist _))))) ?_
     exact nd1524_6 _ _ _ _ ⟨b1496, rfl, rfl, rfl, rfl, rfl, rfl, rfl, rfl, rfl, rfl, rfl, hs1567⟩
    ·skip
     refine JL.buildSlice (e := 3) (l := [.int .i64 y1394.High]) (by kernel_rfl) .none rfl ?_
     intro b1568
     refine JA.after hE hs1567 (.cons _ (.cons _ (.cons_cons _ (.cons _ (.cons _ (List.nil_sublist _)))))) ?_
     refine JA.perm (swapAt_perm 0 _) ?_
     exact nd1524_7 _ _ _ _ ⟨b1496, b1568, rfl, rfl, rfl, rfl, rfl, rfl, rfl, rfl, rfl, rfl, rfl, hs1567⟩
   intro nd1524_13
   refine JA.take 0 (listed' := #[true, false, false, false, false, false, false, false, false, false, false, false, false, false, false, false]) hQ rfl (by kernel_rfl) (by kernel_rfl) (by kernel_rfl) (by kernel_rfl) (by kernel_rfl) hE (HSub.refl _) (.cons_cons _ (.cons _ (.cons _ (List.nil_sublist _)))) ?_
   refine JL.fieldAddr fo_156_1 rfl .none rfl ?_
   refine JA.cont ?_
   refine JA.take 2 (listed' := #[true, false, true, false, false, false, false, false, false, false, false, false, false, false, false, false]) hQ rfl (by kernel_rfl) (by kernel_rfl) (by kernel_rfl) (by kernel_rfl) (by kernel_rfl) hE (HSub.refl _) (.cons_cons _ (.cons _ (.cons _ (List.nil_sublist _)))) ?_
   refine JL.fieldAddr fo_39_1 rfl .none rfl ?_
   refine JA.cont ?_
   refine JA.take 3 (listed' := #[true, false, true, true, false, false, false, false, false, false, false, false, false, false, false, false]) hQ rfl (by kernel_rfl) (by kernel_rfl) (by kernel_rfl) (by kernel_rfl) (by kernel_rfl) hE (HSub.refl _) (.cons_cons _ (.cons _ (.cons _ (List.nil_sublist _)))) ?_
   refine JL.loadOwn 0 az_3 rfl rfl rfl .none rfl ?_
   refine JA.cont ?_
   refine JA.take 6 (listed' := #[true, false, true, true, false, false, true, false, false, false, false, false, false, false, false, false]) hQ rfl (by kernel_rfl) (by kernel_rfl) (by kernel_rfl) (by kernel_rfl) (by kernel_rfl) hE (HSub.refl _) (.cons_cons _ (.cons _ (.cons _ (List.nil_sublist _)))) ?_
   refine JL.fieldAddr fo_156_1 rfl .none rfl ?_
   refine JA.cont ?_
   refine JA.take 8 (listed' := #[true, false, true, true, false, false, true, false, true, false, false, false, false, false, false, false]) hQ rfl (by kernel_rfl) (by kernel_rfl) (by kernel_rfl) (by kernel_rfl) (by kernel_rfl) hE (HSub.refl _) (.cons_cons _ (.cons _ (.cons _ (List.nil_sublist _)))) ?_
   refine JL.fieldAddr fo_39_0 rfl .none rfl ?_
   refine JA.cont ?_
   refine JA.take 9 (listed' := #[true, false, true, true, false, false, true, false, true, true, false, false, false, false, false, false]) hQ rfl (by kernel_rfl) (by kernel_rfl) (by kernel_rfl) (by kernel_rfl) (by kernel_rfl) hE (HSub.refl _) (.cons_cons _ (.cons _ (.cons _ (List.nil_sublist _)))) ?_
   refine JL.loadOwn 0 az_3 rfl rfl rfl .none rfl ?_
   refine JA.cont ?_
   refine JA.many [1, 4, 7, 10] (by kernel_rfl) (by simp) (all_cons ⟨_, #[true, true, true, true, false, false, true, false, true, true, false, false, false, false, false, false], rfl, (by kernel_rfl), ?_⟩ (all_cons ⟨_, #[true, false, true, true, true, false, true, false, true, true, false, false, false, false, false, false], rfl, (by kernel_rfl), ?_⟩ (all_cons ⟨_, #[true, false, true, true, false, false, true, true, true, true, false, false, false, false, false, false], rfl, (by kernel_rfl), ?_⟩ (all_one ⟨_, #[true, false, true, true, false, false, true, false, true, true, true, false, false, false, false, false], rfl, (by kernel_rfl), ?_⟩))))
   ·skip
    refine JL.loadOwn 2 az_23 rfl rfl rfl .none rfl ?_
    refine JA.after hE (HSub.refl _) (.cons_cons _ (.cons _ (.cons _ (List.nil_sublist _)))) ?_
    refine JA.many [4, 7, 10] (by kernel_rfl) (by simp) (all_cons ⟨_, #[true, true, true, true, true, false, true, false, true, true, false, false, false, false, false, false], rfl, (by kernel_rfl), ?_⟩ (all_cons ⟨_, #[true, true, true, true, false, false, true, true, true, true, false, false, false, false, false, false], rfl, (by kernel_rfl), ?_⟩ (all_one ⟨_, #[true, true, true, true, false, false, true, false, true, true, true, false, false, false, false, false], rfl, (by kernel_rfl), ?_⟩)))
    ·skip
     refine JL.buildSlice (e := 3) (l := [.int .i64 y1394.High]) (by kernel_rfl) .none rfl ?_
     intro b1569
     refine JA.after hE (HSub.refl _) (.cons _ (.cons_cons _ (.cons _ (.cons _ (List.nil_sublist _))))) ?_
     exact nd1524_8 _ _ _ _ ⟨b1569, rfl, rfl, rfl, rfl, rfl, rfl, rfl, rfl, rfl, rfl, rfl, (HSub.refl _)⟩
    ·skip
     refine JL.loadOwn 1 az_23 rfl rfl rfl .none rfl ?_
     refine JA.after hE (HSub.refl _) (.cons_cons _ (.cons _ (.cons _ (List.nil_sublist _)))) ?_
     exact nd1524_9 _ _ _ _ ⟨rfl, rfl, rfl, rfl, rfl, rfl, rfl, rfl, rfl, rfl, rfl, (HSub.refl _)⟩
    ·skip
     refine JL.buildSlice (e := 3) (l := [.int .i64 y1394.Low]) (by kernel_rfl) .none rfl ?_
     intro b1570
     refine JA.after hE (HSub.refl _) (.cons _ (.cons_cons _ (.cons _ (.cons _ (List.nil_sublist _))))) ?_
     exact nd1524_10 _ _ _ _ ⟨b1570, rfl, rfl, rfl, rfl, rfl, rfl, rfl, rfl, rfl, rfl, rfl, (HSub.refl _)⟩
   ·skip
    refine JL.buildSlice (e := 3) (l := [.int .i64 y1394.High]) (by kernel_rfl) .none rfl ?_
    intro b1571
    refine JA.after hE (HSub.refl _) (.cons _ (.cons_cons _ (.cons _ (.cons _ (List.nil_sublist _))))) ?_
    refine JA.many [1, 7, 10] (by kernel_rfl) (by simp) (all_cons ⟨_, #[true, true, true, true, true, false, true, false, true, true, false, false, false, false, false, false], rfl, (by kernel_rfl), ?_⟩ (all_cons ⟨_, #[true, false, true, true, true, false, true, true, true, true, false, false, false, false, false, false], rfl, (by kernel_rfl), ?_⟩ (all_one ⟨_, #[true, false, true, true, true, false, true, false, true, true, true, false, false, false, false, false], rfl, (by kernel_rfl), ?_⟩)))
    ·skip
     refine JL.loadOwn 3 az_23 rfl rfl rfl .none rfl ?_
     refine JA.after hE (HSub.refl _) (.cons _ (.cons_cons _ (.cons _ (.cons _ (List.nil_sublist _))))) ?_
     exact nd1524_8 _ _ _ _ ⟨b1571, rfl, rfl, rfl, rfl, rfl, rfl, rfl, rfl, rfl, rfl, rfl, (HSub.refl _)⟩
    ·skip
     refine JL.loadOwn 2 az_23 rfl rfl rfl .none rfl ?_
     refine JA.after hE (HSub.refl _) (.cons _ (.cons_cons _ (.cons _ (.cons _ (List.nil_sublist _))))) ?_
     exact nd1524_11 _ _ _ _ ⟨b1571, rfl, rfl, rfl, rfl, rfl, rfl, rfl, rfl, rfl, rfl, rfl, (HSub.refl _)⟩
    ·skip
     refine JL.buildSlice (e := 3) (l := [.int .i64 y1394.Low]) (by kernel_rfl) .none rfl ?_
     intro b1572
     refine JA.after hE (HSub.refl _) (.cons _ (.cons _ (.cons_cons _ (.cons _ (.cons _ (List.nil_sublist _)))))) ?_
     exact nd1524_12 _ _ _ _ ⟨b1572, b1571, rfl, rfl, rfl, rfl, rfl, rfl, rfl, rfl, rfl, rfl, rfl, (HSub.refl _)⟩
   ·skip
    refine JL.loadOwn 1 az_23 rfl rfl rfl .none rfl ?_
    refine JA.after hE (HSub.refl _) (.cons_cons _ (.cons _ (.cons _ (List.nil_sublist _)))) ?_
    refine JA.many [1, 4, 10] (by kernel_rfl) (by simp) (all_cons ⟨_, #[true, true, true, true, false, false, true, true, true, true, false, false, false, false, false, false], rfl, (by kernel_rfl), ?_⟩ (all_cons ⟨_, #[true, false, true, true, true, false, true, true, true, true, false, false, false, false, false, false], rfl, (by kernel_rfl), ?_⟩ (all_one ⟨_, #[true, false, true, true, false, false, true, true, true, true, true, false, false, false, false, false], rfl, (by kernel_rfl), ?_⟩)))
    ·skip
     refine JL.loadOwn 2 az_23 rfl rfl rfl .none rfl ?_
     refine JA.after hE (HSub.refl _) (.cons_cons _ (.cons _ (.cons _ (List.nil_sublist _)))) ?_
     exact nd1524_9 _ _ _ _ ⟨rfl, rfl, rfl, rfl, rfl, rfl, rfl, rfl, rfl, rfl, rfl, (HSub.refl _)⟩
    ·skip
     refine JL.buildSlice (e := 3) (l := [.int .i64 y1394.High]) (by kernel_rfl) .none rfl ?_
     intro b1573
     refine JA.after hE (HSub.refl _) (.cons _ (.cons_cons _ (.cons _ (.cons _ (List.nil_sublist _))))) ?_
     exact nd1524_11 _ _ _ _ ⟨b1573, rfl, rfl, rfl, rfl, rfl, rfl, rfl, rfl, rfl, rfl, rfl, (HSub.refl _)⟩
    ·skip
     refine JL.buildSlice (e := 3) (l := [.int .i64 y1394.Low]) (by kernel_rfl) .none rfl ?_
     intro b1574
     refine JA.after hE (HSub.refl _) (.cons _ (.cons_cons _ (.cons _ (.cons _ (List.nil_sublist _))))) ?_
     exact nd1524_13 _ _ _ _ ⟨b1574, rfl, rfl, rfl, rfl, rfl, rfl, rfl, rfl, rfl, rfl, rfl, (HSub.refl _)⟩
   ·skip
    refine JL.buildSlice (e := 3) (l := [.int .i64 y1394.Low]) (by kernel_rfl) .none rfl ?_
    intro b1575
    refine JA.after hE (HSub.refl _) (.cons _ (.cons_cons _ (.cons _ (.cons _ (List.nil_sublist _))))) ?_
    refine JA.many [1, 4, 7] (by kernel_rfl) (by simp) (all_cons ⟨_, #[true, true, true, true, false, false, true, false, true, true, true, false, false, false, false, false], rfl, (by kernel_rfl), ?_⟩ (all_cons ⟨_, #[true, false, true, true, true, false, true, false, true, true, true, false, false, false, false, false], rfl, (by kernel_rfl), ?_⟩ (all_one ⟨_, #[true, false, true, true, false, false, true, true, true, true, true, false, false, false, false, false], rfl, (by kernel_rfl), ?_⟩)))
    ·skip
     refine JL.loadOwn 3 az_23 rfl rfl rfl .none rfl ?_
     refine JA.after hE (HSub.refl _) (.cons _ (.cons_cons _ (.cons _ (.cons _ (List.nil_sublist _))))) ?_
     exact nd1524_10 _ _ _ _ ⟨b1575, rfl, rfl, rfl, rfl, rfl, rfl, rfl, rfl, rfl, rfl, rfl, (HSub.refl _)⟩
    ·skip
     refine JL.buildSlice (e := 3) (l := [.int .i64 y1394.High]) (by kernel_rfl) .none rfl ?_
     intro b1576
     refine JA.after hE (HSub.refl _) (.cons _ (.cons _ (.cons_cons _ (.cons _ (.cons _ (List.nil_sublist _)))))) ?_
     refine JA.perm (swapAt_perm 0 _) ?_
     exact nd1524_12 _ _ _ _ ⟨b1575, b1576, rfl, rfl, rfl, rfl, rfl, rfl, rfl, rfl, rfl, rfl, rfl, (HSub.refl _)⟩
    ·skip
     refine JL.loadOwn 2 az_23 rfl rfl rfl .none rfl ?_
     refine JA.after hE (HSub.refl _) (.cons _ (.cons_cons _ (.cons _ (.cons _ (List.nil_sublist _))))) ?_
     exact nd1524_13 _ _ _ _ ⟨b1575, rfl, rfl, rfl, rfl, rfl, rfl, rfl, rfl, rfl, rfl, rfl, (HSub.refl _)⟩
  ·refine JC.cond_f (b := decide (x_1387 < (d.Ribs.length : Int))) rfl hc1393 ?_
   refine JC.exit (JQ.exit_then (JQ.exit_then (JQ.exit_block ?_)))
   obtain rfl := Option.some.inj hF
   have ehr1391 := hr1391 _ rfl
   subst ehr1391
   exact JQ.join (out_1388, out_1389) ⟨vout_1388, xsout_1388, vout_1389, xsout_1389, rfl, rfl, rfl, rfl, hout_1388, hout_1389, hs1390, rfl⟩
 ·rintro ⟨out_1007, out_1008⟩ H1009 f bs gs ⟨vout_1007, xsout_1007, vout_1008, xsout_1008, hf2, hf3, rfl, rfl, hout_1007, hout_1008, hs1009, rfl⟩
  have hF := hKr1010
  try dsimp only at hF
  refine (JQ.norm (i := 2) hf2 (JQ.norm (i := 3) hf3 ?_))
  refine JQ.go (JC.seq (JC.mixed 4 4 #[false, false, false, false] [(b3, .cells [.int .i64 y4.High, vout_1008, (.slice a15 d.Shares.length c16)].toArray 156), (b2, .cells [.int .i64 y4.Low, vout_1007, (.slice a15 d.Shares.length c16)].toArray 156)] (by rfl) mo_ (by kernel_rfl) (by kernel_rfl) ?_))
  intro hQ hE
  refine JA.take 0 (listed' := #[true, false, false, false]) hQ rfl (by kernel_rfl) (by kernel_rfl) (by kernel_rfl) (by kernel_rfl) (by kernel_rfl) hE (HSub.refl _) (.cons_cons _ (.cons_cons _ (List.nil_sublist _))) ?_
  refine JL.loadOwn 1 az_156 rfl rfl rfl .none rfl ?_
  refine JA.cont ?_
  refine JA.take 1 (listed' := #[true, true, false, false]) hQ rfl (by kernel_rfl) (by kernel_rfl) (by kernel_rfl) (by kernel_rfl) (by kernel_rfl) hE (HSub.refl _) (.cons_cons _ (.cons_cons _ (List.nil_sublist _))) ?_
  refine JL.loadOwn 0 az_156 rfl rfl rfl .none rfl ?_
  refine JA.cont ?_
  refine JA.many [2] (by kernel_rfl) (by simp) (all_one ⟨_, #[true, true, true, false], rfl, (by kernel_rfl), ?_⟩)
  refine JL.oneG 0 rfl (fun ho1584 => ?_)
  refine JL.storeOwn 1 (cs := [.int .i64 y4.Low, vout_1007, (.slice a15 d.Shares.length c16)]) az_156 rfl rfl rfl (one_cons rfl (one_cons ho1584.1 (one_cons (SL.one (SL.mono RInt.mono hs1009 hd_8)) one_nil))) rfl rfl .none ?_
  refine JA.after hE (HSub.refl _) (.cons_cons _ (.cons_cons _ (List.nil_sublist _))) ?_
  refine JA.many [3] (by kernel_rfl) (by simp) (all_one ⟨_, #[true, true, true, true], rfl, (by kernel_rfl), ?_⟩)
  refine JL.oneG 1 rfl (fun ho1585 => ?_)
  refine JL.storeOwn 0 (cs := [.int .i64 y4.High, vout_1008, (.slice a15 d.Shares.length c16)]) az_156 rfl rfl rfl (one_cons rfl (one_cons ho1585.1 (one_cons (SL.one (SL.mono RInt.mono hs1009 hd_8)) one_nil))) rfl rfl .none ?_
  refine JA.after hE (HSub.refl _) (.cons_cons _ (.cons_cons _ (List.nil_sublist _))) ?_
  refine JA.done hQ (by kernel_rfl) ?_
  refine JQ.go (JC.ret (JQ.freezeG 0 (R := RInt) rfl RInt.mono hout_1007 rfl ?_))
  intro H1586 hs1586 hg1587
  refine JQ.freezeG 0 (R := RInt) rfl RInt.mono (CH.mono RInt.mono hs1586 hout_1008) rfl ?_
  intro H1588 hs1588 hg1589
  obtain rfl := Option.some.inj hF
  exact JQ.outH rfl (.cell 1 az_156 rfl rfl rfl (.cell 0 az_156 rfl rfl rfl .nil)) ⟨vout_1007, (.slice a15 d.Shares.length c16), vout_1008, (.slice a15 d.Shares.length c16), rfl, (SL.mono RInt.mono hs1588 hg1587), (SL.mono RInt.mono (HSub.trans hs1009 (HSub.trans hs1586 hs1588)) hd_8), hg1589, (SL.mono RInt.mono (HSub.trans hs1009 (HSub.trans hs1586 hs1588)) hd_8)⟩
end Go.Proofs.Yteihdclpiekmaaa
end
section
set_option maxRecDepth 100000
set_option maxHeartbeats 40000000
namespace Go.Proofs.Yteihdclpiekmaaa
open Go Go.RowKit Go.Dec
set_option linter.unusedVariables false
-- 145 (ferrule/gusts.blown).rounds
def F_gusts_blown_rounds (n : Nat) (b : gusts_blown) (g : Gust) : Option (gusts_blown × Gust) :=
 some (b, g)
theorem c_gusts_blown_rounds (n : Nat) (H : Hp) (b : gusts_blown) (b_v1 : Value) (hb_1 : SL H 1 RInt b_v1 b.ribs) (b_v2 : Value) (hb_2 : SL H 1 RInt b_v2 b.shares) (g : Gust) (y : gusts_blown × Gust) (hF : F_gusts_blown_rounds n b g = some y) : HC Try.prog 145 [.agg [.int .i64 b.lift, b_v1, b_v2].toArray, .agg [.int .i64 g.Force, .int .i64 g.At].toArray] H (fun H' v => ∃ b0_ b1_ : Nat, ∃ z0_v1 z0_v2 : Value, v = .func (.func 180) #[] [.pointer (some ⟨b0_, 0, none⟩), .pointer (some ⟨b1_, 0, none⟩)].toArray ∧ Cells H' b0_ 0 [.int .i64 y.1.lift, z0_v1, z0_v2] ∧ Cells H' b1_ 0 [.int .i64 y.2.Force, .int .i64 y.2.At] ∧ SL H' 1 RInt z0_v1 y.1.ribs ∧ SL H' 1 RInt z0_v2 y.1.shares) := by
 rw [F_gusts_blown_rounds] at hF
 refine HC.of (N := 6) Try.func145 rfl rfl rfl fun w => ?_
 refine JC.seq (JC.region (by rfl) ?_)
 intro hQ
 refine JL.box (cs := [.int .i64 b.lift, b_v1, b_v2]) rfl .none rfl ?_
 intro b1
 refine JL.box (cs := [.int .i64 g.Force, .int .i64 g.At]) rfl .none rfl ?_
 intro b2
 refine JL.assign .none rfl ?_
 refine JL.done hQ (JQ.go (JC.seq (JC.region (by rfl) ?_)))
 intro hQ
 refine JL.makeFunc .none rfl ?_
 refine JL.assign .none rfl ?_
 refine JL.done hQ (JQ.go (JC.ret (JQ.freezeC 1 (l := [.int .i64 b.lift, b_v1, b_v2]) rfl ?_)))
 intro H3 hs3 hc4
 refine JQ.freezeC 0 (l := [.int .i64 g.Force, .int .i64 g.At]) rfl ?_
 intro H5 hs5 hc6
 obtain rfl := Option.some.inj hF
 exact JQ.outH rfl (.tmp .nil) ⟨b1, b2, b_v1, b_v2, rfl, (Cells.mono hs5 hc4), hc6, (SL.mono RInt.mono (HSub.trans hs3 hs5) hb_1), (SL.mono RInt.mono (HSub.trans hs3 hs5) hb_2)⟩
-- 89 (ferrule/gusts.blown).first
def F_gusts_blown_first_s1 (n : Nat)  : Unit → Int → Option (Unit ⊕ Int)
 | _, x7 => some (Sum.inr x7)
def F_gusts_blown_first (n : Nat) (b : gusts_blown) (g : Gust) : Option Int :=
 (F_gusts_blown_rounds n b g).bind fun y4 => (I_gusts_blown_rounds_1 n y4.1 y4.2 (F_gusts_blown_first_s1 n) ()).bind fun r20 => match r20 with | .inl _ => some 0 | .inr z_18 => some z_18
theorem c_gusts_blown_first (n : Nat) (H : Hp) (b : gusts_blown) (b_v1 : Value) (hb_1 : SL H 1 RInt b_v1 b.ribs) (b_v2 : Value) (hb_2 : SL H 1 RInt b_v2 b.shares) (g : Gust) (y : Int) (hF : F_gusts_blown_first n b g = some y) : SC Try.prog 89 [.agg [.int .i64 b.lift, b_v1, b_v2].toArray, .agg [.int .i64 g.Force, .int .i64 g.At].toArray] (.int .u16 y) H := by
 rw [F_gusts_blown_first] at hF
 refine SC.ofM (N := 11) Try.func89 rfl rfl rfl fun w => ?_
 refine JC.seq (JC.region (by rfl) ?_)
 intro hQ
 refine JL.box (cs := [.int .i64 b.lift, b_v1, b_v2]) rfl .none rfl ?_
 intro b1
 refine JL.box (cs := [.int .i64 g.Force, .int .i64 g.At]) rfl .none rfl ?_
 intro b2
 refine JL.alloc ze_160 .none rfl ?_
 intro b3
 refine JL.done hQ (JQ.go (JC.seq (JC.seq (JC.region (by rfl) ?_))))
 intro hQ
 refine JL.loadOwn 2 az_156 rfl rfl rfl .none rfl ?_
 refine JL.loadOwn 1 az_86 rfl rfl rfl .none rfl ?_
 obtain ⟨y4, hy4, hF⟩ := bind_some hF
 refine JL.callH (c_gusts_blown_rounds n H b b_v1 hb_1 b_v2 hb_2 g y4 hy4) rfl en_145 .none rfl ?_
 rintro H5 vv6 hs5 ⟨y4_b0, y4_b1, y4_0_v1, y4_0_v2, rfl, hy4_b0, hy4_b1, hy4_0_1, hy4_0_2⟩
 refine JL.done hQ (JQ.go (JC.block ?_))
 obtain ⟨r20, hl21, hF⟩ := bind_some hF
 refine JC.mask [true, false, false] [] ?_
 refine JC.rangeFunc (ρ := Int) (V := (VPlain fun (x : Int) => .int .u16 x)) (F := fun _ _ step s => I_gusts_blown_rounds_1 n y4.1 y4.2 step s) rfl en_180 (it_gusts_blown_rounds_1 n H5 y4.1 y4_0_v1 hy4_0_1 y4_0_v2 hy4_0_2 y4_b0 hy4_b0 y4.2 y4_b1 hy4_b1) rfl hl21 (fun (_ : Unit) H17 fr gs => fr = [(b3, .cells [.int .u16 0].toArray 160)] ∧ gs = [] ∧ HSub H5 H17) (fun (z_18 : Int) (c : Code) H19 fr gs => c = .ret ∧ fr = [(b3, .cells [.int .u16 z_18].toArray 160)] ∧ gs = [] ∧ HSub H5 H19) ⟨rfl, rfl, (HSub.refl _)⟩ ?_ ?_ ?_
 ·rintro l8 _ x7 y22 v9 own T10 H17 fr gs ⟨rfl, rfl, hs17⟩ hF ⟨rfl, rfl⟩ -
  rw [F_gusts_blown_first_s1] at hF
  refine JC.region (by rfl) ?_
  intro hQ
  refine JL.assign .none rfl ?_
  refine JL.done hQ (JQ.assigned [(b3, .cells [.int .u16 0].toArray 160)] (fun T11 => ?_))
  refine JC.block (JC.seq (JC.region (by rfl) ?_))
  intro hQ
  refine JL.move .none rfl ?_
  refine JL.storeOwn 0 (cs := [.int .u16 x7]) az_160 rfl rfl rfl (one_cons rfl one_nil) rfl rfl .none ?_
  refine JL.done hQ (JQ.go (JC.ret (JQ.ret_block ?_)))
  obtain rfl := Option.some.inj hF
  refine JQ.roundRet rfl [(b3, .cells [.int .u16 x7].toArray 160)] (HSub.refl _) ?_
  exact ⟨rfl, rfl, rfl, hs17⟩
 ·rintro D23 _ H17 fr gs rfl ⟨rfl, rfl, hs17⟩ -
  try dsimp only at hF
  refine JQ.normal_block (JQ.go (JC.seq (JC.region (by rfl) ?_)))
  intro hQ
  refine JL.storeOwn 0 (cs := [.int .u16 0]) az_160 rfl rfl rfl (one_cons rfl one_nil) rfl rfl .none ?_
  refine JL.done hQ (JQ.go (JC.ret ?_))
  obtain rfl := Option.some.inj hF
  exact JQ.outSM rfl (.cons 1 rfl .nil) (.cell 0 az_160 rfl rfl rfl .nil) rfl
 ·rintro D24 z_18 _ H19 fr gs rfl ⟨rfl, rfl, rfl, hs19⟩ -
  try dsimp only at hF
  refine JC.ret (JQ.ret_block (JQ.ret_then ?_))
  obtain rfl := Option.some.inj hF
  exact JQ.outSM rfl (.cons 1 rfl .nil) (.cell 0 az_160 rfl rfl rfl .nil) rfl
-- 224 (ferrule/gusts.blown).stands$1
def F_gusts_blown_stands_1 (n : Nat) (g : Gust) (c_0 : gusts_blown) : Option Bool :=
 (F_gusts_blown_first n c_0 g).bind fun y2 => some (y2 != 0)
theorem c_gusts_blown_stands_1 (n : Nat) (H : Hp) (g : Gust) (c_0 : gusts_blown) (c_0_v1 : Value) (hc_0_1 : SL H 1 RInt c_0_v1 c_0.ribs) (c_0_v2 : Value) (hc_0_2 : SL H 1 RInt c_0_v2 c_0.shares) (c_0_b : Nat) (c_0_c : Cells H c_0_b 0 [.int .i64 c_0.lift, c_0_v1, c_0_v2]) (y : Bool) (hF : F_gusts_blown_stands_1 n g c_0 = some y) : SC Try.prog 224 [.agg [.int .i64 g.Force, .int .i64 g.At].toArray, .pointer (some ⟨c_0_b, 0, none⟩)] (.bool y) H := by
 rw [F_gusts_blown_stands_1] at hF
 refine SC.of (N := 8) Try.func224 rfl rfl rfl fun w => ?_
 refine JC.seq (JC.region (by rfl) ?_)
 intro hQ
 refine JL.box (cs := [.int .i64 g.Force, .int .i64 g.At]) rfl .none rfl ?_
 intro b1
 refine JL.assign .none rfl ?_
 refine JL.done hQ (JQ.go (JC.seq (JC.region (by rfl) ?_)))
 intro hQ
 refine JL.loadH 0 az_156 rfl c_0_c rfl .none rfl ?_
 refine JL.loadOwn 0 az_86 rfl rfl rfl .none rfl ?_
 obtain ⟨y2, hy2, hF⟩ := bind_some hF
 refine JL.callS (c_gusts_blown_first n H c_0 c_0_v1 hc_0_1 c_0_v2 hc_0_2 g y2 hy2) rfl en_89 .none rfl ?_
 refine JL.bin rfl rfl rfl .none rfl ?_
 refine JL.assign .none rfl ?_
 refine JL.done hQ (JQ.go (JC.ret ?_))
 obtain rfl := Option.some.inj hF
 exact JQ.outS rfl (.tmp .nil) rfl
-- 186 (ferrule/gusts.blown).stands
def F_gusts_blown_stands (n : Nat) (b : gusts_blown) (class_ : List Gust) : Option Bool :=
 (F_slices_ContainsFunc___api_Gust_api_Gust_ n class_ (fun a0_ => F_gusts_blown_stands_1 n a0_ b)).bind fun y4 => some (!y4)
theorem c_gusts_blown_stands (n : Nat) (H : Hp) (b : gusts_blown) (b_v1 : Value) (hb_1 : SL H 1 RInt b_v1 b.ribs) (b_v2 : Value) (hb_2 : SL H 1 RInt b_v2 b.shares) (class_ : List Gust) (class__v0 : Value) (hclass__0 : SL H 2 R_Gust class__v0 class_) (y : Bool) (hF : F_gusts_blown_stands n b class_ = some y) : SC Try.prog 186 [.agg [.int .i64 b.lift, b_v1, b_v2].toArray, class__v0] (.bool y) H := by
 rw [F_gusts_blown_stands] at hF
 refine SC.of (N := 9) Try.func186 rfl rfl rfl fun w => ?_
 refine JC.seq (JC.region (by rfl) ?_)
 intro hQ
 refine JL.box (cs := [.int .i64 b.lift, b_v1, b_v2]) rfl .none rfl ?_
 intro b1
 refine JL.assign .none rfl ?_
 refine JL.done hQ (JQ.go (JC.seq (JC.region (by rfl) ?_)))
 intro hQ
 refine JL.move .none rfl ?_
 refine JL.makeFunc .none rfl ?_
 refine JL.freezeC 0 (l := [.int .i64 b.lift, b_v1, b_v2]) rfl ?_
 intro H2 hs2 hc3
 obtain ⟨y4, hy4, hF⟩ := bind_some hF
 refine JL.callS (c_slices_ContainsFunc___api_Gust_api_Gust_ n H2 class_ class__v0 (SL.mono R_Gust_mono hs2 hclass__0) (fun a0_ => F_gusts_blown_stands_1 n a0_ b) 224 [.pointer (some ⟨b1, 0, none⟩)] en_224 (fun H' hs' a0_ y' hy' => c_gusts_blown_stands_1 n H' a0_ b b_v1 (SL.mono RInt.mono hs' (SL.mono RInt.mono hs2 hb_1)) b_v2 (SL.mono RInt.mono hs' (SL.mono RInt.mono hs2 hb_2)) b1 (Cells.mono hs' hc3) y' hy') y4 hy4) rfl en_144 .none rfl ?_
 refine JL.not rfl .none rfl ?_
 refine JL.assign .none rfl ?_
 refine JL.done hQ (JQ.go (JC.ret ?_))
 obtain rfl := Option.some.inj hF
 exact JQ.outS rfl (.tmp .nil) rfl
-- 151 ferrule/gusts.Stands
def F_gusts_Stands (n : Nat) (d : Canopy) (class_ : List Gust) : Option (Int × Int) :=
 (F_gusts_ask n d class_).bind fun y2 => if (y2 != 0) = true then (some (0, y2)) else ((F_gusts_ends n d).bind fun y4 => (F_gusts_blown_stands n y4.2 class_).bind fun y9 => if y9 = true then (some (1, 0)) else ((F_gusts_blown_stands n y4.1 class_).bind fun y11 => if (!y11) = true then (some (2, 0)) else (some (3, 0))))
theorem c_gusts_Stands (n : Nat) (H : Hp) (d : Canopy) (d_v0 : Value) (hd_0 : SL H 7 R_Section d_v0 d.Frame.Sections) (d_v7 : Value) (hd_7 : SL H 2 R_Span d_v7 d.Ribs) (d_v8 : Value) (hd_8 : SL H 1 RInt d_v8 d.Shares) (class_ : List Gust) (class__v0 : Value) (hclass__0 : SL H 2 R_Gust class__v0 class_) (y : Int × Int) (hF : F_gusts_Stands n d class_ = some y) : SC Try.prog 151 [.agg [d_v0, .int .i64 d.Frame.Low, .int .i64 d.Frame.High, .int .i64 d.Frame.Ease.Num, .int .i64 d.Frame.Ease.Den, .int .i64 d.Frame.Rod, .int .i64 d.Frame.Case, d_v7, d_v8].toArray, class__v0] (.tuple [.int .i64 y.1, .int .i64 y.2].toArray) H := by
 rw [F_gusts_Stands] at hF
 refine SC.of (N := 29) Try.func151 rfl rfl rfl fun w => ?_
 refine JC.seq (JC.region (by rfl) ?_)
 intro hQ
 refine JL.box (cs := [d_v0, .int .i64 d.Frame.Low, .int .i64 d.Frame.High, .int .i64 d.Frame.Ease.Num, .int .i64 d.Frame.Ease.Den, .int .i64 d.Frame.Rod, .int .i64 d.Frame.Case, d_v7, d_v8]) rfl .none rfl ?_
 intro b1
 refine JL.assign .none rfl ?_
 refine JL.assign .none rfl ?_
 refine JL.done hQ (JQ.go (JC.seq (JC.seq (JC.region (by rfl) ?_))))
 intro hQ
 refine JL.loadOwn 0 az_76 rfl rfl rfl .none rfl ?_
 refine JL.move .none rfl ?_
 obtain ⟨y2, hy2, hF⟩ := bind_some hF
 refine JL.callS (c_gusts_ask n H d d_v0 hd_0 d_v7 hd_7 d_v8 hd_8 class_ class__v0 hclass__0 y2 hy2) rfl en_87 .none rfl ?_
 refine JL.assign .none rfl ?_
 refine JL.done hQ (JQ.go (JC.seq (JC.region (by rfl) ?_)))
 intro hQ
 refine JL.move .none rfl ?_
 refine JL.bin rfl rfl rfl .none rfl ?_
 refine JL.done hQ (JQ.go ?_)
 rcases ite_some hF with ⟨hc3, hF⟩ | ⟨hc3, hF⟩
 ·refine JC.cond_t (b := (y2 != 0)) rfl hc3 ?_
  refine JC.seq (JC.region (by rfl) ?_)
  intro hQ
  refine JL.move .none rfl ?_
  refine JL.assign .none rfl ?_
  refine JL.assign .none rfl ?_
  refine JL.done hQ (JQ.go (JC.ret (JQ.ret_then ?_)))
  obtain rfl := Option.some.inj hF
  exact JQ.outS rfl (.tmp (.tmp .nil)) rfl
 ·refine JC.cond_f (b := (y2 != 0)) rfl hc3 ?_
  refine JC.skip (JQ.go (JC.seq (JC.region (by rfl) ?_)))
  intro hQ
  refine JL.loadOwn 0 az_76 rfl rfl rfl .none rfl ?_
  obtain ⟨y4, hy4, hF⟩ := bind_some hF
  refine JL.callH (c_gusts_ends n H d d_v0 hd_0 d_v7 hd_7 d_v8 hd_8 y4 hy4) rfl en_88 .none rfl ?_
  rintro H5 vv6 hs5 ⟨y4a_v1, y4a_v2, y4b_v1, y4b_v2, rfl, hy4a_1, hy4a_2, hy4b_1, hy4b_2⟩
  refine JL.move .none rfl ?_
  refine JL.extract rfl rfl .none rfl ?_
  refine JL.extract rfl rfl .none rfl ?_
  refine JL.alloc ze_156 .none rfl ?_
  intro b7
  refine JL.alloc ze_156 .none rfl ?_
  intro b8
  refine JL.storeOwn 1 (cs := [.int .i64 y4.1.lift, y4a_v1, y4a_v2]) az_156 rfl rfl rfl (one_cons rfl (one_cons (SL.one hy4a_1) (one_cons (SL.one hy4a_2) one_nil))) rfl rfl .none ?_
  refine JL.storeOwn 0 (cs := [.int .i64 y4.2.lift, y4b_v1, y4b_v2]) az_156 rfl rfl rfl (one_cons rfl (one_cons (SL.one hy4b_1) (one_cons (SL.one hy4b_2) one_nil))) rfl rfl .none ?_
  refine JL.done hQ (JQ.go (JC.fresh (fun f => f 1 = class__v0 ∧ f 4 = .int .i64 0 ∧ f 5 = .int .i64 0 ∧ f 7 = .pointer (some ⟨b7, 0, none⟩) ∧ f 8 = .pointer (some ⟨b8, 0, none⟩)) ⟨rfl, rfl, rfl, rfl, rfl⟩ ?_))
  rintro f ⟨hf1, hf4, hf5, hf7, hf8⟩
  refine (JC.norm (i := 1) hf1 (JC.norm (i := 4) hf4 (JC.norm (i := 5) hf5 (JC.norm (i := 7) hf7 (JC.norm (i := 8) hf8 ?_)))))
  refine JC.seq (JC.block (JC.seq (JC.region (by rfl) ?_)))
  intro hQ
  refine JL.loadOwn 0 az_156 rfl rfl rfl .none rfl ?_
  refine JL.move .none rfl ?_
  obtain ⟨y9, hy9, hF⟩ := bind_some hF
  refine JL.callS (c_gusts_blown_stands n H5 y4.2 y4b_v1 hy4b_1 y4b_v2 hy4b_2 class_ class__v0 (SL.mono R_Gust_mono hs5 hclass__0) y9 hy9) rfl en_186 .none rfl ?_
  refine JL.assign .none rfl ?_
  refine JL.done hQ (JQ.go ?_)
  rcases ite_some hF with ⟨hc10, hF⟩ | ⟨hc10, hF⟩
  ·refine JC.cond_t (b := y9) rfl hc10 ?_
   refine JC.seq (JC.region (by rfl) ?_)
   intro hQ
   refine JL.assign .none rfl ?_
   refine JL.assign .none rfl ?_
   refine JL.done hQ (JQ.go (JC.ret (JQ.ret_block (JQ.ret_then ?_))))
   obtain rfl := Option.some.inj hF
   exact JQ.outS rfl (.tmp (.tmp .nil)) rfl
  ·refine JC.cond_f (b := y9) rfl hc10 ?_
   refine JC.seq (JC.region (by rfl) ?_)
   intro hQ
   refine JL.loadOwn 1 az_156 rfl rfl rfl .none rfl ?_
   refine JL.move .none rfl ?_
   obtain ⟨y11, hy11, hF⟩ := bind_some hF
   refine JL.callS (c_gusts_blown_stands n H5 y4.1 y4a_v1 hy4a_1 y4a_v2 hy4a_2 class_ class__v0 (SL.mono R_Gust_mono hs5 hclass__0) y11 hy11) rfl en_186 .none rfl ?_
   refine JL.not rfl .none rfl ?_
   refine JL.assign .none rfl ?_
   refine JL.done hQ (JQ.go (JC.fresh (fun f => f 4 = .int .i64 0 ∧ f 5 = .int .i64 0 ∧ f 24 = .bool (!y11)) ⟨rfl, rfl, rfl⟩ ?_))
   rintro f ⟨hf4, hf5, hf24⟩
   refine (JC.norm (i := 4) hf4 (JC.norm (i := 5) hf5 (JC.norm (i := 24) hf24 ?_)))
   rcases ite_some hF with ⟨hc12, hF⟩ | ⟨hc12, hF⟩
   ·refine JC.cond_t (b := (!y11)) rfl hc12 ?_
    refine JC.seq (JC.region (by rfl) ?_)
    intro hQ
    refine JL.assign .none rfl ?_
    refine JL.assign .none rfl ?_
    refine JL.done hQ (JQ.go (JC.ret (JQ.ret_block (JQ.ret_then ?_))))
    obtain rfl := Option.some.inj hF
    exact JQ.outS rfl (.tmp (.tmp .nil)) rfl
   ·refine JC.cond_f (b := (!y11)) rfl hc12 ?_
    refine JC.skip (JQ.normal_block (JQ.go (JC.seq (JC.region (by rfl) ?_))))
    intro hQ
    refine JL.assign .none rfl ?_
    refine JL.assign .none rfl ?_
    refine JL.done hQ (JQ.go (JC.ret ?_))
    obtain rfl := Option.some.inj hF
    exact JQ.outS rfl (.tmp (.tmp .nil)) rfl
-- 150 ferrule/counts.fells$1
def F_counts_fells_1 (n : Nat) (b : Blow) (force : Int) (m0 : Mp) (c_1 : Canopy) (c_2 : Bool) : Option (Bool × Mp) :=
 (kok 2 [force, b.At]).bind fun _ => (if ((mget m0 [force, b.At]) == 0) = true then ((F_gusts_Stands n c_1 [(Gust.mk force b.At)]).bind fun y43 => (kok 2 [force, b.At]).bind fun _ => some (mput m0 [force, b.At] y43.1)) else (some m0)).bind fun m_35 => (kok 2 [force, b.At]).bind fun _ => (if ((mget m_35 [force, b.At]) == 2) = true then (some true) else ((if (!c_2) = true then ((kok 2 [force, b.At]).bind fun _ => some ((mget m_35 [force, b.At]) == 3)) else (some false) : Option Bool).bind fun p79 => some p79) : Option Bool).bind fun p75 => some (p75, m_35)
theorem c_counts_fells_1 (n : Nat) (H : Hp) (b : Blow) (force : Int) (c_0_b bm : Nat) (c_0_c : Cells H c_0_b 0 [.map (some bm)]) (c_1 : Canopy) (c_1_v0 : Value) (hc_1_0 : SL H 7 R_Section c_1_v0 c_1.Frame.Sections) (c_1_v7 : Value) (hc_1_7 : SL H 2 R_Span c_1_v7 c_1.Ribs) (c_1_v8 : Value) (hc_1_8 : SL H 1 RInt c_1_v8 c_1.Shares) (c_1_b : Nat) (c_1_c : Cells H c_1_b 0 [c_1_v0, .int .i64 c_1.Frame.Low, .int .i64 c_1.Frame.High, .int .i64 c_1.Frame.Ease.Num, .int .i64 c_1.Frame.Ease.Den, .int .i64 c_1.Frame.Rod, .int .i64 c_1.Frame.Case, c_1_v7, c_1_v8]) (c_2 : Bool) (c_2_b : Nat) (c_2_c : Cells H c_2_b 0 [.bool c_2]) (J : Mp → Prop) (hole : H.hole = some (bm, fun o => ∃ es ck m, o = .map es ck ∧ MR 2 ekA m es ck ∧ J m)) (y : Bool) (hF : ∀ m0, J m0 → ∃ m1, J m1 ∧ F_counts_fells_1 n b force m0 c_1 c_2 = some (y, m1)) : SC Try.prog 150 [.agg [.int .i64 b.At, .int .i64 b.Force.Low, .int .i64 b.Force.High].toArray, .int .i64 force, .pointer (some ⟨c_0_b, 0, none⟩), .pointer (some ⟨c_1_b, 0, none⟩), .pointer (some ⟨c_2_b, 0, none⟩)] (.bool y) H := by
 refine SC.ofHole (N := 40) (J := J) Try.func150 rfl rfl rfl hole fun B H es0 ck0 m0 hsub hm0 hJ => ?_
 obtain ⟨m1_, hJ1, hF⟩ := hF m0 hJ
 refine ⟨m1_, hJ1, ?_⟩
 clear hole
 replace hc_1_0 := SL.fsub R_Section_fz hsub hc_1_0
 replace hc_1_7 := SL.fsub R_Span_fz hsub hc_1_7
 replace hc_1_8 := SL.fsub RInt.fz hsub hc_1_8
 replace c_0_c := Cells.fsub hsub c_0_c
 replace c_1_c := Cells.fsub hsub c_1_c
 replace c_2_c := Cells.fsub hsub c_2_c
 rw [F_counts_fells_1] at hF
 refine JC.seq (JC.region (by rfl) ?_)
 intro hQ
 refine JL.box (cs := [.int .i64 b.At, .int .i64 b.Force.Low, .int .i64 b.Force.High]) rfl .none rfl ?_
 intro b1
 refine JL.assign .none rfl ?_
 refine JL.done hQ (JQ.go (JC.seq (JC.region (by rfl) ?_)))
 intro hQ
 refine JL.move .none rfl ?_
 refine JL.fieldAddr fo_98_0 rfl .none rfl ?_
 refine JL.loadOwn 0 az_3 rfl rfl rfl .none rfl ?_
 refine JL.build (l := [.int .i64 force, .int .i64 b.At]) (by kernel_rfl) .none rfl ?_
 refine JL.alloc ze_86 .none rfl ?_
 intro b2
 refine JL.storeOwn 0 (cs := [.int .i64 force, .int .i64 b.At]) az_86 rfl rfl rfl (one_cons rfl (one_cons rfl one_nil)) rfl rfl .none ?_
 refine JL.done hQ (JQ.go (JC.seq (JC.seq (JC.region (by rfl) ?_))))
 intro hQ
 refine JL.loadH 0 az_214 rfl c_0_c rfl .none rfl ?_
 refine JL.loadOwn 0 az_86 rfl rfl rfl .none rfl ?_
 obtain ⟨u3, hu3, hF⟩ := bind_some hF
 refine JL.lookupM (k := [force, b.At]) mp_214 kt_86 rfl (.own 2 rfl) hm0 rfl hu3 .none rfl ?_
 refine JL.bin rfl rfl rfl .none rfl ?_
 refine JL.done hQ (JQ.go (JC.fresh (fun f => f 2 = .pointer (some ⟨c_0_b, 0, none⟩) ∧ f 3 = .pointer (some ⟨c_1_b, 0, none⟩) ∧ f 4 = .pointer (some ⟨c_2_b, 0, none⟩) ∧ f 7 = .bool false ∧ f 8 = .pointer (some ⟨b2, 0, none⟩) ∧ f 16 = .bool ((mget m0 [force, b.At]) == 0)) ⟨rfl, rfl, rfl, rfl, rfl, rfl⟩ ?_))
 rintro f ⟨hf2, hf3, hf4, hf7, hf8, hf16⟩
 refine (JC.norm (i := 2) hf2 (JC.norm (i := 3) hf3 (JC.norm (i := 4) hf4 (JC.norm (i := 7) hf7 (JC.norm (i := 8) hf8 (JC.norm (i := 16) hf16 ?_))))))
 obtain ⟨r37, hlr37, hKr37⟩ := bind_some hF
 refine JC.join (fun (m_35 : Mp) H36 f bs gs => ∃ (em_35 : Array MapEntry) (cm_35 : Nat), f 2 = .pointer (some ⟨c_0_b, 0, none⟩) ∧ f 4 = .pointer (some ⟨c_2_b, 0, none⟩) ∧ f 8 = .pointer (some ⟨b2, 0, none⟩) ∧ bs = [(b2, .cells [.int .i64 force, .int .i64 b.At].toArray 86), (bm, .map em_35 cm_35)] ∧ gs = [] ∧ MR 2 ekA m_35 em_35 cm_35 ∧ HSub H H36 ∧ m_35 = r37) ?_ ?_
 ·have hF := hlr37
  rcases ite_some hF with ⟨hc38, hF⟩ | ⟨hc38, hF⟩
  ·refine JC.cond_t (b := ((mget m0 [force, b.At]) == 0)) rfl hc38 ?_
   obtain ⟨y43, hy43, hF⟩ := bind_some hF
   obtain ⟨u44, hu44, hF⟩ := bind_some hF
   refine JC.mixed 10 10 #[false, false, false, false, false, false, false, false, false, false] [(b2, .cells [.int .i64 force, .int .i64 b.At].toArray 86), (b1, .cells [.int .i64 b.At, .int .i64 b.Force.Low, .int .i64 b.Force.High].toArray 98)] (by rfl) mo_ (by kernel_rfl) (by kernel_rfl) ?_
   intro hQ hE
   refine JA.take 0 (listed' := #[true, false, false, false, false, false, false, false, false, false]) hQ rfl (by kernel_rfl) (by kernel_rfl) (by kernel_rfl) (by kernel_rfl) (by kernel_rfl) hE (HSub.refl _) (.cons_cons _ (.cons_cons _ (.cons _ (List.nil_sublist _)))) ?_
   refine JL.loadH 0 az_214 rfl c_0_c rfl .none rfl ?_
   refine JA.cont ?_
   refine JA.take 1 (listed' := #[true, true, false, false, false, false, false, false, false, false]) hQ rfl (by kernel_rfl) (by kernel_rfl) (by kernel_rfl) (by kernel_rfl) (by kernel_rfl) hE (HSub.refl _) (.cons_cons _ (.cons_cons _ (.cons _ (List.nil_sublist _)))) ?_
   refine JL.loadOwn 0 az_86 rfl rfl rfl .none rfl ?_
   refine JA.cont ?_
   refine JA.take 2 (listed' := #[true, true, true, false, false, false, false, false, false, false]) hQ rfl (by kernel_rfl) (by kernel_rfl) (by kernel_rfl) (by kernel_rfl) (by kernel_rfl) hE (HSub.refl _) (.cons_cons _ (.cons_cons _ (.cons _ (List.nil_sublist _)))) ?_
   refine JL.loadH 0 az_76 rfl c_1_c rfl .none rfl ?_
   refine JA.cont ?_
   refine JA.take 3 (listed' := #[true, true, true, true, false, false, false, false, false, false]) hQ rfl (by kernel_rfl) (by kernel_rfl) (by kernel_rfl) (by kernel_rfl) (by kernel_rfl) hE (HSub.refl _) (.cons_cons _ (.cons_cons _ (.cons _ (List.nil_sublist _)))) ?_
   refine JL.loadOwn 0 az_86 rfl rfl rfl .none rfl ?_
   refine JA.cont ?_
   refine JA.many [4] (by kernel_rfl) (by simp) (all_one ⟨_, #[true, true, true, true, true, false, false, false, false, false], rfl, (by kernel_rfl), ?_⟩)
   refine JL.buildSlice (e := 86) (l := [.int .i64 force, .int .i64 b.At]) (by kernel_rfl) .none rfl ?_
   intro b62
   refine JA.after hE (HSub.refl _) (.cons _ (.cons_cons _ (.cons_cons _ (.cons _ (List.nil_sublist _))))) ?_
   refine JA.many [5] (by kernel_rfl) (by simp) (all_one ⟨_, #[true, true, true, true, true, true, false, false, false, false], rfl, (by kernel_rfl), ?_⟩)
   refine JL.freezeC 0 (l := [.int .i64 force, .int .i64 b.At]) rfl ?_
   intro H63 hs63 hc64
   have hg65 : SL H63 2 R_Gust (.slice (some ⟨b62, 0, none⟩) 1 1) [(Gust.mk force b.At)] := CH.sl (l := [(Gust.mk force b.At)]) (CH.cons (cs := [.int .i64 force, .int .i64 b.At]) rfl rfl CH.nil) hc64 ⟨by simp, by simp⟩
   refine JL.callS (c_gusts_Stands n H63 c_1 c_1_v0 (SL.mono R_Section_mono hs63 hc_1_0) c_1_v7 (SL.mono R_Span_mono hs63 hc_1_7) c_1_v8 (SL.mono RInt.mono hs63 hc_1_8) [(Gust.mk force b.At)] (.slice (some ⟨b62, 0, none⟩) 1 1) hg65 y43 hy43) rfl en_151 .none rfl ?_
   refine JA.after hE hs63 (.cons_cons _ (.cons_cons _ (.cons _ (List.nil_sublist _)))) ?_
   refine JA.take 6 (listed' := #[true, true, true, true, true, true, true, false, false, false]) hQ rfl (by kernel_rfl) (by kernel_rfl) (by kernel_rfl) (by kernel_rfl) (by kernel_rfl) hE hs63 (.cons_cons _ (.cons_cons _ (.cons _ (List.nil_sublist _)))) ?_
   refine JL.move .none rfl ?_
   refine JA.cont ?_
   refine JA.take 7 (listed' := #[true, true, true, true, true, true, true, true, false, false]) hQ rfl (by kernel_rfl) (by kernel_rfl) (by kernel_rfl) (by kernel_rfl) (by kernel_rfl) hE hs63 (.cons_cons _ (.cons_cons _ (.cons _ (List.nil_sublist _)))) ?_
   refine JL.extract rfl rfl .none rfl ?_
   refine JA.cont ?_
   refine JA.take 8 (listed' := #[true, true, true, true, true, true, true, true, true, false]) hQ rfl (by kernel_rfl) (by kernel_rfl) (by kernel_rfl) (by kernel_rfl) (by kernel_rfl) hE hs63 (.cons_cons _ (.cons_cons _ (.cons _ (List.nil_sublist _)))) ?_
   refine JL.extract rfl rfl .none rfl ?_
   refine JA.cont ?_
   refine JA.many [9] (by kernel_rfl) (by simp) (all_one ⟨_, #[true, true, true, true, true, true, true, true, true, true], rfl, (by kernel_rfl), ?_⟩)
   refine JL.updateM (k := [force, b.At]) 2 mp_214 kt_86 rfl rfl hm0 rfl hu44 rfl .none rfl ?_
   intro es66 ck67 hm68
   refine JA.after hE hs63 (.cons_cons _ (.cons_cons _ (.cons _ (List.nil_sublist _)))) ?_
   refine JA.done hQ (by kernel_rfl) ?_
   obtain rfl := Option.some.inj hF
   refine JQ.mask [true, false, true] [] ?_
   exact JQ.join (mput m0 [force, b.At] y43.1) ⟨es66, ck67, rfl, rfl, rfl, rfl, rfl, hm68, hs63, rfl⟩
  ·refine JC.cond_f (b := ((mget m0 [force, b.At]) == 0)) rfl hc38 ?_
   refine JC.skip ?_
   obtain rfl := Option.some.inj hF
   refine JQ.mask [true, false, true] [] ?_
   exact JQ.join m0 ⟨es0, ck0, rfl, rfl, rfl, rfl, rfl, hm0, (HSub.refl _), rfl⟩
 ·rintro m_35 H36 f bs gs ⟨em_35, cm_35, hf2, hf4, hf8, rfl, rfl, hm_35, hs36, rfl⟩
  have hF := hKr37
  try dsimp only at hF
  refine (JQ.norm (i := 2) hf2 (JQ.norm (i := 4) hf4 (JQ.norm (i := 8) hf8 ?_)))
  refine JQ.go (JC.seq (JC.region (by rfl) ?_))
  intro hQ
  refine JL.loadH 0 az_214 rfl (Cells.mono hs36 c_0_c) rfl .none rfl ?_
  refine JL.loadOwn 0 az_86 rfl rfl rfl .none rfl ?_
  obtain ⟨u69, hu69, hF⟩ := bind_some hF
  refine JL.lookupM (k := [force, b.At]) mp_214 kt_86 rfl (.own 1 rfl) hm_35 rfl hu69 .none rfl ?_
  refine JL.bin rfl rfl rfl .none rfl ?_
  refine JL.move .none rfl ?_
  obtain ⟨p75, hp75, hF⟩ := bind_some hF
  refine JL.cut 9 (fun f => f 39 = .bool p75) ?_ ?_
  ·intro hJ76
   rcases ite_some hp75 with ⟨hc77, hF⟩ | ⟨hc77, hF⟩
   ·skip
    refine JL.skip (.bool rfl rfl rfl hc77) rfl ?_
    refine JL.skip (.bool rfl rfl rfl hc77) rfl ?_
    refine JL.skip (.bool rfl rfl rfl hc77) rfl ?_
    refine JL.skip (.no rfl rfl rfl) rfl ?_
    refine JL.skip (.no rfl rfl rfl) rfl ?_
    refine JL.skip (.no rfl rfl rfl) rfl ?_
    refine JL.skip (.no rfl rfl rfl) rfl ?_
    refine JL.skip (.bool rfl rfl rfl hc77) rfl ?_
    refine JL.pick_t (b := ((mget m_35 [force, b.At]) == 2)) rfl hc77 .none rfl ?_
    obtain rfl := Option.some.inj hF
    exact hJ76 _ (rfl)
   ·skip
    refine JL.loadH 0 az_4 rfl (Cells.mono hs36 c_2_c) rfl (.some rfl rfl rfl hc77) rfl ?_
    refine JL.not rfl (.some rfl rfl rfl hc77) rfl ?_
    refine JL.move (.some rfl rfl rfl hc77) rfl ?_
    obtain ⟨p79, hp79, hF⟩ := bind_some hF
    refine JL.cut 5 (fun f => f 30 = .bool ((mget m_35 [force, b.At]) == 2) ∧ f 38 = .bool p79) ?_ ?_
    ·intro hJ80
     rcases ite_some hp79 with ⟨hc81, hF⟩ | ⟨hc81, hF⟩
     ·skip
      refine JL.loadH 0 az_214 rfl (Cells.mono hs36 c_0_c) rfl (.some rfl rfl rfl hc81) rfl ?_
      refine JL.loadOwn 0 az_86 rfl rfl rfl (.some rfl rfl rfl hc81) rfl ?_
      obtain ⟨u82, hu82, hF⟩ := bind_some hF
      refine JL.lookupM (k := [force, b.At]) mp_214 kt_86 rfl (.own 1 rfl) hm_35 rfl hu82 (.some rfl rfl rfl hc81) rfl ?_
      refine JL.bin rfl rfl rfl (.some rfl rfl rfl hc81) rfl ?_
      refine JL.pick_t (b := (!c_2)) rfl hc81 (.some rfl rfl rfl hc77) rfl ?_
      obtain rfl := Option.some.inj hF
      exact hJ80 _ ⟨rfl, rfl⟩
     ·skip
      refine JL.skip (.bool rfl rfl rfl hc81) rfl ?_
      refine JL.skip (.bool rfl rfl rfl hc81) rfl ?_
      refine JL.skip (.bool rfl rfl rfl hc81) rfl ?_
      refine JL.skip (.bool rfl rfl rfl hc81) rfl ?_
      refine JL.pick_f (b := (!c_2)) rfl hc81 (.some rfl rfl rfl hc77) rfl ?_
      obtain rfl := Option.some.inj hF
      exact hJ80 _ ⟨rfl, rfl⟩
    ·rintro f ⟨hf30, hf38⟩
     refine (JL.norm (i := 30) hf30 (JL.norm (i := 38) hf38 ?_))
     refine JL.pick_f (b := ((mget m_35 [force, b.At]) == 2)) rfl hc77 .none rfl ?_
     obtain rfl := Option.some.inj hF
     exact hJ76 _ (rfl)
  ·rintro f hf39
   refine (JL.norm (i := 39) hf39 ?_)
   refine JL.assign .none rfl ?_
   refine JL.done hQ (JQ.go (JC.ret ?_))
   obtain ⟨rfl, rfl⟩ := Prod.mk.inj (Option.some.inj hF)
   exact JQ.outK 1 rfl (.tmp .nil) rfl hs36 rfl hm_35
-- 99 ferrule/counts.fells
theorem c_counts_fells (n : Nat) (H : Hp) (d : Canopy) (d_v0 : Value) (hd_0 : SL H 7 R_Section d_v0 d.Frame.Sections) (d_v7 : Value) (hd_7 : SL H 2 R_Span d_v7 d.Ribs) (d_v8 : Value) (hd_8 : SL H 1 RInt d_v8 d.Shares) (surely : Bool) : XB Try.prog 99 [.agg [d_v0, .int .i64 d.Frame.Low, .int .i64 d.Frame.High, .int .i64 d.Frame.Ease.Num, .int .i64 d.Frame.Ease.Den, .int .i64 d.Frame.Rod, .int .i64 d.Frame.Case, d_v7, d_v8].toArray, .bool surely] H (fun H' v bs' => ∃ bm b1 b2 b3, v = .func (.func 150) #[] [.pointer (some ⟨b1, 0, none⟩), .pointer (some ⟨b2, 0, none⟩), .pointer (some ⟨b3, 0, none⟩)].toArray ∧ bs' = [(bm, .map #[] 0)] ∧ Cells H' b1 0 [.map (some bm)] ∧ Cells H' b2 0 [d_v0, .int .i64 d.Frame.Low, .int .i64 d.Frame.High, .int .i64 d.Frame.Ease.Num, .int .i64 d.Frame.Ease.Den, .int .i64 d.Frame.Rod, .int .i64 d.Frame.Case, d_v7, d_v8] ∧ Cells H' b3 0 [.bool surely]) := by
 refine XB.of (N := 8) Try.func99 rfl rfl rfl fun w => ?_
 refine JC.seq (JC.region (by rfl) ?_)
 intro hQ
 refine JL.box (cs := [d_v0, .int .i64 d.Frame.Low, .int .i64 d.Frame.High, .int .i64 d.Frame.Ease.Num, .int .i64 d.Frame.Ease.Den, .int .i64 d.Frame.Rod, .int .i64 d.Frame.Case, d_v7, d_v8]) rfl .none rfl ?_
 intro b2
 refine JL.box (cs := [.bool surely]) rfl .none rfl ?_
 intro b3
 refine JL.assign .none rfl ?_
 refine JL.done hQ (JQ.go (JC.seq (JC.region (by rfl) ?_)))
 intro hQ
 refine JL.makeMap .none rfl ?_
 intro bm
 refine JL.alloc ze_214 .none rfl ?_
 intro b1
 refine JL.storeOwn 0 (cs := [.map (some bm)]) az_214 rfl rfl rfl (one_cons rfl one_nil) rfl rfl .none ?_
 refine JL.done hQ (JQ.go (JC.seq (JC.region (by rfl) ?_)))
 intro hQ
 refine JL.makeFunc .none rfl ?_
 refine JL.assign .none rfl ?_
 refine JL.done hQ (JQ.go (JC.ret (JQ.freezeC 0 (l := [.map (some bm)]) rfl ?_)))
 intro H1 hs1 hc1
 refine JQ.freezeC 1 (l := [.bool surely]) rfl ?_
 intro H2 hs2 hc2
 refine JQ.freezeC 1 (l := [d_v0, .int .i64 d.Frame.Low, .int .i64 d.Frame.High, .int .i64 d.Frame.Ease.Num, .int .i64 d.Frame.Ease.Den, .int .i64 d.Frame.Rod, .int .i64 d.Frame.Case, d_v7, d_v8]) rfl ?_
 intro H3 hs3 hc3
 exact JQ.outB rfl (.tmp .nil) ⟨bm, b1, b2, b3, rfl, rfl, Cells.mono hs3 (Cells.mono hs2 hc1), hc3, Cells.mono hs3 hc2⟩
-- 98 ferrule/counts.bounds
noncomputable def F_counts_bounds_s1 (n : Nat)  : (Int × Int) → List Int × Int → Option (Int × Int)
 | (z_121, z_122), (kl130, v131) => (geti kl130 5).bind fun y144 => (geti kl130 5).bind fun y145 => some ((min z_121 y144), (max z_122 y145))
noncomputable def F_counts_bounds (n : Nat) (r : Run) (is : Bool) (asked : Blow → Int → Option Bool) : Option (Span × Int) :=
 (F_counts_open n r is asked).bind fun y3 => if (y3.2.2 != 0) = true then (some ((Span.mk 0 0), y3.2.2)) else ((neM y3.2.1).bind fun _ => ((permO (F_counts_bounds_s1 n) ((r.Blows.length : Int), 0) y3.2.1).bind fun z146 => match z146 with | (z_121, z_122) => some (z_121, z_122)).bind fun r84 => match r84 with | (z_81, z_82) => some ((Span.mk z_81 z_82), 0))
theorem c_counts_bounds (n : Nat) (H : Hp) (r : Run) (r_v0 : Value) (hr_0 : SL H 7 R_Section r_v0 r.Canopy.Frame.Sections) (r_v7 : Value) (hr_7 : SL H 2 R_Span r_v7 r.Canopy.Ribs) (r_v8 : Value) (hr_8 : SL H 1 RInt r_v8 r.Canopy.Shares) (r_v9 : Value) (hr_9 : SL H 3 R_Blow r_v9 r.Blows) (r_v10 : Value) (hr_10 : SL H 2 R_Meter r_v10 r.Meters) (is : Bool) (asked : Blow → Int → Option Bool) (asked_k : Nat) (asked_c : List Value) (asked_e : Ent Try.prog asked_k) (asked_h : ∀ H', HSub H H' → ∀ (a0_ : Blow) (a1_ : Int) (y : Bool), asked a0_ a1_ = some y → SC Try.prog asked_k ([.agg [.int .i64 a0_.At, .int .i64 a0_.Force.Low, .int .i64 a0_.Force.High].toArray, .int .i64 a1_] ++ asked_c) (.bool y) H') (y : Span × Int) (hF : F_counts_bounds n r is asked = some y) : SC Try.prog 98 [.agg [r_v0, .int .i64 r.Canopy.Frame.Low, .int .i64 r.Canopy.Frame.High, .int .i64 r.Canopy.Frame.Ease.Num, .int .i64 r.Canopy.Frame.Ease.Den, .int .i64 r.Canopy.Frame.Rod, .int .i64 r.Canopy.Frame.Case, r_v7, r_v8, r_v9, r_v10, .int .i64 r.Wrong].toArray, .bool is, .func (.func asked_k) #[] asked_c.toArray] (.tuple [.agg [.int .i64 y.1.Low, .int .i64 y.1.High].toArray, .int .i64 y.2].toArray) H := by
 rw [F_counts_bounds] at hF
 refine SC.of (N := 47) Try.func98 rfl rfl rfl fun w => ?_
 refine JC.seq (JC.region (by rfl) ?_)
 intro hQ
 refine JL.box (cs := [r_v0, .int .i64 r.Canopy.Frame.Low, .int .i64 r.Canopy.Frame.High, .int .i64 r.Canopy.Frame.Ease.Num, .int .i64 r.Canopy.Frame.Ease.Den, .int .i64 r.Canopy.Frame.Rod, .int .i64 r.Canopy.Frame.Case, r_v7, r_v8, r_v9, r_v10, .int .i64 r.Wrong]) rfl .none rfl ?_
 intro b1
 refine JL.alloc ze_39 .none rfl ?_
 intro b2
 refine JL.assign .none rfl ?_
 refine JL.done hQ (JQ.go (JC.seq (JC.region (by rfl) ?_)))
 intro hQ
 refine JL.loadOwn 1 az_90 rfl rfl rfl .none rfl ?_
 refine JL.move .none rfl ?_
 refine JL.move .none rfl ?_
 obtain ⟨y3, hy3, hF⟩ := bind_some hF
 refine JL.callH (c_counts_open n H r r_v0 hr_0 r_v7 hr_7 r_v8 hr_8 r_v9 hr_9 r_v10 hr_10 is asked asked_k asked_c asked_e (fun H' hs' => asked_h H' hs') y3 hy3) rfl en_148 .none rfl ?_
 rintro H4 vv5 hs4 ⟨y3a_v0, y3b_v0, rfl, hy3a_0, hy3b_0⟩
 refine JL.move .none rfl ?_
 refine JL.extract rfl rfl .none rfl ?_
 refine JL.extract rfl rfl .none rfl ?_
 refine JL.extract rfl rfl .none rfl ?_
 refine JL.assign .none rfl ?_
 refine JL.assign .none rfl ?_
 refine JL.assign .none rfl ?_
 refine JL.done hQ (JQ.go (JC.fresh (fun f => f 3 = .pointer (some ⟨b1, 0, none⟩) ∧ f 6 = .pointer (some ⟨b2, 0, none⟩) ∧ f 7 = .int .i64 0 ∧ f 9 = y3b_v0 ∧ f 10 = .int .i64 y3.2.2) ⟨rfl, rfl, rfl, rfl, rfl⟩ ?_))
 rintro f ⟨hf3, hf6, hf7, hf9, hf10⟩
 refine (JC.norm (i := 3) hf3 (JC.norm (i := 6) hf6 (JC.norm (i := 7) hf7 (JC.norm (i := 9) hf9 (JC.norm (i := 10) hf10 ?_)))))
 refine JC.seq (JC.seq (JC.region (by rfl) ?_))
 intro hQ
 refine JL.move .none rfl ?_
 refine JL.bin rfl rfl rfl .none rfl ?_
 refine JL.done hQ (JQ.go ?_)
 rcases ite_some hF with ⟨hc6, hF⟩ | ⟨hc6, hF⟩
 ·refine JC.cond_t (b := (y3.2.2 != 0)) rfl hc6 ?_
  refine JC.seq (JC.region (by rfl) ?_)
  intro hQ
  refine JL.build (l := [.int .i64 0, .int .i64 0]) (by kernel_rfl) .none rfl ?_
  refine JL.move .none rfl ?_
  refine JL.storeOwn 0 (cs := [.int .i64 0, .int .i64 0]) az_39 rfl rfl rfl (one_cons rfl (one_cons rfl one_nil)) rfl rfl .none ?_
  refine JL.assign .none rfl ?_
  refine JL.done hQ (JQ.go (JC.ret (JQ.ret_then ?_)))
  obtain rfl := Option.some.inj hF
  exact JQ.outS rfl (.cell 0 az_39 rfl rfl rfl (.tmp .nil)) rfl
 ·refine JC.cond_f (b := (y3.2.2 != 0)) rfl hc6 ?_
  refine JC.skip (JQ.go (JC.seq (JC.region (by rfl) ?_)))
  intro hQ
  refine JL.fieldAddr fo_90_1 rfl .none rfl ?_
  refine JL.loadOwn 1 az_87 rfl rfl rfl .none rfl ?_
  refine JL.lenSL (R := R_Blow) ul_87 (SL.mono R_Blow_mono hs4 hr_9) .none rfl ?_
  refine JL.build (l := [.int .i64 (r.Blows.length : Int), .int .i64 0]) (by kernel_rfl) .none rfl ?_
  refine JL.alloc ze_39 .none rfl ?_
  intro b7
  refine JL.storeOwn 0 (cs := [.int .i64 (r.Blows.length : Int), .int .i64 0]) az_39 rfl rfl rfl (one_cons rfl (one_cons rfl one_nil)) rfl rfl .none ?_
  refine JL.done hQ (JQ.go (JC.seq (JC.seq (JC.region (by rfl) ?_))))
  intro hQ
  refine JL.move .none rfl ?_
  obtain ⟨u13, hu13, hF⟩ := bind_some hF
  obtain ⟨mb14, es15, ck16, hv17, hH18, hm19⟩ := MD.get hy3b_0 (neM_some hu13)
  refine JL.rangeM mp_209 hv17 (.data hH18) hm19 .none rfl ?_
  intro r8 sn9 seen10 cz11 hI12
  refine JL.done hQ (JQ.go (JC.fresh (fun f => f 6 = .pointer (some ⟨b2, 0, none⟩) ∧ f 7 = .int .i64 0 ∧ f 11 = .pointer (some ⟨b7, 0, none⟩) ∧ f 30 = .pointer (some ⟨r8, 0, none⟩)) ⟨rfl, rfl, rfl, rfl⟩ ?_))
  rintro f ⟨hf6, hf7, hf11, hf30⟩
  refine (JC.norm (i := 6) hf6 (JC.norm (i := 7) hf7 (JC.norm (i := 11) hf11 (JC.norm (i := 30) hf30 ?_))))
  obtain ⟨r84, hlr84, hKr84⟩ := bind_some hF
  refine JC.join (fun (x : Int × Int) H83 f bs gs => match x with | (z_81, z_82) => f 6 = .pointer (some ⟨b2, 0, none⟩) ∧ f 11 = .pointer (some ⟨b7, 0, none⟩) ∧ bs = [(b7, .cells [.int .i64 z_81, .int .i64 z_82].toArray 39), (b2, .cells [.int .i64 0, .int .i64 0].toArray 39)] ∧ gs = [] ∧ HSub H4 H83 ∧ (z_81, z_82) = r84) ?_ ?_
  ·skip
   obtain ⟨rs124, hper125, hl126⟩ := bind_some hlr84
   refine JC.block (JC.mask [true, true, true, false] [] ?_)
   refine JC.mapLoop (srt_nodup hI12.srt) hper125 (fun (dd : Mp) (x : Int × Int) H123 f bs gs => match x with | (z_121, z_122) => ∃ (sn_r8 : Nat) (se_r8 : Array Nat) (cz_r8 : Nat), f 6 = .pointer (some ⟨b2, 0, none⟩) ∧ f 11 = .pointer (some ⟨b7, 0, none⟩) ∧ f 30 = .pointer (some ⟨r8, 0, none⟩) ∧ bs = [(r8, .mapIter (some mb14) sn_r8 se_r8 cz_r8), (b7, .cells [.int .i64 z_121, .int .i64 z_122].toArray 39), (b2, .cells [.int .i64 0, .int .i64 0].toArray 39)] ∧ gs = [] ∧ IR 6 ekA y3.2.1 y3.2.1 es15 ck16 sn_r8 se_r8 cz_r8 dd ∧ HSub H4 H123) ⟨sn9, seen10, cz11, rfl, rfl, rfl, rfl, rfl, hI12, (HSub.refl _)⟩ ?_
   rintro dd ⟨z_121, z_122⟩ H123 f bs gs ⟨sn_r8, se_r8, cz_r8, hf6, hf11, hf30, rfl, rfl, hI_r8, hs123⟩ hend127 hgo128
   refine (JC.norm (i := 6) hf6 (JC.norm (i := 11) hf11 (JC.norm (i := 30) hf30 ?_)))
   refine JC.seq (JC.region (by rfl) ?_)
   intro hQ
   refine JL.nextM 0 kt_213 rfl rfl (.data (hs123.le _ _ hH18)) hm19 hI_r8 .none rfl ?_ ?_
   ·intro hp129
    refine JL.extract rfl rfl .none rfl ?_
    refine JL.done hQ (JQ.go (JC.seq (JC.cond_f (b := false) rfl rfl ?_)))
    refine JC.exit (JQ.exit_then (JQ.exit_then (JQ.exit_block ?_)))
    have er141 := hend127 hp129
    subst er141
    obtain rfl := Option.some.inj hl126
    refine JQ.mask [false, true, true] [] ?_
    exact JQ.join (z_121, z_122) ⟨rfl, rfl, rfl, rfl, hs123, rfl⟩
   ·rintro ⟨kl130, v131⟩ seen132 cz133 hx134 hxm135 hxn136 hI137 hE138
    have kok142 := (hm19.okk _ hxm135)
    dsimp only at kok142
    obtain ⟨sp140, hst139⟩ := hgo128 (kl130, v131) hx134 hxn136
    have hF := hst139
    rw [F_counts_bounds_s1] at hF
    refine JL.extract rfl rfl .none rfl ?_
    refine JL.done hQ (JQ.go (JC.seq (JC.cond_t (b := true) rfl rfl ?_)))
    refine JC.skip (JQ.go (JC.block (JC.seq (JC.region (by rfl) ?_))))
    intro hQ
    refine JL.entryIt (y := (kl130, v131)) 0 rfl rfl (.data (hs123.le _ _ hH18)) hm19 hE138 .none rfl ?_
    refine JL.extract rfl rfl .none rfl ?_
    refine JL.alloc ze_213 .none rfl ?_
    intro b143
    refine JL.storeArr (l := [0, 0, 0, 0, 0, 0]) (l' := kl130) 0 az_213 rfl rfl rfl rfl kok142.1 .none ?_
    refine JL.done hQ (JQ.go (JC.region (by rfl) ?_))
    intro hQ
    refine JL.fieldAddr fo_39_0 rfl .none rfl ?_
    refine JL.loadOwn 2 az_3 rfl rfl rfl .none rfl ?_
    obtain ⟨y144, hy144, hF⟩ := bind_some hF
    refine JL.indexArrP (l := kl130) ar_213 az_3 rfl rfl kok142.1 hy144 .none rfl ?_
    refine JL.loadEl (j := 5) 0 az_3 rfl rfl hy144 .none rfl ?_
    refine JL.min rfl rfl .none rfl ?_
    refine JL.fieldAddr fo_39_1 rfl .none rfl ?_
    refine JL.loadOwn 2 az_3 rfl rfl rfl .none rfl ?_
    obtain ⟨y145, hy145, hF⟩ := bind_some hF
    refine JL.indexArrP (l := kl130) ar_213 az_3 rfl rfl kok142.1 hy145 .none rfl ?_
    refine JL.loadEl (j := 5) 0 az_3 rfl rfl hy145 .none rfl ?_
    refine JL.max rfl rfl .none rfl ?_
    refine JL.build (l := [.int .i64 (min z_121 y144), .int .i64 (max z_122 y145)]) (by kernel_rfl) .none rfl ?_
    refine JL.storeOwn 2 (cs := [.int .i64 (min z_121 y144), .int .i64 (max z_122 y145)]) az_39 rfl rfl rfl (one_cons rfl (one_cons rfl one_nil)) rfl rfl .none ?_
    refine JL.done hQ (JQ.normal_block ?_)
    obtain rfl := Option.some.inj hF
    refine JQ.mask [false, true, true, true] [] ?_
    exact JQ.mnext hx134 hxn136 hst139 ⟨sn_r8, seen132, cz133, rfl, rfl, rfl, rfl, rfl, hI137, hs123⟩
  ·rintro ⟨z_81, z_82⟩ H83 f bs gs ⟨hf6, hf11, rfl, rfl, hs83, rfl⟩
   have hF := hKr84
   try dsimp only at hF
   refine (JQ.norm (i := 6) hf6 (JQ.norm (i := 11) hf11 ?_))
   refine JQ.go (JC.seq (JC.region (by rfl) ?_))
   intro hQ
   refine JL.loadOwn 0 az_39 rfl rfl rfl .none rfl ?_
   refine JL.storeOwn 1 (cs := [.int .i64 z_81, .int .i64 z_82]) az_39 rfl rfl rfl (one_cons rfl (one_cons rfl one_nil)) rfl rfl .none ?_
   refine JL.assign .none rfl ?_
   refine JL.done hQ (JQ.go (JC.ret ?_))
   obtain rfl := Option.some.inj hF
   exact JQ.outS rfl (.cell 1 az_39 rfl rfl rfl (.tmp .nil)) rfl
end Go.Proofs.Yteihdclpiekmaaa
end
