/-
  Printed by a program: functions of the translation as plain functions, and their contracts.
-/
import Derived.Test.YteihdclpiekmaaaLfGenK5
namespace Go.Proofs.Yteihdclpiekmaaa
open Go Go.RowKit Go.Dec
set_option linter.unusedVariables false
-- 88 ferrule/gusts.ends
def F_gusts_ends_s1 (n : Nat) (d : Canopy) : Int × List Int × List Int → Option ((Int × List Int × List Int) ⊕ (List Int × List Int))
  | (x_1387, out_1388, out_1389) => if decide (x_1387 < (d.Ribs.length : Int)) = true then ((geti d.Ribs x_1387).bind fun y1394 => (lim (out_1388 ++ [y1394.High])).bind fun l1401 => (lim (out_1389 ++ [y1394.Low])).bind fun l1406 => some (Sum.inl ((w64 (x_1387 + 1)), l1401, l1406))) else (some (Sum.inr (out_1388, out_1389)))
def F_gusts_ends (n : Nat) (d : Canopy) : Option (gusts_blown × gusts_blown) :=
  (F_gusts_lift n d).bind fun y4 => (loopO n (F_gusts_ends_s1 n d) (0, ([] : List Int), ([] : List Int))).bind fun r1010 => match r1010 with | (out_1007, out_1008) => some ((gusts_blown.mk y4.Low out_1007 d.Shares), (gusts_blown.mk y4.High out_1008 d.Shares))
set_option maxRecDepth 100000 in
set_option maxHeartbeats 40000000 in
theorem c_gusts_ends (n : Nat) (H : Hp) (d : Canopy) (d_v0 : Value) (hd_0 : SL H 7 R_Section d_v0 d.Frame.Sections) (d_v7 : Value) (hd_7 : SL H 2 R_Span d_v7 d.Ribs) (d_v8 : Value) (hd_8 : SL H 1 RInt d_v8 d.Shares) (y : gusts_blown × gusts_blown) (hF : F_gusts_ends n d = some y) : HC Try.prog 88 [.agg [d_v0, .int .i64 d.Frame.Low, .int .i64 d.Frame.High, .int .i64 d.Frame.Ease.Num, .int .i64 d.Frame.Ease.Den, .int .i64 d.Frame.Rod, .int .i64 d.Frame.Case, d_v7, d_v8].toArray] H (fun H' v => ∃ ra_v1 ra_v2 rb_v1 rb_v2 : Value, v = .tuple [.agg [.int .i64 y.1.lift, ra_v1, ra_v2].toArray, .agg [.int .i64 y.2.lift, rb_v1, rb_v2].toArray].toArray ∧ SL H' 1 RInt ra_v1 y.1.ribs ∧ SL H' 1 RInt ra_v2 y.1.shares ∧ SL H' 1 RInt rb_v1 y.2.ribs ∧ SL H' 1 RInt rb_v2 y.2.shares) := by
  rw [F_gusts_ends] at hF
  refine HC.of (N := 43) Try.func88 rfl rfl rfl fun w => ?_
  refine JC.seq ?_
  refine JC.region (by rfl) ?_
  intro hQ
  refine JL.box (cs := [d_v0, .int .i64 d.Frame.Low, .int .i64 d.Frame.High, .int .i64 d.Frame.Ease.Num, .int .i64 d.Frame.Ease.Den, .int .i64 d.Frame.Rod, .int .i64 d.Frame.Case, d_v7, d_v8]) rfl .none rfl ?_
  intro b1
  refine JL.alloc ze_156 .none rfl ?_
  intro b2
  refine JL.alloc ze_156 .none rfl ?_
  intro b3
  refine JL.done hQ ?_
  refine JQ.go ?_
  refine JC.seq ?_
  refine JC.region (by rfl) ?_
  intro hQ
  refine JL.loadOwn 2 az_76 rfl rfl rfl .none rfl ?_
  obtain ⟨y4, hy4, hF⟩ := bind_some hF
  refine JL.callS (c_gusts_lift n H d d_v0 hd_0 d_v7 hd_7 d_v8 hd_8 y4 hy4) rfl en_85 .none rfl ?_
  refine JL.alloc ze_39 .none rfl ?_
  intro b5
  refine JL.storeOwn 0 (cs := [.int .i64 y4.Low, .int .i64 y4.High]) az_39 rfl rfl rfl (one_cons rfl (one_cons rfl one_nil)) rfl rfl .none ?_
  refine JL.done hQ ?_
  refine JQ.go ?_
  refine JC.seq ?_
  obtain ⟨a9, c10, rfl, hh11⟩ := hd_0
  have hd_0 : SL H 7 R_Section (.slice a9 d.Frame.Sections.length c10) d.Frame.Sections := ⟨a9, c10, rfl, hh11⟩
  obtain ⟨a12, c13, rfl, hh14⟩ := hd_7
  have hd_7 : SL H 2 R_Span (.slice a12 d.Ribs.length c13) d.Ribs := ⟨a12, c13, rfl, hh14⟩
  obtain ⟨a15, c16, rfl, hh17⟩ := hd_8
  have hd_8 : SL H 1 RInt (.slice a15 d.Shares.length c16) d.Shares := ⟨a15, c16, rfl, hh17⟩
  refine JC.mixed 12 12 #[false, false, false, false, false, false, false, false, false, false, false, false] [(b5, .cells [.int .i64 y4.Low, .int .i64 y4.High].toArray 39), (b1, .cells [(.slice a9 d.Frame.Sections.length c10), .int .i64 d.Frame.Low, .int .i64 d.Frame.High, .int .i64 d.Frame.Ease.Num, .int .i64 d.Frame.Ease.Den, .int .i64 d.Frame.Rod, .int .i64 d.Frame.Case, (.slice a12 d.Ribs.length c13), (.slice a15 d.Shares.length c16)].toArray 76)] (by rfl) mo_ (by kernel_rfl) (by kernel_rfl) ?_
  intro hQ hE
  refine JA.take 0 (listed' := #[true, false, false, false, false, false, false, false, false, false, false, false]) hQ rfl (by kernel_rfl) (by kernel_rfl) (by kernel_rfl) (by kernel_rfl) (by kernel_rfl) hE (HSub.refl _) (.cons_cons _ (.cons _ (.cons _ (.cons_cons _ (List.nil_sublist _))))) ?_
  refine JL.fieldAddr fo_39_0 rfl .none rfl ?_
  refine JA.cont ?_
  refine JA.take 1 (listed' := #[true, true, false, false, false, false, false, false, false, false, false, false]) hQ rfl (by kernel_rfl) (by kernel_rfl) (by kernel_rfl) (by kernel_rfl) (by kernel_rfl) hE (HSub.refl _) (.cons_cons _ (.cons _ (.cons _ (.cons_cons _ (List.nil_sublist _))))) ?_
  refine JL.loadOwn 0 az_3 rfl rfl rfl .none rfl ?_
  refine JA.cont ?_
  refine JA.take 2 (listed' := #[true, true, true, false, false, false, false, false, false, false, false, false]) hQ rfl (by kernel_rfl) (by kernel_rfl) (by kernel_rfl) (by kernel_rfl) (by kernel_rfl) hE (HSub.refl _) (.cons_cons _ (.cons _ (.cons _ (.cons_cons _ (List.nil_sublist _))))) ?_
  refine JL.fieldAddr fo_76_2 rfl .none rfl ?_
  refine JA.cont ?_
  refine JA.take 3 (listed' := #[true, true, true, true, false, false, false, false, false, false, false, false]) hQ rfl (by kernel_rfl) (by kernel_rfl) (by kernel_rfl) (by kernel_rfl) (by kernel_rfl) hE (HSub.refl _) (.cons_cons _ (.cons _ (.cons _ (.cons_cons _ (List.nil_sublist _))))) ?_
  refine JL.loadOwn 1 az_23 rfl rfl rfl .none rfl ?_
  refine JA.cont ?_
  refine JA.take 4 (listed' := #[true, true, true, true, true, false, false, false, false, false, false, false]) hQ rfl (by kernel_rfl) (by kernel_rfl) (by kernel_rfl) (by kernel_rfl) (by kernel_rfl) hE (HSub.refl _) (.cons_cons _ (.cons _ (.cons _ (.cons_cons _ (List.nil_sublist _))))) ?_
  refine JL.build (l := [.int .i64 y4.Low, .slice none 0 0, (.slice a15 d.Shares.length c16)]) (by kernel_rfl) .none rfl ?_
  refine JA.cont ?_
  refine JA.take 5 (listed' := #[true, true, true, true, true, true, false, false, false, false, false, false]) hQ rfl (by kernel_rfl) (by kernel_rfl) (by kernel_rfl) (by kernel_rfl) (by kernel_rfl) hE (HSub.refl _) (.cons_cons _ (.cons _ (.cons _ (.cons_cons _ (List.nil_sublist _))))) ?_
  refine JL.fieldAddr fo_39_1 rfl .none rfl ?_
  refine JA.cont ?_
  refine JA.take 6 (listed' := #[true, true, true, true, true, true, true, false, false, false, false, false]) hQ rfl (by kernel_rfl) (by kernel_rfl) (by kernel_rfl) (by kernel_rfl) (by kernel_rfl) hE (HSub.refl _) (.cons_cons _ (.cons _ (.cons _ (.cons_cons _ (List.nil_sublist _))))) ?_
  refine JL.loadOwn 0 az_3 rfl rfl rfl .none rfl ?_
  refine JA.cont ?_
  refine JA.take 7 (listed' := #[true, true, true, true, true, true, true, true, false, false, false, false]) hQ rfl (by kernel_rfl) (by kernel_rfl) (by kernel_rfl) (by kernel_rfl) (by kernel_rfl) hE (HSub.refl _) (.cons_cons _ (.cons _ (.cons _ (.cons_cons _ (List.nil_sublist _))))) ?_
  refine JL.fieldAddr fo_76_2 rfl .none rfl ?_
  refine JA.cont ?_
  refine JA.take 8 (listed' := #[true, true, true, true, true, true, true, true, true, false, false, false]) hQ rfl (by kernel_rfl) (by kernel_rfl) (by kernel_rfl) (by kernel_rfl) (by kernel_rfl) hE (HSub.refl _) (.cons_cons _ (.cons _ (.cons _ (.cons_cons _ (List.nil_sublist _))))) ?_
  refine JL.loadOwn 1 az_23 rfl rfl rfl .none rfl ?_
  refine JA.cont ?_
  refine JA.take 9 (listed' := #[true, true, true, true, true, true, true, true, true, true, false, false]) hQ rfl (by kernel_rfl) (by kernel_rfl) (by kernel_rfl) (by kernel_rfl) (by kernel_rfl) hE (HSub.refl _) (.cons_cons _ (.cons _ (.cons _ (.cons_cons _ (List.nil_sublist _))))) ?_
  refine JL.build (l := [.int .i64 y4.High, .slice none 0 0, (.slice a15 d.Shares.length c16)]) (by kernel_rfl) .none rfl ?_
  refine JA.cont ?_
  refine JA.many [10] (by kernel_rfl) (by simp) (all_one ⟨_, #[true, true, true, true, true, true, true, true, true, true, true, false], rfl, (by kernel_rfl), ?_⟩)
  refine JL.storeOwn 2 (cs := [.int .i64 y4.Low, .slice none 0 0, (.slice a15 d.Shares.length c16)]) az_156 rfl rfl rfl (one_cons rfl (one_cons rfl (one_cons (SL.one hd_8) one_nil))) rfl rfl .none ?_
  refine JA.after hE (HSub.refl _) (.cons_cons _ (.cons _ (.cons _ (.cons_cons _ (List.nil_sublist _))))) ?_
  refine JA.many [11] (by kernel_rfl) (by simp) (all_one ⟨_, #[true, true, true, true, true, true, true, true, true, true, true, true], rfl, (by kernel_rfl), ?_⟩)
  refine JL.storeOwn 1 (cs := [.int .i64 y4.High, .slice none 0 0, (.slice a15 d.Shares.length c16)]) az_156 rfl rfl rfl (one_cons rfl (one_cons rfl (one_cons (SL.one hd_8) one_nil))) rfl rfl .none ?_
  refine JA.after hE (HSub.refl _) (.cons_cons _ (.cons _ (.cons _ (.cons_cons _ (List.nil_sublist _))))) ?_
  refine JA.done hQ (by kernel_rfl) ?_
  refine JQ.go ?_
  refine JC.fresh (fun f => f 1 = .pointer (some ⟨b1, 0, none⟩) ∧ f 2 = .pointer (some ⟨b2, 0, none⟩) ∧ f 3 = .pointer (some ⟨b3, 0, none⟩)) ⟨rfl, rfl, rfl⟩ ?_
  rintro f ⟨hf1, hf2, hf3⟩
  refine (JC.norm (i := 1) hf1 (JC.norm (i := 2) hf2 (JC.norm (i := 3) hf3 ?_)))
  refine JC.seq ?_
  refine JC.seq ?_
  refine JC.region (by rfl) ?_
  intro hQ
  refine JL.fieldAddr fo_76_1 rfl .none rfl ?_
  refine JL.loadOwn 3 az_24 rfl rfl rfl .none rfl ?_
  refine JL.lenSL (R := R_Span) ul_24 hd_7 .none rfl ?_
  refine JL.move .none rfl ?_
  refine JL.done hQ ?_
  refine JQ.go ?_
  refine JC.newNil (e := 3) (sz := 1) ?_
  refine JC.newNil (e := 3) (sz := 1) ?_
  obtain ⟨r1010, hlr1010, hKr1010⟩ := bind_some hF
  refine JC.join (fun (x : List Int × List Int) H1009 f bs gs => match x with | (out_1007, out_1008) => ∃ (vout_1007 : Value) (xsout_1007 : List Value) (vout_1008 : Value) (xsout_1008 : List Value), f 2 = .pointer (some ⟨b2, 0, none⟩) ∧ f 3 = .pointer (some ⟨b3, 0, none⟩) ∧ bs = [(b3, .cells [.int .i64 y4.High, vout_1008, (.slice a15 d.Shares.length c16)].toArray 156), (b2, .cells [.int .i64 y4.Low, vout_1007, (.slice a15 d.Shares.length c16)].toArray 156)] ∧ gs = [⟨vout_1007, 3, 1, out_1007.length, xsout_1007⟩, ⟨vout_1008, 3, 1, out_1008.length, xsout_1008⟩] ∧ CH H1009 1 RInt xsout_1007 out_1007 ∧ CH H1009 1 RInt xsout_1008 out_1008 ∧ HSub H H1009 ∧ (out_1007, out_1008) = r1010) ?_ ?_
  · skip
    refine JC.block ?_
    refine JC.mask [false, true, true, false] [true, true] ?_
    refine JC.loop hlr1010 (fun (x : Int × List Int × List Int) H1390 f bs gs => match x with | (x_1387, out_1388, out_1389) => ∃ (vout_1388 : Value) (xsout_1388 : List Value) (vout_1389 : Value) (xsout_1389 : List Value), f 2 = .pointer (some ⟨b2, 0, none⟩) ∧ f 3 = .pointer (some ⟨b3, 0, none⟩) ∧ f 20 = (.slice a12 d.Ribs.length c13) ∧ f 21 = .int .i64 (d.Ribs.length : Int) ∧ f 22 = .int .i64 x_1387 ∧ bs = [(b3, .cells [.int .i64 y4.High, vout_1389, (.slice a15 d.Shares.length c16)].toArray 156), (b2, .cells [.int .i64 y4.Low, vout_1388, (.slice a15 d.Shares.length c16)].toArray 156)] ∧ gs = [⟨vout_1388, 3, 1, out_1388.length, xsout_1388⟩, ⟨vout_1389, 3, 1, out_1389.length, xsout_1389⟩] ∧ CH H1390 1 RInt xsout_1388 out_1388 ∧ CH H1390 1 RInt xsout_1389 out_1389 ∧ HSub H H1390) ⟨(.slice none 0 0), [], (.slice none 0 0), [], rfl, rfl, rfl, rfl, rfl, rfl, rfl, CH.nil, CH.nil, (HSub.refl _)⟩ ?_
    rintro ⟨x_1387, out_1388, out_1389⟩ x1392 H1390 f bs gs ⟨vout_1388, xsout_1388, vout_1389, xsout_1389, hf2, hf3, hf20, hf21, hf22, rfl, rfl, hout_1388, hout_1389, hs1390⟩ hF hr1391
    rw [F_gusts_ends_s1] at hF
    refine (JC.norm (i := 2) hf2 (JC.norm (i := 3) hf3 (JC.norm (i := 20) hf20 (JC.norm (i := 21) hf21 (JC.norm (i := 22) hf22 ?_)))))
    refine JC.seq ?_
    refine JC.region (by rfl) ?_
    intro hQ
    refine JL.bin rfl rfl rfl .none rfl ?_
    refine JL.done hQ ?_
    refine JQ.go ?_
    refine JC.seq ?_
    rcases ite_some hF with ⟨hc1393, hF⟩ | ⟨hc1393, hF⟩
    · refine JC.cond_t (b := decide (x_1387 < (d.Ribs.length : Int))) rfl hc1393 ?_
      refine JC.skip ?_
      refine JQ.go ?_
      refine JC.seq ?_
      refine JC.block ?_
      refine JC.seq ?_
      refine JC.region (by rfl) ?_
      intro hQ
      obtain ⟨y1394, hy1394, hF⟩ := bind_some hF
      refine JL.indexSL (R := R_Span) sl_24 (SL.mono R_Span_mono hs1390 hd_7) rfl hy1394 .none rfl ?_
      rintro b1395 o1396 cs1397 hc1398 - rfl
      refine JL.loadH 0 az_39 rfl hc1398 rfl .none rfl ?_
      refine JL.alloc ze_39 .none rfl ?_
      intro b1399
      refine JL.storeOwn 0 (cs := [.int .i64 y1394.Low, .int .i64 y1394.High]) az_39 rfl rfl rfl (one_cons rfl (one_cons rfl one_nil)) rfl rfl .none ?_
      refine JL.done hQ ?_
      refine JQ.go ?_
      obtain ⟨l1401, hl1401, hF⟩ := bind_some hF
      obtain ⟨l1406, hl1406, hF⟩ := bind_some hF
      refine JC.mixed 16 16 #[false, false, false, false, false, false, false, false, false, false, false, false, false, false, false, false] [(b1399, .cells [.int .i64 y1394.Low, .int .i64 y1394.High].toArray 39)] (by rfl) mo_ (by kernel_rfl) (by kernel_rfl) ?_
      intro hQ hE
      refine JA.cut 4 #[true, true, true, true, true, true, true, true, true, true, true, false, true, false, false, false] (fun H1525 f bs gs => ∃ (b1516 : Nat) (b1492 : Nat) (v1498 : Value) (xs1499 : List Value), f 2 = .pointer (some ⟨b2, 0, none⟩) ∧ f 3 = .pointer (some ⟨b3, 0, none⟩) ∧ f 20 = (.slice a12 d.Ribs.length c13) ∧ f 21 = .int .i64 (d.Ribs.length : Int) ∧ f 22 = .int .i64 x_1387 ∧ f 31 = v1498 ∧ f 33 = vout_1389 ∧ f 36 = .slice (some ⟨b1516, 0, none⟩) 1 1 ∧ f 38 = .pointer (some ⟨b2, 1, none⟩) ∧ bs = [(b1516, .cells [.int .i64 y1394.Low].toArray 3), (b1492, .cells [.int .i64 y1394.High].toArray 3), (b1399, .cells [.int .i64 y1394.Low, .int .i64 y1394.High].toArray 39), (b3, .cells [.int .i64 y4.High, vout_1389, (.slice a15 d.Shares.length c16)].toArray 156), (b2, .cells [.int .i64 y4.Low, vout_1388, (.slice a15 d.Shares.length c16)].toArray 156)] ∧ gs = [⟨v1498, 3, 1, l1401.length, xs1499⟩, ⟨vout_1389, 3, 1, out_1389.length, xsout_1389⟩] ∧ CH H1525 1 RInt xs1499 l1401 ∧ HSub H1390 H1525) ?_ ?_
      · rintro H1525 f bs gs ⟨b1516, b1492, v1498, xs1499, hf2, hf3, hf20, hf21, hf22, hf31, hf33, hf36, hf38, rfl, rfl, hm1526, hs1525⟩
        refine (JA.norm (i := 2) hf2 (JA.norm (i := 3) hf3 (JA.norm (i := 20) hf20 (JA.norm (i := 21) hf21 (JA.norm (i := 22) hf22 (JA.norm (i := 31) hf31 (JA.norm (i := 33) hf33 (JA.norm (i := 36) hf36 (JA.norm (i := 38) hf38 ?_)))))))))
        refine JA.many [11] (by kernel_rfl) (by simp) (all_one ⟨_, #[true, true, true, true, true, true, true, true, true, true, true, true, true, false, false, false], rfl, (by kernel_rfl), ?_⟩)
        refine JL.appO (R := RInt) 1 0 (l := out_1389) (m := [y1394.Low]) ap_23 rfl ⟨rfl, rfl⟩ rfl (CH.mono RInt.mono hs1525 hout_1389) rfl rfl rfl (CH.cons (cs := [.int .i64 y1394.Low]) rfl rfl CH.nil) rfl (one_cons rfl one_nil) hl1406 .none rfl ?_
        intro v1527 xs1528 hch1529
        refine JA.after hE hs1525 (.cons _ (.cons _ (.cons_cons _ (.cons _ (.cons _ (List.nil_sublist _)))))) ?_
        refine JA.many [13] (by kernel_rfl) (by simp) (all_one ⟨_, #[true, true, true, true, true, true, true, true, true, true, true, true, true, true, false, false], rfl, (by kernel_rfl), ?_⟩)
        refine JL.oneG 0 rfl (fun ho1530 => ?_)
        refine JL.storeOwn 4 (cs := [v1498]) az_23 rfl ho1530.2 rfl (one_cons ho1530.1 one_nil) rfl rfl .none ?_
        refine JA.after hE hs1525 (.cons _ (.cons _ (.cons_cons _ (.cons _ (.cons _ (List.nil_sublist _)))))) ?_
        refine JA.take 14 (listed' := #[true, true, true, true, true, true, true, true, true, true, true, true, true, true, true, false]) hQ rfl (by kernel_rfl) (by kernel_rfl) (by kernel_rfl) (by kernel_rfl) (by kernel_rfl) hE hs1525 (.cons _ (.cons _ (.cons_cons _ (.cons _ (.cons _ (List.nil_sublist _)))))) ?_
        refine JL.fieldAddr fo_156_1 rfl .none rfl ?_
        refine JA.cont ?_
        refine JA.many [15] (by kernel_rfl) (by simp) (all_one ⟨_, #[true, true, true, true, true, true, true, true, true, true, true, true, true, true, true, true], rfl, (by kernel_rfl), ?_⟩)
        refine JL.oneG 1 rfl (fun ho1531 => ?_)
        refine JL.storeOwn 3 (cs := [v1527]) az_23 rfl ho1531.2 rfl (one_cons ho1531.1 one_nil) rfl rfl .none ?_
        refine JA.after hE hs1525 (.cons _ (.cons _ (.cons_cons _ (.cons _ (.cons _ (List.nil_sublist _)))))) ?_
        refine JA.done hQ (by kernel_rfl) ?_
        refine JQ.normal_block ?_
        refine JQ.go ?_
        refine JC.region (by rfl) ?_
        intro hQ
        refine JL.bin rfl rfl rfl .none rfl ?_
        refine JL.move .none rfl ?_
        refine JL.done hQ ?_
        obtain rfl := Option.some.inj hF
        refine JQ.mask [false, false, false, true, true] [true, true] ?_
        exact JQ.next rfl ⟨v1498, xs1499, v1527, xs1528, rfl, rfl, rfl, rfl, rfl, rfl, rfl, hm1526, hch1529, (HSub.trans hs1390 hs1525)⟩
      intro nd1524_0
      refine JA.cut 5 #[true, true, true, true, true, true, true, true, true, true, false, false, true, false, false, false] (fun H1532 f bs gs => ∃ (b1492 : Nat) (v1498 : Value) (xs1499 : List Value), f 2 = .pointer (some ⟨b2, 0, none⟩) ∧ f 3 = .pointer (some ⟨b3, 0, none⟩) ∧ f 20 = (.slice a12 d.Ribs.length c13) ∧ f 21 = .int .i64 (d.Ribs.length : Int) ∧ f 22 = .int .i64 x_1387 ∧ f 31 = v1498 ∧ f 33 = vout_1389 ∧ f 35 = .int .i64 y1394.Low ∧ f 38 = .pointer (some ⟨b2, 1, none⟩) ∧ bs = [(b1492, .cells [.int .i64 y1394.High].toArray 3), (b1399, .cells [.int .i64 y1394.Low, .int .i64 y1394.High].toArray 39), (b3, .cells [.int .i64 y4.High, vout_1389, (.slice a15 d.Shares.length c16)].toArray 156), (b2, .cells [.int .i64 y4.Low, vout_1388, (.slice a15 d.Shares.length c16)].toArray 156)] ∧ gs = [⟨v1498, 3, 1, l1401.length, xs1499⟩, ⟨vout_1389, 3, 1, out_1389.length, xsout_1389⟩] ∧ CH H1532 1 RInt xs1499 l1401 ∧ HSub H1390 H1532) ?_ ?_
      · rintro H1532 f bs gs ⟨b1492, v1498, xs1499, hf2, hf3, hf20, hf21, hf22, hf31, hf33, hf35, hf38, rfl, rfl, hm1533, hs1532⟩
        refine (JA.norm (i := 2) hf2 (JA.norm (i := 3) hf3 (JA.norm (i := 20) hf20 (JA.norm (i := 21) hf21 (JA.norm (i := 22) hf22 (JA.norm (i := 31) hf31 (JA.norm (i := 33) hf33 (JA.norm (i := 35) hf35 (JA.norm (i := 38) hf38 ?_)))))))))
        refine JA.many [10] (by kernel_rfl) (by simp) (all_one ⟨_, #[true, true, true, true, true, true, true, true, true, true, true, false, true, false, false, false], rfl, (by kernel_rfl), ?_⟩)
        refine JL.buildSlice (e := 3) (l := [.int .i64 y1394.Low]) (by kernel_rfl) .none rfl ?_
        intro b1534
        refine JA.after hE hs1532 (.cons _ (.cons _ (.cons_cons _ (.cons _ (.cons _ (List.nil_sublist _)))))) ?_
        exact nd1524_0 _ _ _ _ ⟨b1534, b1492, v1498, xs1499, rfl, rfl, rfl, rfl, rfl, rfl, rfl, rfl, rfl, rfl, rfl, hm1533, hs1532⟩
      intro nd1524_1
      refine JA.cut 5 #[true, true, true, true, true, true, true, false, true, true, true, false, true, false, false, false] (fun H1535 f bs gs => ∃ (b1507 : Nat) (b1492 : Nat) (v1498 : Value) (xs1499 : List Value), f 2 = .pointer (some ⟨b2, 0, none⟩) ∧ f 3 = .pointer (some ⟨b3, 0, none⟩) ∧ f 20 = (.slice a12 d.Ribs.length c13) ∧ f 21 = .int .i64 (d.Ribs.length : Int) ∧ f 22 = .int .i64 x_1387 ∧ f 31 = v1498 ∧ f 32 = .pointer (some ⟨b3, 1, none⟩) ∧ f 36 = .slice (some ⟨b1507, 0, none⟩) 1 1 ∧ f 38 = .pointer (some ⟨b2, 1, none⟩) ∧ bs = [(b1507, .cells [.int .i64 y1394.Low].toArray 3), (b1492, .cells [.int .i64 y1394.High].toArray 3), (b1399, .cells [.int .i64 y1394.Low, .int .i64 y1394.High].toArray 39), (b3, .cells [.int .i64 y4.High, vout_1389, (.slice a15 d.Shares.length c16)].toArray 156), (b2, .cells [.int .i64 y4.Low, vout_1388, (.slice a15 d.Shares.length c16)].toArray 156)] ∧ gs = [⟨v1498, 3, 1, l1401.length, xs1499⟩, ⟨vout_1389, 3, 1, out_1389.length, xsout_1389⟩] ∧ CH H1535 1 RInt xs1499 l1401 ∧ HSub H1390 H1535) ?_ ?_
      · rintro H1535 f bs gs ⟨b1507, b1492, v1498, xs1499, hf2, hf3, hf20, hf21, hf22, hf31, hf32, hf36, hf38, rfl, rfl, hm1536, hs1535⟩
        refine (JA.norm (i := 2) hf2 (JA.norm (i := 3) hf3 (JA.norm (i := 20) hf20 (JA.norm (i := 21) hf21 (JA.norm (i := 22) hf22 (JA.norm (i := 31) hf31 (JA.norm (i := 32) hf32 (JA.norm (i := 36) hf36 (JA.norm (i := 38) hf38 ?_)))))))))
        refine JA.many [7] (by kernel_rfl) (by simp) (all_one ⟨_, #[true, true, true, true, true, true, true, true, true, true, true, false, true, false, false, false], rfl, (by kernel_rfl), ?_⟩)
        refine JL.loadOwn 3 az_23 rfl rfl rfl .none rfl ?_
        refine JA.after hE hs1535 (.cons _ (.cons _ (.cons_cons _ (.cons _ (.cons _ (List.nil_sublist _)))))) ?_
        exact nd1524_0 _ _ _ _ ⟨b1507, b1492, v1498, xs1499, rfl, rfl, rfl, rfl, rfl, rfl, rfl, rfl, rfl, rfl, rfl, hm1536, hs1535⟩
      intro nd1524_2
      refine JA.cut 6 #[true, true, true, true, true, false, true, true, true, true, true, false, false, false, false, false] (fun H1537 f bs gs => ∃ (b1511 : Nat) (b1492 : Nat), f 2 = .pointer (some ⟨b2, 0, none⟩) ∧ f 3 = .pointer (some ⟨b3, 0, none⟩) ∧ f 20 = (.slice a12 d.Ribs.length c13) ∧ f 21 = .int .i64 (d.Ribs.length : Int) ∧ f 22 = .int .i64 x_1387 ∧ f 27 = vout_1388 ∧ f 30 = .slice (some ⟨b1492, 0, none⟩) 1 1 ∧ f 33 = vout_1389 ∧ f 36 = .slice (some ⟨b1511, 0, none⟩) 1 1 ∧ bs = [(b1511, .cells [.int .i64 y1394.Low].toArray 3), (b1492, .cells [.int .i64 y1394.High].toArray 3), (b1399, .cells [.int .i64 y1394.Low, .int .i64 y1394.High].toArray 39), (b3, .cells [.int .i64 y4.High, vout_1389, (.slice a15 d.Shares.length c16)].toArray 156), (b2, .cells [.int .i64 y4.Low, vout_1388, (.slice a15 d.Shares.length c16)].toArray 156)] ∧ gs = [⟨vout_1388, 3, 1, out_1388.length, xsout_1388⟩, ⟨vout_1389, 3, 1, out_1389.length, xsout_1389⟩] ∧ HSub H1390 H1537) ?_ ?_
      · rintro H1537 f bs gs ⟨b1511, b1492, hf2, hf3, hf20, hf21, hf22, hf27, hf30, hf33, hf36, rfl, rfl, hs1537⟩
        refine (JA.norm (i := 2) hf2 (JA.norm (i := 3) hf3 (JA.norm (i := 20) hf20 (JA.norm (i := 21) hf21 (JA.norm (i := 22) hf22 (JA.norm (i := 27) hf27 (JA.norm (i := 30) hf30 (JA.norm (i := 33) hf33 (JA.norm (i := 36) hf36 ?_)))))))))
        refine JA.many [5] (by kernel_rfl) (by simp) (all_one ⟨_, #[true, true, true, true, true, true, true, true, true, true, true, false, false, false, false, false], rfl, (by kernel_rfl), ?_⟩)
        refine JL.appO (R := RInt) 0 1 (l := out_1388) (m := [y1394.High]) ap_23 rfl ⟨rfl, rfl⟩ rfl (CH.mono RInt.mono hs1537 hout_1388) rfl rfl rfl (CH.cons (cs := [.int .i64 y1394.High]) rfl rfl CH.nil) rfl (one_cons rfl one_nil) hl1401 .none rfl ?_
        intro v1538 xs1539 hch1540
        refine JA.after hE hs1537 (.cons _ (.cons _ (.cons_cons _ (.cons _ (.cons _ (List.nil_sublist _)))))) ?_
        refine JA.take 12 (listed' := #[true, true, true, true, true, true, true, true, true, true, true, false, true, false, false, false]) hQ rfl (by kernel_rfl) (by kernel_rfl) (by kernel_rfl) (by kernel_rfl) (by kernel_rfl) hE hs1537 (.cons _ (.cons _ (.cons_cons _ (.cons _ (.cons _ (List.nil_sublist _)))))) ?_
        refine JL.fieldAddr fo_156_1 rfl .none rfl ?_
        refine JA.cont ?_
        exact nd1524_0 _ _ _ _ ⟨b1511, b1492, v1538, xs1539, rfl, rfl, rfl, rfl, rfl, rfl, rfl, rfl, rfl, rfl, rfl, hch1540, hs1537⟩
      intro nd1524_3
      refine JA.cut 7 #[true, true, true, true, true, false, true, true, true, true, false, false, false, false, false, false] (fun H1541 f bs gs => ∃ (b1492 : Nat), f 2 = .pointer (some ⟨b2, 0, none⟩) ∧ f 3 = .pointer (some ⟨b3, 0, none⟩) ∧ f 20 = (.slice a12 d.Ribs.length c13) ∧ f 21 = .int .i64 (d.Ribs.length : Int) ∧ f 22 = .int .i64 x_1387 ∧ f 27 = vout_1388 ∧ f 30 = .slice (some ⟨b1492, 0, none⟩) 1 1 ∧ f 33 = vout_1389 ∧ f 35 = .int .i64 y1394.Low ∧ bs = [(b1492, .cells [.int .i64 y1394.High].toArray 3), (b1399, .cells [.int .i64 y1394.Low, .int .i64 y1394.High].toArray 39), (b3, .cells [.int .i64 y4.High, vout_1389, (.slice a15 d.Shares.length c16)].toArray 156), (b2, .cells [.int .i64 y4.Low, vout_1388, (.slice a15 d.Shares.length c16)].toArray 156)] ∧ gs = [⟨vout_1388, 3, 1, out_1388.length, xsout_1388⟩, ⟨vout_1389, 3, 1, out_1389.length, xsout_1389⟩] ∧ HSub H1390 H1541) ?_ ?_
      · rintro H1541 f bs gs ⟨b1492, hf2, hf3, hf20, hf21, hf22, hf27, hf30, hf33, hf35, rfl, rfl, hs1541⟩
        refine (JA.norm (i := 2) hf2 (JA.norm (i := 3) hf3 (JA.norm (i := 20) hf20 (JA.norm (i := 21) hf21 (JA.norm (i := 22) hf22 (JA.norm (i := 27) hf27 (JA.norm (i := 30) hf30 (JA.norm (i := 33) hf33 (JA.norm (i := 35) hf35 ?_)))))))))
        refine JA.many [5, 10] (by kernel_rfl) (by simp) (all_cons ⟨_, #[true, true, true, true, true, true, true, true, true, true, false, false, false, false, false, false], rfl, (by kernel_rfl), ?_⟩ (all_one ⟨_, #[true, true, true, true, true, false, true, true, true, true, true, false, false, false, false, false], rfl, (by kernel_rfl), ?_⟩))
        · skip
          refine JL.appO (R := RInt) 0 0 (l := out_1388) (m := [y1394.High]) ap_23 rfl ⟨rfl, rfl⟩ rfl (CH.mono RInt.mono hs1541 hout_1388) rfl rfl rfl (CH.cons (cs := [.int .i64 y1394.High]) rfl rfl CH.nil) rfl (one_cons rfl one_nil) hl1401 .none rfl ?_
          intro v1542 xs1543 hch1544
          refine JA.after hE hs1541 (.cons _ (.cons_cons _ (.cons _ (.cons _ (List.nil_sublist _))))) ?_
          refine JA.take 12 (listed' := #[true, true, true, true, true, true, true, true, true, true, false, false, true, false, false, false]) hQ rfl (by kernel_rfl) (by kernel_rfl) (by kernel_rfl) (by kernel_rfl) (by kernel_rfl) hE hs1541 (.cons _ (.cons_cons _ (.cons _ (.cons _ (List.nil_sublist _))))) ?_
          refine JL.fieldAddr fo_156_1 rfl .none rfl ?_
          refine JA.cont ?_
          exact nd1524_1 _ _ _ _ ⟨b1492, v1542, xs1543, rfl, rfl, rfl, rfl, rfl, rfl, rfl, rfl, rfl, rfl, rfl, hch1544, hs1541⟩
        · skip
          refine JL.buildSlice (e := 3) (l := [.int .i64 y1394.Low]) (by kernel_rfl) .none rfl ?_
          intro b1545
          refine JA.after hE hs1541 (.cons _ (.cons _ (.cons_cons _ (.cons _ (.cons _ (List.nil_sublist _)))))) ?_
          exact nd1524_3 _ _ _ _ ⟨b1545, b1492, rfl, rfl, rfl, rfl, rfl, rfl, rfl, rfl, rfl, rfl, rfl, hs1541⟩
      intro nd1524_4
      refine JA.cut 7 #[true, true, true, true, true, false, true, false, true, true, true, false, false, false, false, false] (fun H1546 f bs gs => ∃ (b1501 : Nat) (b1492 : Nat), f 2 = .pointer (some ⟨b2, 0, none⟩) ∧ f 3 = .pointer (some ⟨b3, 0, none⟩) ∧ f 20 = (.slice a12 d.Ribs.length c13) ∧ f 21 = .int .i64 (d.Ribs.length : Int) ∧ f 22 = .int .i64 x_1387 ∧ f 27 = vout_1388 ∧ f 30 = .slice (some ⟨b1492, 0, none⟩) 1 1 ∧ f 32 = .pointer (some ⟨b3, 1, none⟩) ∧ f 36 = .slice (some ⟨b1501, 0, none⟩) 1 1 ∧ bs = [(b1501, .cells [.int .i64 y1394.Low].toArray 3), (b1492, .cells [.int .i64 y1394.High].toArray 3), (b1399, .cells [.int .i64 y1394.Low, .int .i64 y1394.High].toArray 39), (b3, .cells [.int .i64 y4.High, vout_1389, (.slice a15 d.Shares.length c16)].toArray 156), (b2, .cells [.int .i64 y4.Low, vout_1388, (.slice a15 d.Shares.length c16)].toArray 156)] ∧ gs = [⟨vout_1388, 3, 1, out_1388.length, xsout_1388⟩, ⟨vout_1389, 3, 1, out_1389.length, xsout_1389⟩] ∧ HSub H1390 H1546) ?_ ?_
      · rintro H1546 f bs gs ⟨b1501, b1492, hf2, hf3, hf20, hf21, hf22, hf27, hf30, hf32, hf36, rfl, rfl, hs1546⟩
        refine (JA.norm (i := 2) hf2 (JA.norm (i := 3) hf3 (JA.norm (i := 20) hf20 (JA.norm (i := 21) hf21 (JA.norm (i := 22) hf22 (JA.norm (i := 27) hf27 (JA.norm (i := 30) hf30 (JA.norm (i := 32) hf32 (JA.norm (i := 36) hf36 ?_)))))))))
        refine JA.many [5, 7] (by kernel_rfl) (by simp) (all_cons ⟨_, #[true, true, true, true, true, true, true, false, true, true, true, false, false, false, false, false], rfl, (by kernel_rfl), ?_⟩ (all_one ⟨_, #[true, true, true, true, true, false, true, true, true, true, true, false, false, false, false, false], rfl, (by kernel_rfl), ?_⟩))
        · skip
          refine JL.appO (R := RInt) 0 1 (l := out_1388) (m := [y1394.High]) ap_23 rfl ⟨rfl, rfl⟩ rfl (CH.mono RInt.mono hs1546 hout_1388) rfl rfl rfl (CH.cons (cs := [.int .i64 y1394.High]) rfl rfl CH.nil) rfl (one_cons rfl one_nil) hl1401 .none rfl ?_
          intro v1547 xs1548 hch1549
          refine JA.after hE hs1546 (.cons _ (.cons _ (.cons_cons _ (.cons _ (.cons _ (List.nil_sublist _)))))) ?_
          refine JA.take 12 (listed' := #[true, true, true, true, true, true, true, false, true, true, true, false, true, false, false, false]) hQ rfl (by kernel_rfl) (by kernel_rfl) (by kernel_rfl) (by kernel_rfl) (by kernel_rfl) hE hs1546 (.cons _ (.cons _ (.cons_cons _ (.cons _ (.cons _ (List.nil_sublist _)))))) ?_
          refine JL.fieldAddr fo_156_1 rfl .none rfl ?_
          refine JA.cont ?_
          exact nd1524_2 _ _ _ _ ⟨b1501, b1492, v1547, xs1548, rfl, rfl, rfl, rfl, rfl, rfl, rfl, rfl, rfl, rfl, rfl, hch1549, hs1546⟩
        · skip
          refine JL.loadOwn 3 az_23 rfl rfl rfl .none rfl ?_
          refine JA.after hE hs1546 (.cons _ (.cons _ (.cons_cons _ (.cons _ (.cons _ (List.nil_sublist _)))))) ?_
          exact nd1524_3 _ _ _ _ ⟨b1501, b1492, rfl, rfl, rfl, rfl, rfl, rfl, rfl, rfl, rfl, rfl, rfl, hs1546⟩
      intro nd1524_5
      refine JA.cut 7 #[true, true, true, true, false, false, true, true, true, true, true, false, false, false, false, false] (fun H1550 f bs gs => ∃ (b1503 : Nat), f 2 = .pointer (some ⟨b2, 0, none⟩) ∧ f 3 = .pointer (some ⟨b3, 0, none⟩) ∧ f 20 = (.slice a12 d.Ribs.length c13) ∧ f 21 = .int .i64 (d.Ribs.length : Int) ∧ f 22 = .int .i64 x_1387 ∧ f 27 = vout_1388 ∧ f 29 = .int .i64 y1394.High ∧ f 33 = vout_1389 ∧ f 36 = .slice (some ⟨b1503, 0, none⟩) 1 1 ∧ bs = [(b1503, .cells [.int .i64 y1394.Low].toArray 3), (b1399, .cells [.int .i64 y1394.Low, .int .i64 y1394.High].toArray 39), (b3, .cells [.int .i64 y4.High, vout_1389, (.slice a15 d.Shares.length c16)].toArray 156), (b2, .cells [.int .i64 y4.Low, vout_1388, (.slice a15 d.Shares.length c16)].toArray 156)] ∧ gs = [⟨vout_1388, 3, 1, out_1388.length, xsout_1388⟩, ⟨vout_1389, 3, 1, out_1389.length, xsout_1389⟩] ∧ HSub H1390 H1550) ?_ ?_
      · rintro H1550 f bs gs ⟨b1503, hf2, hf3, hf20, hf21, hf22, hf27, hf29, hf33, hf36, rfl, rfl, hs1550⟩
        refine (JA.norm (i := 2) hf2 (JA.norm (i := 3) hf3 (JA.norm (i := 20) hf20 (JA.norm (i := 21) hf21 (JA.norm (i := 22) hf22 (JA.norm (i := 27) hf27 (JA.norm (i := 29) hf29 (JA.norm (i := 33) hf33 (JA.norm (i := 36) hf36 ?_)))))))))
        refine JA.many [4] (by kernel_rfl) (by simp) (all_one ⟨_, #[true, true, true, true, true, false, true, true, true, true, true, false, false, false, false, false], rfl, (by kernel_rfl), ?_⟩)
        refine JL.buildSlice (e := 3) (l := [.int .i64 y1394.High]) (by kernel_rfl) .none rfl ?_
        intro b1551
        refine JA.after hE hs1550 (.cons _ (.cons _ (.cons_cons _ (.cons _ (.cons _ (List.nil_sublist _)))))) ?_
        refine JA.perm (swapAt_perm 0 _) ?_
        exact nd1524_3 _ _ _ _ ⟨b1503, b1551, rfl, rfl, rfl, rfl, rfl, rfl, rfl, rfl, rfl, rfl, rfl, hs1550⟩
      intro nd1524_6
      refine JA.cut 7 #[true, false, true, true, true, false, true, true, true, true, true, false, false, false, false, false] (fun H1552 f bs gs => ∃ (b1505 : Nat) (b1490 : Nat), f 2 = .pointer (some ⟨b2, 0, none⟩) ∧ f 3 = .pointer (some ⟨b3, 0, none⟩) ∧ f 20 = (.slice a12 d.Ribs.length c13) ∧ f 21 = .int .i64 (d.Ribs.length : Int) ∧ f 22 = .int .i64 x_1387 ∧ f 26 = .pointer (some ⟨b2, 1, none⟩) ∧ f 30 = .slice (some ⟨b1490, 0, none⟩) 1 1 ∧ f 33 = vout_1389 ∧ f 36 = .slice (some ⟨b1505, 0, none⟩) 1 1 ∧ bs = [(b1505, .cells [.int .i64 y1394.Low].toArray 3), (b1490, .cells [.int .i64 y1394.High].toArray 3), (b1399, .cells [.int .i64 y1394.Low, .int .i64 y1394.High].toArray 39), (b3, .cells [.int .i64 y4.High, vout_1389, (.slice a15 d.Shares.length c16)].toArray 156), (b2, .cells [.int .i64 y4.Low, vout_1388, (.slice a15 d.Shares.length c16)].toArray 156)] ∧ gs = [⟨vout_1388, 3, 1, out_1388.length, xsout_1388⟩, ⟨vout_1389, 3, 1, out_1389.length, xsout_1389⟩] ∧ HSub H1390 H1552) ?_ ?_
      · rintro H1552 f bs gs ⟨b1505, b1490, hf2, hf3, hf20, hf21, hf22, hf26, hf30, hf33, hf36, rfl, rfl, hs1552⟩
        refine (JA.norm (i := 2) hf2 (JA.norm (i := 3) hf3 (JA.norm (i := 20) hf20 (JA.norm (i := 21) hf21 (JA.norm (i := 22) hf22 (JA.norm (i := 26) hf26 (JA.norm (i := 30) hf30 (JA.norm (i := 33) hf33 (JA.norm (i := 36) hf36 ?_)))))))))
        refine JA.many [1] (by kernel_rfl) (by simp) (all_one ⟨_, #[true, true, true, true, true, false, true, true, true, true, true, false, false, false, false, false], rfl, (by kernel_rfl), ?_⟩)
        refine JL.loadOwn 4 az_23 rfl rfl rfl .none rfl ?_
        refine JA.after hE hs1552 (.cons _ (.cons _ (.cons_cons _ (.cons _ (.cons _ (List.nil_sublist _)))))) ?_
        exact nd1524_3 _ _ _ _ ⟨b1505, b1490, rfl, rfl, rfl, rfl, rfl, rfl, rfl, rfl, rfl, rfl, rfl, hs1552⟩
      intro nd1524_7
      refine JA.cut 8 #[true, true, true, true, true, false, true, false, true, true, false, false, false, false, false, false] (fun H1553 f bs gs => ∃ (b1492 : Nat), f 2 = .pointer (some ⟨b2, 0, none⟩) ∧ f 3 = .pointer (some ⟨b3, 0, none⟩) ∧ f 20 = (.slice a12 d.Ribs.length c13) ∧ f 21 = .int .i64 (d.Ribs.length : Int) ∧ f 22 = .int .i64 x_1387 ∧ f 27 = vout_1388 ∧ f 30 = .slice (some ⟨b1492, 0, none⟩) 1 1 ∧ f 32 = .pointer (some ⟨b3, 1, none⟩) ∧ f 35 = .int .i64 y1394.Low ∧ bs = [(b1492, .cells [.int .i64 y1394.High].toArray 3), (b1399, .cells [.int .i64 y1394.Low, .int .i64 y1394.High].toArray 39), (b3, .cells [.int .i64 y4.High, vout_1389, (.slice a15 d.Shares.length c16)].toArray 156), (b2, .cells [.int .i64 y4.Low, vout_1388, (.slice a15 d.Shares.length c16)].toArray 156)] ∧ gs = [⟨vout_1388, 3, 1, out_1388.length, xsout_1388⟩, ⟨vout_1389, 3, 1, out_1389.length, xsout_1389⟩] ∧ HSub H1390 H1553) ?_ ?_
      · rintro H1553 f bs gs ⟨b1492, hf2, hf3, hf20, hf21, hf22, hf27, hf30, hf32, hf35, rfl, rfl, hs1553⟩
        refine (JA.norm (i := 2) hf2 (JA.norm (i := 3) hf3 (JA.norm (i := 20) hf20 (JA.norm (i := 21) hf21 (JA.norm (i := 22) hf22 (JA.norm (i := 27) hf27 (JA.norm (i := 30) hf30 (JA.norm (i := 32) hf32 (JA.norm (i := 35) hf35 ?_)))))))))
        refine JA.many [5, 7, 10] (by kernel_rfl) (by simp) (all_cons ⟨_, #[true, true, true, true, true, true, true, false, true, true, false, false, false, false, false, false], rfl, (by kernel_rfl), ?_⟩ (all_cons ⟨_, #[true, true, true, true, true, false, true, true, true, true, false, false, false, false, false, false], rfl, (by kernel_rfl), ?_⟩ (all_one ⟨_, #[true, true, true, true, true, false, true, false, true, true, true, false, false, false, false, false], rfl, (by kernel_rfl), ?_⟩)))
        · skip
          refine JL.appO (R := RInt) 0 0 (l := out_1388) (m := [y1394.High]) ap_23 rfl ⟨rfl, rfl⟩ rfl (CH.mono RInt.mono hs1553 hout_1388) rfl rfl rfl (CH.cons (cs := [.int .i64 y1394.High]) rfl rfl CH.nil) rfl (one_cons rfl one_nil) hl1401 .none rfl ?_
          intro v1554 xs1555 hch1556
          refine JA.after hE hs1553 (.cons _ (.cons_cons _ (.cons _ (.cons _ (List.nil_sublist _))))) ?_
          refine JA.take 12 (listed' := #[true, true, true, true, true, true, true, false, true, true, false, false, true, false, false, false]) hQ rfl (by kernel_rfl) (by kernel_rfl) (by kernel_rfl) (by kernel_rfl) (by kernel_rfl) hE hs1553 (.cons _ (.cons_cons _ (.cons _ (.cons _ (List.nil_sublist _))))) ?_
          refine JL.fieldAddr fo_156_1 rfl .none rfl ?_
          refine JA.cont ?_
          refine JA.many [7, 10] (by kernel_rfl) (by simp) (all_cons ⟨_, #[true, true, true, true, true, true, true, true, true, true, false, false, true, false, false, false], rfl, (by kernel_rfl), ?_⟩ (all_one ⟨_, #[true, true, true, true, true, true, true, false, true, true, true, false, true, false, false, false], rfl, (by kernel_rfl), ?_⟩))
          · skip
            refine JL.loadOwn 2 az_23 rfl rfl rfl .none rfl ?_
            refine JA.after hE hs1553 (.cons _ (.cons_cons _ (.cons _ (.cons _ (List.nil_sublist _))))) ?_
            exact nd1524_1 _ _ _ _ ⟨b1492, v1554, xs1555, rfl, rfl, rfl, rfl, rfl, rfl, rfl, rfl, rfl, rfl, rfl, hch1556, hs1553⟩
          · skip
            refine JL.buildSlice (e := 3) (l := [.int .i64 y1394.Low]) (by kernel_rfl) .none rfl ?_
            intro b1557
            refine JA.after hE hs1553 (.cons _ (.cons _ (.cons_cons _ (.cons _ (.cons _ (List.nil_sublist _)))))) ?_
            exact nd1524_2 _ _ _ _ ⟨b1557, b1492, v1554, xs1555, rfl, rfl, rfl, rfl, rfl, rfl, rfl, rfl, rfl, rfl, rfl, hch1556, hs1553⟩
        · skip
          refine JL.loadOwn 2 az_23 rfl rfl rfl .none rfl ?_
          refine JA.after hE hs1553 (.cons _ (.cons_cons _ (.cons _ (.cons _ (List.nil_sublist _))))) ?_
          exact nd1524_4 _ _ _ _ ⟨b1492, rfl, rfl, rfl, rfl, rfl, rfl, rfl, rfl, rfl, rfl, rfl, hs1553⟩
        · skip
          refine JL.buildSlice (e := 3) (l := [.int .i64 y1394.Low]) (by kernel_rfl) .none rfl ?_
          intro b1558
          refine JA.after hE hs1553 (.cons _ (.cons _ (.cons_cons _ (.cons _ (.cons _ (List.nil_sublist _)))))) ?_
          exact nd1524_5 _ _ _ _ ⟨b1558, b1492, rfl, rfl, rfl, rfl, rfl, rfl, rfl, rfl, rfl, rfl, rfl, hs1553⟩
      intro nd1524_8
      refine JA.cut 8 #[true, true, true, true, false, false, true, true, true, true, false, false, false, false, false, false] (fun H1559 f bs gs => f 2 = .pointer (some ⟨b2, 0, none⟩) ∧ f 3 = .pointer (some ⟨b3, 0, none⟩) ∧ f 20 = (.slice a12 d.Ribs.length c13) ∧ f 21 = .int .i64 (d.Ribs.length : Int) ∧ f 22 = .int .i64 x_1387 ∧ f 27 = vout_1388 ∧ f 29 = .int .i64 y1394.High ∧ f 33 = vout_1389 ∧ f 35 = .int .i64 y1394.Low ∧ bs = [(b1399, .cells [.int .i64 y1394.Low, .int .i64 y1394.High].toArray 39), (b3, .cells [.int .i64 y4.High, vout_1389, (.slice a15 d.Shares.length c16)].toArray 156), (b2, .cells [.int .i64 y4.Low, vout_1388, (.slice a15 d.Shares.length c16)].toArray 156)] ∧ gs = [⟨vout_1388, 3, 1, out_1388.length, xsout_1388⟩, ⟨vout_1389, 3, 1, out_1389.length, xsout_1389⟩] ∧ HSub H1390 H1559) ?_ ?_
      · rintro H1559 f bs gs ⟨hf2, hf3, hf20, hf21, hf22, hf27, hf29, hf33, hf35, rfl, rfl, hs1559⟩
        refine (JA.norm (i := 2) hf2 (JA.norm (i := 3) hf3 (JA.norm (i := 20) hf20 (JA.norm (i := 21) hf21 (JA.norm (i := 22) hf22 (JA.norm (i := 27) hf27 (JA.norm (i := 29) hf29 (JA.norm (i := 33) hf33 (JA.norm (i := 35) hf35 ?_)))))))))
        refine JA.many [4, 10] (by kernel_rfl) (by simp) (all_cons ⟨_, #[true, true, true, true, true, false, true, true, true, true, false, false, false, false, false, false], rfl, (by kernel_rfl), ?_⟩ (all_one ⟨_, #[true, true, true, true, false, false, true, true, true, true, true, false, false, false, false, false], rfl, (by kernel_rfl), ?_⟩))
        · skip
          refine JL.buildSlice (e := 3) (l := [.int .i64 y1394.High]) (by kernel_rfl) .none rfl ?_
          intro b1560
          refine JA.after hE hs1559 (.cons _ (.cons_cons _ (.cons _ (.cons _ (List.nil_sublist _))))) ?_
          exact nd1524_4 _ _ _ _ ⟨b1560, rfl, rfl, rfl, rfl, rfl, rfl, rfl, rfl, rfl, rfl, rfl, hs1559⟩
        · skip
          refine JL.buildSlice (e := 3) (l := [.int .i64 y1394.Low]) (by kernel_rfl) .none rfl ?_
          intro b1561
          refine JA.after hE hs1559 (.cons _ (.cons_cons _ (.cons _ (.cons _ (List.nil_sublist _))))) ?_
          exact nd1524_6 _ _ _ _ ⟨b1561, rfl, rfl, rfl, rfl, rfl, rfl, rfl, rfl, rfl, rfl, rfl, hs1559⟩
      intro nd1524_9
      refine JA.cut 8 #[true, true, true, true, false, false, true, false, true, true, true, false, false, false, false, false] (fun H1562 f bs gs => ∃ (b1493 : Nat), f 2 = .pointer (some ⟨b2, 0, none⟩) ∧ f 3 = .pointer (some ⟨b3, 0, none⟩) ∧ f 20 = (.slice a12 d.Ribs.length c13) ∧ f 21 = .int .i64 (d.Ribs.length : Int) ∧ f 22 = .int .i64 x_1387 ∧ f 27 = vout_1388 ∧ f 29 = .int .i64 y1394.High ∧ f 32 = .pointer (some ⟨b3, 1, none⟩) ∧ f 36 = .slice (some ⟨b1493, 0, none⟩) 1 1 ∧ bs = [(b1493, .cells [.int .i64 y1394.Low].toArray 3), (b1399, .cells [.int .i64 y1394.Low, .int .i64 y1394.High].toArray 39), (b3, .cells [.int .i64 y4.High, vout_1389, (.slice a15 d.Shares.length c16)].toArray 156), (b2, .cells [.int .i64 y4.Low, vout_1388, (.slice a15 d.Shares.length c16)].toArray 156)] ∧ gs = [⟨vout_1388, 3, 1, out_1388.length, xsout_1388⟩, ⟨vout_1389, 3, 1, out_1389.length, xsout_1389⟩] ∧ HSub H1390 H1562) ?_ ?_
      · rintro H1562 f bs gs ⟨b1493, hf2, hf3, hf20, hf21, hf22, hf27, hf29, hf32, hf36, rfl, rfl, hs1562⟩
        refine (JA.norm (i := 2) hf2 (JA.norm (i := 3) hf3 (JA.norm (i := 20) hf20 (JA.norm (i := 21) hf21 (JA.norm (i := 22) hf22 (JA.norm (i := 27) hf27 (JA.norm (i := 29) hf29 (JA.norm (i := 32) hf32 (JA.norm (i := 36) hf36 ?_)))))))))
        refine JA.many [4, 7] (by kernel_rfl) (by simp) (all_cons ⟨_, #[true, true, true, true, true, false, true, false, true, true, true, false, false, false, false, false], rfl, (by kernel_rfl), ?_⟩ (all_one ⟨_, #[true, true, true, true, false, false, true, true, true, true, true, false, false, false, false, false], rfl, (by kernel_rfl), ?_⟩))
        · skip
          refine JL.buildSlice (e := 3) (l := [.int .i64 y1394.High]) (by kernel_rfl) .none rfl ?_
          intro b1563
          refine JA.after hE hs1562 (.cons _ (.cons _ (.cons_cons _ (.cons _ (.cons _ (List.nil_sublist _)))))) ?_
          refine JA.perm (swapAt_perm 0 _) ?_
          exact nd1524_5 _ _ _ _ ⟨b1493, b1563, rfl, rfl, rfl, rfl, rfl, rfl, rfl, rfl, rfl, rfl, rfl, hs1562⟩
        · skip
          refine JL.loadOwn 2 az_23 rfl rfl rfl .none rfl ?_
          refine JA.after hE hs1562 (.cons _ (.cons_cons _ (.cons _ (.cons _ (List.nil_sublist _))))) ?_
          exact nd1524_6 _ _ _ _ ⟨b1493, rfl, rfl, rfl, rfl, rfl, rfl, rfl, rfl, rfl, rfl, rfl, hs1562⟩
      intro nd1524_10
      refine JA.cut 8 #[true, false, true, true, true, false, true, true, true, true, false, false, false, false, false, false] (fun H1564 f bs gs => ∃ (b1490 : Nat), f 2 = .pointer (some ⟨b2, 0, none⟩) ∧ f 3 = .pointer (some ⟨b3, 0, none⟩) ∧ f 20 = (.slice a12 d.Ribs.length c13) ∧ f 21 = .int .i64 (d.Ribs.length : Int) ∧ f 22 = .int .i64 x_1387 ∧ f 26 = .pointer (some ⟨b2, 1, none⟩) ∧ f 30 = .slice (some ⟨b1490, 0, none⟩) 1 1 ∧ f 33 = vout_1389 ∧ f 35 = .int .i64 y1394.Low ∧ bs = [(b1490, .cells [.int .i64 y1394.High].toArray 3), (b1399, .cells [.int .i64 y1394.Low, .int .i64 y1394.High].toArray 39), (b3, .cells [.int .i64 y4.High, vout_1389, (.slice a15 d.Shares.length c16)].toArray 156), (b2, .cells [.int .i64 y4.Low, vout_1388, (.slice a15 d.Shares.length c16)].toArray 156)] ∧ gs = [⟨vout_1388, 3, 1, out_1388.length, xsout_1388⟩, ⟨vout_1389, 3, 1, out_1389.length, xsout_1389⟩] ∧ HSub H1390 H1564) ?_ ?_
      · rintro H1564 f bs gs ⟨b1490, hf2, hf3, hf20, hf21, hf22, hf26, hf30, hf33, hf35, rfl, rfl, hs1564⟩
        refine (JA.norm (i := 2) hf2 (JA.norm (i := 3) hf3 (JA.norm (i := 20) hf20 (JA.norm (i := 21) hf21 (JA.norm (i := 22) hf22 (JA.norm (i := 26) hf26 (JA.norm (i := 30) hf30 (JA.norm (i := 33) hf33 (JA.norm (i := 35) hf35 ?_)))))))))
        refine JA.many [1, 10] (by kernel_rfl) (by simp) (all_cons ⟨_, #[true, true, true, true, true, false, true, true, true, true, false, false, false, false, false, false], rfl, (by kernel_rfl), ?_⟩ (all_one ⟨_, #[true, false, true, true, true, false, true, true, true, true, true, false, false, false, false, false], rfl, (by kernel_rfl), ?_⟩))
        · skip
          refine JL.loadOwn 3 az_23 rfl rfl rfl .none rfl ?_
          refine JA.after hE hs1564 (.cons _ (.cons_cons _ (.cons _ (.cons _ (List.nil_sublist _))))) ?_
          exact nd1524_4 _ _ _ _ ⟨b1490, rfl, rfl, rfl, rfl, rfl, rfl, rfl, rfl, rfl, rfl, rfl, hs1564⟩
        · skip
          refine JL.buildSlice (e := 3) (l := [.int .i64 y1394.Low]) (by kernel_rfl) .none rfl ?_
          intro b1565
          refine JA.after hE hs1564 (.cons _ (.cons _ (.cons_cons _ (.cons _ (.cons _ (List.nil_sublist _)))))) ?_
          exact nd1524_7 _ _ _ _ ⟨b1565, b1490, rfl, rfl, rfl, rfl, rfl, rfl, rfl, rfl, rfl, rfl, rfl, hs1564⟩
      intro nd1524_11
      refine JA.cut 8 #[true, false, true, true, true, false, true, false, true, true, true, false, false, false, false, false] (fun H1566 f bs gs => ∃ (b1494 : Nat) (b1490 : Nat), f 2 = .pointer (some ⟨b2, 0, none⟩) ∧ f 3 = .pointer (some ⟨b3, 0, none⟩) ∧ f 20 = (.slice a12 d.Ribs.length c13) ∧ f 21 = .int .i64 (d.Ribs.length : Int) ∧ f 22 = .int .i64 x_1387 ∧ f 26 = .pointer (some ⟨b2, 1, none⟩) ∧ f 30 = .slice (some ⟨b1490, 0, none⟩) 1 1 ∧ f 32 = .pointer (some ⟨b3, 1, none⟩) ∧ f 36 = .slice (some ⟨b1494, 0, none⟩) 1 1 ∧ bs = [(b1494, .cells [.int .i64 y1394.Low].toArray 3), (b1490, .cells [.int .i64 y1394.High].toArray 3), (b1399, .cells [.int .i64 y1394.Low, .int .i64 y1394.High].toArray 39), (b3, .cells [.int .i64 y4.High, vout_1389, (.slice a15 d.Shares.length c16)].toArray 156), (b2, .cells [.int .i64 y4.Low, vout_1388, (.slice a15 d.Shares.length c16)].toArray 156)] ∧ gs = [⟨vout_1388, 3, 1, out_1388.length, xsout_1388⟩, ⟨vout_1389, 3, 1, out_1389.length, xsout_1389⟩] ∧ HSub H1390 H1566) ?_ ?_
      · rintro H1566 f bs gs ⟨b1494, b1490, hf2, hf3, hf20, hf21, hf22, hf26, hf30, hf32, hf36, rfl, rfl, hs1566⟩
        refine (JA.norm (i := 2) hf2 (JA.norm (i := 3) hf3 (JA.norm (i := 20) hf20 (JA.norm (i := 21) hf21 (JA.norm (i := 22) hf22 (JA.norm (i := 26) hf26 (JA.norm (i := 30) hf30 (JA.norm (i := 32) hf32 (JA.norm (i := 36) hf36 ?_)))))))))
        refine JA.many [1, 7] (by kernel_rfl) (by simp) (all_cons ⟨_, #[true, true, true, true, true, false, true, false, true, true, true, false, false, false, false, false], rfl, (by kernel_rfl), ?_⟩ (all_one ⟨_, #[true, false, true, true, true, false, true, true, true, true, true, false, false, false, false, false], rfl, (by kernel_rfl), ?_⟩))
        · skip
          refine JL.loadOwn 4 az_23 rfl rfl rfl .none rfl ?_
          refine JA.after hE hs1566 (.cons _ (.cons _ (.cons_cons _ (.cons _ (.cons _ (List.nil_sublist _)))))) ?_
          exact nd1524_5 _ _ _ _ ⟨b1494, b1490, rfl, rfl, rfl, rfl, rfl, rfl, rfl, rfl, rfl, rfl, rfl, hs1566⟩
        · skip
          refine JL.loadOwn 3 az_23 rfl rfl rfl .none rfl ?_
          refine JA.after hE hs1566 (.cons _ (.cons _ (.cons_cons _ (.cons _ (.cons _ (List.nil_sublist _)))))) ?_
          exact nd1524_7 _ _ _ _ ⟨b1494, b1490, rfl, rfl, rfl, rfl, rfl, rfl, rfl, rfl, rfl, rfl, rfl, hs1566⟩
      intro nd1524_12
      refine JA.cut 8 #[true, false, true, true, false, false, true, true, true, true, true, false, false, false, false, false] (fun H1567 f bs gs => ∃ (b1496 : Nat), f 2 = .pointer (some ⟨b2, 0, none⟩) ∧ f 3 = .pointer (some ⟨b3, 0, none⟩) ∧ f 20 = (.slice a12 d.Ribs.length c13) ∧ f 21 = .int .i64 (d.Ribs.length : Int) ∧ f 22 = .int .i64 x_1387 ∧ f 26 = .pointer (some ⟨b2, 1, none⟩) ∧ f 29 = .int .i64 y1394.High ∧ f 33 = vout_1389 ∧ f 36 = .slice (some ⟨b1496, 0, none⟩) 1 1 ∧ bs = [(b1496, .cells [.int .i64 y1394.Low].toArray 3), (b1399, .cells [.int .i64 y1394.Low, .int .i64 y1394.High].toArray 39), (b3, .cells [.int .i64 y4.High, vout_1389, (.slice a15 d.Shares.length c16)].toArray 156), (b2, .cells [.int .i64 y4.Low, vout_1388, (.slice a15 d.Shares.length c16)].toArray 156)] ∧ gs = [⟨vout_1388, 3, 1, out_1388.length, xsout_1388⟩, ⟨vout_1389, 3, 1, out_1389.length, xsout_1389⟩] ∧ HSub H1390 H1567) ?_ ?_
      · rintro H1567 f bs gs ⟨b1496, hf2, hf3, hf20, hf21, hf22, hf26, hf29, hf33, hf36, rfl, rfl, hs1567⟩
        refine (JA.norm (i := 2) hf2 (JA.norm (i := 3) hf3 (JA.norm (i := 20) hf20 (JA.norm (i := 21) hf21 (JA.norm (i := 22) hf22 (JA.norm (i := 26) hf26 (JA.norm (i := 29) hf29 (JA.norm (i := 33) hf33 (JA.norm (i := 36) hf36 ?_)))))))))
        refine JA.many [1, 4] (by kernel_rfl) (by simp) (all_cons ⟨_, #[true, true, true, true, false, false, true, true, true, true, true, false, false, false, false, false], rfl, (by kernel_rfl), ?_⟩ (all_one ⟨_, #[true, false, true, true, true, false, true, true, true, true, true, false, false, false, false, false], rfl, (by kernel_rfl), ?_⟩))
        · skip
          refine JL.loadOwn 3 az_23 rfl rfl rfl .none rfl ?_
          refine JA.after hE hs1567 (.cons _ (.cons_cons _ (.cons _ (.cons _ (List.nil_sublist _))))) ?_
          exact nd1524_6 _ _ _ _ ⟨b1496, rfl, rfl, rfl, rfl, rfl, rfl, rfl, rfl, rfl, rfl, rfl, hs1567⟩
        · skip
          refine JL.buildSlice (e := 3) (l := [.int .i64 y1394.High]) (by kernel_rfl) .none rfl ?_
          intro b1568
          refine JA.after hE hs1567 (.cons _ (.cons _ (.cons_cons _ (.cons _ (.cons _ (List.nil_sublist _)))))) ?_
          refine JA.perm (swapAt_perm 0 _) ?_
          exact nd1524_7 _ _ _ _ ⟨b1496, b1568, rfl, rfl, rfl, rfl, rfl, rfl, rfl, rfl, rfl, rfl, rfl, hs1567⟩
      intro nd1524_13
      refine JA.take 0 (listed' := #[true, false, false, false, false, false, false, false, false, false, false, false, false, false, false, false]) hQ rfl (by kernel_rfl) (by kernel_rfl) (by kernel_rfl) (by kernel_rfl) (by kernel_rfl) hE (HSub.refl _) (.cons_cons _ (.cons _ (.cons _ (List.nil_sublist _)))) ?_
      refine JL.fieldAddr fo_156_1 rfl .none rfl ?_
      refine JA.cont ?_
      refine JA.take 2 (listed' := #[true, false, true, false, false, false, false, false, false, false, false, false, false, false, false, false]) hQ rfl (by kernel_rfl) (by kernel_rfl) (by kernel_rfl) (by kernel_rfl) (by kernel_rfl) hE (HSub.refl _) (.cons_cons _ (.cons _ (.cons _ (List.nil_sublist _)))) ?_
      refine JL.fieldAddr fo_39_1 rfl .none rfl ?_
      refine JA.cont ?_
      refine JA.take 3 (listed' := #[true, false, true, true, false, false, false, false, false, false, false, false, false, false, false, false]) hQ rfl (by kernel_rfl) (by kernel_rfl) (by kernel_rfl) (by kernel_rfl) (by kernel_rfl) hE (HSub.refl _) (.cons_cons _ (.cons _ (.cons _ (List.nil_sublist _)))) ?_
      refine JL.loadOwn 0 az_3 rfl rfl rfl .none rfl ?_
      refine JA.cont ?_
      refine JA.take 6 (listed' := #[true, false, true, true, false, false, true, false, false, false, false, false, false, false, false, false]) hQ rfl (by kernel_rfl) (by kernel_rfl) (by kernel_rfl) (by kernel_rfl) (by kernel_rfl) hE (HSub.refl _) (.cons_cons _ (.cons _ (.cons _ (List.nil_sublist _)))) ?_
      refine JL.fieldAddr fo_156_1 rfl .none rfl ?_
      refine JA.cont ?_
      refine JA.take 8 (listed' := #[true, false, true, true, false, false, true, false, true, false, false, false, false, false, false, false]) hQ rfl (by kernel_rfl) (by kernel_rfl) (by kernel_rfl) (by kernel_rfl) (by kernel_rfl) hE (HSub.refl _) (.cons_cons _ (.cons _ (.cons _ (List.nil_sublist _)))) ?_
      refine JL.fieldAddr fo_39_0 rfl .none rfl ?_
      refine JA.cont ?_
      refine JA.take 9 (listed' := #[true, false, true, true, false, false, true, false, true, true, false, false, false, false, false, false]) hQ rfl (by kernel_rfl) (by kernel_rfl) (by kernel_rfl) (by kernel_rfl) (by kernel_rfl) hE (HSub.refl _) (.cons_cons _ (.cons _ (.cons _ (List.nil_sublist _)))) ?_
      refine JL.loadOwn 0 az_3 rfl rfl rfl .none rfl ?_
      refine JA.cont ?_
      refine JA.many [1, 4, 7, 10] (by kernel_rfl) (by simp) (all_cons ⟨_, #[true, true, true, true, false, false, true, false, true, true, false, false, false, false, false, false], rfl, (by kernel_rfl), ?_⟩ (all_cons ⟨_, #[true, false, true, true, true, false, true, false, true, true, false, false, false, false, false, false], rfl, (by kernel_rfl), ?_⟩ (all_cons ⟨_, #[true, false, true, true, false, false, true, true, true, true, false, false, false, false, false, false], rfl, (by kernel_rfl), ?_⟩ (all_one ⟨_, #[true, false, true, true, false, false, true, false, true, true, true, false, false, false, false, false], rfl, (by kernel_rfl), ?_⟩))))
      · skip
        refine JL.loadOwn 2 az_23 rfl rfl rfl .none rfl ?_
        refine JA.after hE (HSub.refl _) (.cons_cons _ (.cons _ (.cons _ (List.nil_sublist _)))) ?_
        refine JA.many [4, 7, 10] (by kernel_rfl) (by simp) (all_cons ⟨_, #[true, true, true, true, true, false, true, false, true, true, false, false, false, false, false, false], rfl, (by kernel_rfl), ?_⟩ (all_cons ⟨_, #[true, true, true, true, false, false, true, true, true, true, false, false, false, false, false, false], rfl, (by kernel_rfl), ?_⟩ (all_one ⟨_, #[true, true, true, true, false, false, true, false, true, true, true, false, false, false, false, false], rfl, (by kernel_rfl), ?_⟩)))
        · skip
          refine JL.buildSlice (e := 3) (l := [.int .i64 y1394.High]) (by kernel_rfl) .none rfl ?_
          intro b1569
          refine JA.after hE (HSub.refl _) (.cons _ (.cons_cons _ (.cons _ (.cons _ (List.nil_sublist _))))) ?_
          exact nd1524_8 _ _ _ _ ⟨b1569, rfl, rfl, rfl, rfl, rfl, rfl, rfl, rfl, rfl, rfl, rfl, (HSub.refl _)⟩
        · skip
          refine JL.loadOwn 1 az_23 rfl rfl rfl .none rfl ?_
          refine JA.after hE (HSub.refl _) (.cons_cons _ (.cons _ (.cons _ (List.nil_sublist _)))) ?_
          exact nd1524_9 _ _ _ _ ⟨rfl, rfl, rfl, rfl, rfl, rfl, rfl, rfl, rfl, rfl, rfl, (HSub.refl _)⟩
        · skip
          refine JL.buildSlice (e := 3) (l := [.int .i64 y1394.Low]) (by kernel_rfl) .none rfl ?_
          intro b1570
          refine JA.after hE (HSub.refl _) (.cons _ (.cons_cons _ (.cons _ (.cons _ (List.nil_sublist _))))) ?_
          exact nd1524_10 _ _ _ _ ⟨b1570, rfl, rfl, rfl, rfl, rfl, rfl, rfl, rfl, rfl, rfl, rfl, (HSub.refl _)⟩
      · skip
        refine JL.buildSlice (e := 3) (l := [.int .i64 y1394.High]) (by kernel_rfl) .none rfl ?_
        intro b1571
        refine JA.after hE (HSub.refl _) (.cons _ (.cons_cons _ (.cons _ (.cons _ (List.nil_sublist _))))) ?_
        refine JA.many [1, 7, 10] (by kernel_rfl) (by simp) (all_cons ⟨_, #[true, true, true, true, true, false, true, false, true, true, false, false, false, false, false, false], rfl, (by kernel_rfl), ?_⟩ (all_cons ⟨_, #[true, false, true, true, true, false, true, true, true, true, false, false, false, false, false, false], rfl, (by kernel_rfl), ?_⟩ (all_one ⟨_, #[true, false, true, true, true, false, true, false, true, true, true, false, false, false, false, false], rfl, (by kernel_rfl), ?_⟩)))
        · skip
          refine JL.loadOwn 3 az_23 rfl rfl rfl .none rfl ?_
          refine JA.after hE (HSub.refl _) (.cons _ (.cons_cons _ (.cons _ (.cons _ (List.nil_sublist _))))) ?_
          exact nd1524_8 _ _ _ _ ⟨b1571, rfl, rfl, rfl, rfl, rfl, rfl, rfl, rfl, rfl, rfl, rfl, (HSub.refl _)⟩
        · skip
          refine JL.loadOwn 2 az_23 rfl rfl rfl .none rfl ?_
          refine JA.after hE (HSub.refl _) (.cons _ (.cons_cons _ (.cons _ (.cons _ (List.nil_sublist _))))) ?_
          exact nd1524_11 _ _ _ _ ⟨b1571, rfl, rfl, rfl, rfl, rfl, rfl, rfl, rfl, rfl, rfl, rfl, (HSub.refl _)⟩
        · skip
          refine JL.buildSlice (e := 3) (l := [.int .i64 y1394.Low]) (by kernel_rfl) .none rfl ?_
          intro b1572
          refine JA.after hE (HSub.refl _) (.cons _ (.cons _ (.cons_cons _ (.cons _ (.cons _ (List.nil_sublist _)))))) ?_
          exact nd1524_12 _ _ _ _ ⟨b1572, b1571, rfl, rfl, rfl, rfl, rfl, rfl, rfl, rfl, rfl, rfl, rfl, (HSub.refl _)⟩
      · skip
        refine JL.loadOwn 1 az_23 rfl rfl rfl .none rfl ?_
        refine JA.after hE (HSub.refl _) (.cons_cons _ (.cons _ (.cons _ (List.nil_sublist _)))) ?_
        refine JA.many [1, 4, 10] (by kernel_rfl) (by simp) (all_cons ⟨_, #[true, true, true, true, false, false, true, true, true, true, false, false, false, false, false, false], rfl, (by kernel_rfl), ?_⟩ (all_cons ⟨_, #[true, false, true, true, true, false, true, true, true, true, false, false, false, false, false, false], rfl, (by kernel_rfl), ?_⟩ (all_one ⟨_, #[true, false, true, true, false, false, true, true, true, true, true, false, false, false, false, false], rfl, (by kernel_rfl), ?_⟩)))
        · skip
          refine JL.loadOwn 2 az_23 rfl rfl rfl .none rfl ?_
          refine JA.after hE (HSub.refl _) (.cons_cons _ (.cons _ (.cons _ (List.nil_sublist _)))) ?_
          exact nd1524_9 _ _ _ _ ⟨rfl, rfl, rfl, rfl, rfl, rfl, rfl, rfl, rfl, rfl, rfl, (HSub.refl _)⟩
        · skip
          refine JL.buildSlice (e := 3) (l := [.int .i64 y1394.High]) (by kernel_rfl) .none rfl ?_
          intro b1573
          refine JA.after hE (HSub.refl _) (.cons _ (.cons_cons _ (.cons _ (.cons _ (List.nil_sublist _))))) ?_
          exact nd1524_11 _ _ _ _ ⟨b1573, rfl, rfl, rfl, rfl, rfl, rfl, rfl, rfl, rfl, rfl, rfl, (HSub.refl _)⟩
        · skip
          refine JL.buildSlice (e := 3) (l := [.int .i64 y1394.Low]) (by kernel_rfl) .none rfl ?_
          intro b1574
          refine JA.after hE (HSub.refl _) (.cons _ (.cons_cons _ (.cons _ (.cons _ (List.nil_sublist _))))) ?_
          exact nd1524_13 _ _ _ _ ⟨b1574, rfl, rfl, rfl, rfl, rfl, rfl, rfl, rfl, rfl, rfl, rfl, (HSub.refl _)⟩
      · skip
        refine JL.buildSlice (e := 3) (l := [.int .i64 y1394.Low]) (by kernel_rfl) .none rfl ?_
        intro b1575
        refine JA.after hE (HSub.refl _) (.cons _ (.cons_cons _ (.cons _ (.cons _ (List.nil_sublist _))))) ?_
        refine JA.many [1, 4, 7] (by kernel_rfl) (by simp) (all_cons ⟨_, #[true, true, true, true, false, false, true, false, true, true, true, false, false, false, false, false], rfl, (by kernel_rfl), ?_⟩ (all_cons ⟨_, #[true, false, true, true, true, false, true, false, true, true, true, false, false, false, false, false], rfl, (by kernel_rfl), ?_⟩ (all_one ⟨_, #[true, false, true, true, false, false, true, true, true, true, true, false, false, false, false, false], rfl, (by kernel_rfl), ?_⟩)))
        · skip
          refine JL.loadOwn 3 az_23 rfl rfl rfl .none rfl ?_
          refine JA.after hE (HSub.refl _) (.cons _ (.cons_cons _ (.cons _ (.cons _ (List.nil_sublist _))))) ?_
          exact nd1524_10 _ _ _ _ ⟨b1575, rfl, rfl, rfl, rfl, rfl, rfl, rfl, rfl, rfl, rfl, rfl, (HSub.refl _)⟩
        · skip
          refine JL.buildSlice (e := 3) (l := [.int .i64 y1394.High]) (by kernel_rfl) .none rfl ?_
          intro b1576
          refine JA.after hE (HSub.refl _) (.cons _ (.cons _ (.cons_cons _ (.cons _ (.cons _ (List.nil_sublist _)))))) ?_
          refine JA.perm (swapAt_perm 0 _) ?_
          exact nd1524_12 _ _ _ _ ⟨b1575, b1576, rfl, rfl, rfl, rfl, rfl, rfl, rfl, rfl, rfl, rfl, rfl, (HSub.refl _)⟩
        · skip
          refine JL.loadOwn 2 az_23 rfl rfl rfl .none rfl ?_
          refine JA.after hE (HSub.refl _) (.cons _ (.cons_cons _ (.cons _ (.cons _ (List.nil_sublist _))))) ?_
          exact nd1524_13 _ _ _ _ ⟨b1575, rfl, rfl, rfl, rfl, rfl, rfl, rfl, rfl, rfl, rfl, rfl, (HSub.refl _)⟩
    · refine JC.cond_f (b := decide (x_1387 < (d.Ribs.length : Int))) rfl hc1393 ?_
      refine JC.exit ?_
      refine JQ.exit_then ?_
      refine JQ.exit_then ?_
      refine JQ.exit_block ?_
      obtain rfl := Option.some.inj hF
      have ehr1391 := hr1391 _ rfl
      subst ehr1391
      exact JQ.join (out_1388, out_1389) ⟨vout_1388, xsout_1388, vout_1389, xsout_1389, rfl, rfl, rfl, rfl, hout_1388, hout_1389, hs1390, rfl⟩
  · rintro ⟨out_1007, out_1008⟩ H1009 f bs gs ⟨vout_1007, xsout_1007, vout_1008, xsout_1008, hf2, hf3, rfl, rfl, hout_1007, hout_1008, hs1009, rfl⟩
    have hF := hKr1010
    try dsimp only at hF
    refine (JQ.norm (i := 2) hf2 (JQ.norm (i := 3) hf3 ?_))
    refine JQ.go ?_
    refine JC.seq ?_
    refine JC.mixed 4 4 #[false, false, false, false] [(b3, .cells [.int .i64 y4.High, vout_1008, (.slice a15 d.Shares.length c16)].toArray 156), (b2, .cells [.int .i64 y4.Low, vout_1007, (.slice a15 d.Shares.length c16)].toArray 156)] (by rfl) mo_ (by kernel_rfl) (by kernel_rfl) ?_
    intro hQ hE
    refine JA.take 0 (listed' := #[true, false, false, false]) hQ rfl (by kernel_rfl) (by kernel_rfl) (by kernel_rfl) (by kernel_rfl) (by kernel_rfl) hE (HSub.refl _) (.cons_cons _ (.cons_cons _ (List.nil_sublist _))) ?_
    refine JL.loadOwn 1 az_156 rfl rfl rfl .none rfl ?_
    refine JA.cont ?_
    refine JA.take 1 (listed' := #[true, true, false, false]) hQ rfl (by kernel_rfl) (by kernel_rfl) (by kernel_rfl) (by kernel_rfl) (by kernel_rfl) hE (HSub.refl _) (.cons_cons _ (.cons_cons _ (List.nil_sublist _))) ?_
    refine JL.loadOwn 0 az_156 rfl rfl rfl .none rfl ?_
    refine JA.cont ?_
    refine JA.many [2] (by kernel_rfl) (by simp) (all_one ⟨_, #[true, true, true, false], rfl, (by kernel_rfl), ?_⟩)
    refine JL.oneG 0 rfl (fun ho1584 => ?_)
    refine JL.storeOwn 1 (cs := [.int .i64 y4.Low, vout_1007, (.slice a15 d.Shares.length c16)]) az_156 rfl rfl rfl (one_cons rfl (one_cons ho1584.1 (one_cons (SL.one (SL.mono RInt.mono hs1009 hd_8)) one_nil))) rfl rfl .none ?_
    refine JA.after hE (HSub.refl _) (.cons_cons _ (.cons_cons _ (List.nil_sublist _))) ?_
    refine JA.many [3] (by kernel_rfl) (by simp) (all_one ⟨_, #[true, true, true, true], rfl, (by kernel_rfl), ?_⟩)
    refine JL.oneG 1 rfl (fun ho1585 => ?_)
    refine JL.storeOwn 0 (cs := [.int .i64 y4.High, vout_1008, (.slice a15 d.Shares.length c16)]) az_156 rfl rfl rfl (one_cons rfl (one_cons ho1585.1 (one_cons (SL.one (SL.mono RInt.mono hs1009 hd_8)) one_nil))) rfl rfl .none ?_
    refine JA.after hE (HSub.refl _) (.cons_cons _ (.cons_cons _ (List.nil_sublist _))) ?_
    refine JA.done hQ (by kernel_rfl) ?_
    refine JQ.go ?_
    refine JC.ret ?_
    refine JQ.freezeG 0 (R := RInt) rfl RInt.mono hout_1007 rfl ?_
    intro H1586 hs1586 hg1587
    refine JQ.freezeG 0 (R := RInt) rfl RInt.mono (CH.mono RInt.mono hs1586 hout_1008) rfl ?_
    intro H1588 hs1588 hg1589
    obtain rfl := Option.some.inj hF
    exact JQ.outH rfl (.cell 1 az_156 rfl rfl rfl (.cell 0 az_156 rfl rfl rfl .nil)) ⟨vout_1007, (.slice a15 d.Shares.length c16), vout_1008, (.slice a15 d.Shares.length c16), rfl, (SL.mono RInt.mono hs1588 hg1587), (SL.mono RInt.mono (HSub.trans hs1009 (HSub.trans hs1586 hs1588)) hd_8), hg1589, (SL.mono RInt.mono (HSub.trans hs1009 (HSub.trans hs1586 hs1588)) hd_8)⟩

end Go.Proofs.Yteihdclpiekmaaa
