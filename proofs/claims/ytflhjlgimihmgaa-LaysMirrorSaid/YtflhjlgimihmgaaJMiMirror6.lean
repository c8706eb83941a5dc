/-
  A part of the proof of MiMirror: the texts MiGenK6, MiGenK7, EngQ, EngR, EngZ.
-/
import Derived.Test.YtflhjlgimihmgaaJMiMirror5
section
set_option maxRecDepth 100000
set_option maxHeartbeats 40000000
namespace Go.Proofs.Ytflhjlgimihmgaa
open Go Go.RowKit Go.Dec
set_option linter.unusedVariables false
-- 12 ferrule/ferruleref03.Copy
def F_ref03_Copy_s1 (n : Nat) (s : Lap) : Int × List Panel → Option ((Int × List Panel) ⊕ (List Panel))
 | (i_981, out_982) => if decide (i_981 < (s.Panels.length : Int)) = true then ((geti s.Panels i_981).bind fun y998 => (lim (([] : List Span) ++ y998.Rows)).bind fun l1003 => (lim (out_982 ++ [(Panel.mk l1003)])).bind fun l1012 => some (Sum.inl ((w64 (i_981 + 1)), l1012))) else (some (Sum.inr out_982))
def F_ref03_Copy (n : Nat) (s : Lap) : Option Lap :=
 (lim (([] : List Cell) ++ s.Faults)).bind fun l6 => (lim (([] : List Cell) ++ s.Flaws)).bind fun l12 => (loopO n (F_ref03_Copy_s1 n s) (0, ([] : List Panel))).bind fun out_694 => some (Lap.mk s.Width s.Length l6 l12 out_694)
theorem x_ref03_Copy (n : Nat) (H : Hp) (s : Lap) (s_v2 : Value) (hs_2 : SL H 2 R_Cell s_v2 s.Faults) (s_v3 : Value) (hs_3 : SL H 2 R_Cell s_v3 s.Flaws) (s_v4 : Value) (hs_4 : SL H 1 R_Panel s_v4 s.Panels) (y : Lap) (hF : F_ref03_Copy n s = some y) : XC Try.prog 12 [.agg [.int .i64 s.Width, .int .i64 s.Length, s_v2, s_v3, s_v4].toArray] H (fun H' v gs' => ∃ (y_v0 : Value) (y_xs0 : List Value) (y_v1 : Value) (y_xs1 : List Value) (y_v2 : Value) (y_xs2 : List Value), v = .agg [.int .i64 y.Width, .int .i64 y.Length, y_v0, y_v1, y_v2].toArray ∧ gs' = [⟨y_v2, 30, 1, y.Panels.length, y_xs2⟩, ⟨y_v1, 27, 2, y.Flaws.length, y_xs1⟩, ⟨y_v0, 27, 2, y.Faults.length, y_xs0⟩] ∧ CH H' 2 R_Cell y_xs0 y.Faults ∧ CH H' 2 R_Cell y_xs1 y.Flaws ∧ CH H' 1 R_Panel y_xs2 y.Panels) := by
 rw [F_ref03_Copy] at hF
 refine XC.of (N := 39) Try.func12 rfl rfl rfl fun w => ?_
 refine JC.seq (JC.region (by rfl) ?_)
 intro hQ
 refine JL.box (cs := [.int .i64 s.Width, .int .i64 s.Length, s_v2, s_v3, s_v4]) rfl .none rfl ?_
 intro b1
 refine JL.alloc ze_25 .none rfl ?_
 intro b2
 refine JL.done hQ (JQ.go (JC.seq (JC.region (by rfl) ?_)))
 intro hQ
 refine JL.loadOwn 1 az_25 rfl rfl rfl .none rfl ?_
 refine JL.alloc ze_25 .none rfl ?_
 intro b3
 refine JL.storeOwn 0 (cs := [.int .i64 s.Width, .int .i64 s.Length, s_v2, s_v3, s_v4]) az_25 rfl rfl rfl (one_cons rfl (one_cons rfl (one_cons (SL.one hs_2) (one_cons (SL.one hs_3) (one_cons (SL.one hs_4) one_nil))))) rfl rfl .none ?_
 refine JL.done hQ (JQ.go (JC.seq ?_))
 obtain ⟨l6, hl6, hF⟩ := bind_some hF
 obtain ⟨l12, hl12, hF⟩ := bind_some hF
 refine JC.mixed 12 12 #[false, false, false, false, false, false, false, false, false, false, false, false] [(b2, .cells [.int .i64 0, .int .i64 0, .slice none 0 0, .slice none 0 0, .slice none 0 0].toArray 25), (b1, .cells [.int .i64 s.Width, .int .i64 s.Length, s_v2, s_v3, s_v4].toArray 25)] (by rfl) mo_ (by kernel_rfl) (by kernel_rfl) ?_
 intro hQ hE
 refine JA.cut 4 #[true, true, true, true, true, true, true, false, true, false, false, false] (fun H113 f bs gs => ∃ (v103 : Value) (v96 : Value) (xs97 : List Value), f 1 = .pointer (some ⟨b1, 0, none⟩) ∧ f 2 = .pointer (some ⟨b2, 0, none⟩) ∧ f 3 = .pointer (some ⟨b3, 0, none⟩) ∧ f 9 = v96 ∧ f 10 = v103 ∧ f 12 = s_v3 ∧ f 14 = .pointer (some ⟨b3, 2, none⟩) ∧ bs = [(b3, .cells [.int .i64 s.Width, .int .i64 s.Length, s_v2, s_v3, s_v4].toArray 25), (b2, .cells [.int .i64 0, .int .i64 0, .slice none 0 0, .slice none 0 0, .slice none 0 0].toArray 25), (b1, .cells [.int .i64 s.Width, .int .i64 s.Length, s_v2, s_v3, s_v4].toArray 25)] ∧ gs = [⟨v103, 27, 2, 0, []⟩, ⟨v96, 27, 2, l6.length, xs97⟩] ∧ CH H113 2 R_Cell xs97 l6 ∧ HSub H H113) ?_ ?_
 ·rintro H113 f bs gs ⟨v103, v96, xs97, hf1, hf2, hf3, hf9, hf10, hf12, hf14, rfl, rfl, hm114, hs113⟩
  refine (JA.norm (i := 1) hf1 (JA.norm (i := 2) hf2 (JA.norm (i := 3) hf3 (JA.norm (i := 9) hf9 (JA.norm (i := 10) hf10 (JA.norm (i := 12) hf12 (JA.norm (i := 14) hf14 ?_)))))))
  refine JA.many [7] (by kernel_rfl) (by simp) (all_one ⟨_, #[true, true, true, true, true, true, true, true, true, false, false, false], rfl, (by kernel_rfl), ?_⟩)
  refine JL.appD (R := R_Cell) 0 (l := ([] : List Cell)) (m := s.Flaws) ap_22 rfl ⟨rfl, rfl⟩ rfl CH.nil rfl (SL.mono R_Cell_mono hs113 hs_3) (R_Cell_one _) hl12 .none rfl ?_
  intro v115 xs116 hch117
  refine JA.after hE hs113 (.cons _ (.cons_cons _ (.cons_cons _ (List.nil_sublist _)))) ?_
  refine JA.many [9] (by kernel_rfl) (by simp) (all_one ⟨_, #[true, true, true, true, true, true, true, true, true, true, false, false], rfl, (by kernel_rfl), ?_⟩)
  refine JL.oneG 1 rfl (fun ho118 => ?_)
  refine JL.storeOwn 0 (cs := [v96]) az_22 rfl ho118.2 rfl (one_cons ho118.1 one_nil) rfl rfl .none ?_
  refine JA.after hE hs113 (.cons _ (.cons_cons _ (.cons_cons _ (List.nil_sublist _)))) ?_
  refine JA.take 10 (listed' := #[true, true, true, true, true, true, true, true, true, true, true, false]) hQ rfl (by kernel_rfl) (by kernel_rfl) (by kernel_rfl) (by kernel_rfl) (by kernel_rfl) hE hs113 (.cons _ (.cons_cons _ (.cons_cons _ (List.nil_sublist _)))) ?_
  refine JL.fieldAddr fo_25_3 rfl .none rfl ?_
  refine JA.cont ?_
  refine JA.many [11] (by kernel_rfl) (by simp) (all_one ⟨_, #[true, true, true, true, true, true, true, true, true, true, true, true], rfl, (by kernel_rfl), ?_⟩)
  refine JL.oneG 0 rfl (fun ho119 => ?_)
  refine JL.storeOwn 0 (cs := [v115]) az_22 rfl ho119.2 rfl (one_cons ho119.1 one_nil) rfl rfl .none ?_
  refine JA.after hE hs113 (.cons _ (.cons_cons _ (.cons_cons _ (List.nil_sublist _)))) ?_
  refine JA.done hQ (by kernel_rfl) ?_
  refine JQ.go (JC.seq (JC.region (by rfl) ?_))
  intro hQ
  refine JL.fieldAddr fo_25_4 rfl .none rfl ?_
  refine JL.storeOwn 0 (cs := [.slice none 0 0]) az_23 rfl rfl rfl (one_cons rfl one_nil) rfl rfl .none ?_
  refine JL.done hQ (JQ.go (JC.seq (JC.seq (JC.region (by rfl) ?_))))
  intro hQ
  refine JL.assign .none rfl ?_
  refine JL.done hQ (JQ.go (JC.newNil (e := 30) (sz := 1) ?_))
  obtain ⟨r696, hlr696, hKr696⟩ := bind_some hF
  refine JC.join (fun (out_694 : List Panel) H695 f bs gs => ∃ (vout_694 : Value) (xsout_694 : List Value), f 2 = .pointer (some ⟨b2, 0, none⟩) ∧ f 3 = .pointer (some ⟨b3, 0, none⟩) ∧ bs = [(b3, .cells [.int .i64 s.Width, .int .i64 s.Length, v96, v115, vout_694].toArray 25), (b2, .cells [.int .i64 0, .int .i64 0, .slice none 0 0, .slice none 0 0, .slice none 0 0].toArray 25)] ∧ gs = [⟨vout_694, 30, 1, out_694.length, xsout_694⟩, ⟨v115, 27, 2, l12.length, xs116⟩, ⟨v96, 27, 2, l6.length, xs97⟩] ∧ CH H695 1 R_Panel xsout_694 out_694 ∧ HSub H113 H695 ∧ out_694 = r696) ?_ ?_
  ·skip
   refine JC.block (JC.loop hlr696 (fun (x : Int × List Panel) H983 f bs gs => match x with | (i_981, out_982) => ∃ (vout_982 : Value) (xsout_982 : List Value), f 1 = .pointer (some ⟨b1, 0, none⟩) ∧ f 2 = .pointer (some ⟨b2, 0, none⟩) ∧ f 3 = .pointer (some ⟨b3, 0, none⟩) ∧ f 4 = .int .i64 i_981 ∧ bs = [(b3, .cells [.int .i64 s.Width, .int .i64 s.Length, v96, v115, vout_982].toArray 25), (b2, .cells [.int .i64 0, .int .i64 0, .slice none 0 0, .slice none 0 0, .slice none 0 0].toArray 25), (b1, .cells [.int .i64 s.Width, .int .i64 s.Length, s_v2, s_v3, s_v4].toArray 25)] ∧ gs = [⟨vout_982, 30, 1, out_982.length, xsout_982⟩, ⟨v115, 27, 2, l12.length, xs116⟩, ⟨v96, 27, 2, l6.length, xs97⟩] ∧ CH H983 1 R_Panel xsout_982 out_982 ∧ HSub H113 H983) ⟨(.slice none 0 0), [], rfl, rfl, rfl, rfl, rfl, rfl, CH.nil, (HSub.refl _)⟩ ?_)
   rintro ⟨i_981, out_982⟩ x985 H983 f bs gs ⟨vout_982, xsout_982, hf1, hf2, hf3, hf4, rfl, rfl, hout_982, hs983⟩ hF hr984
   rw [F_ref03_Copy_s1] at hF
   refine (JC.norm (i := 1) hf1 (JC.norm (i := 2) hf2 (JC.norm (i := 3) hf3 (JC.norm (i := 4) hf4 ?_))))
   refine JC.seq (JC.seq (JC.region (by rfl) ?_))
   intro hQ
   refine JL.move .none rfl ?_
   refine JL.fieldAddr fo_25_4 rfl .none rfl ?_
   refine JL.loadOwn 2 az_23 rfl rfl rfl .none rfl ?_
   refine JL.lenSL (R := R_Panel) ul_23 (SL.mono R_Panel_mono (HSub.trans hs113 hs983) hs_4) .none rfl ?_
   refine JL.bin rfl rfl rfl .none rfl ?_
   refine JL.done hQ (JQ.go ?_)
   rcases ite_some hF with ⟨hc986, hF⟩ | ⟨hc986, hF⟩
   ·refine JC.cond_t (b := decide (i_981 < (s.Panels.length : Int))) rfl hc986 ?_
    refine JC.skip (JQ.go (JC.seq (JC.block ?_)))
    obtain ⟨a987, c988, rfl, hh989⟩ := hs_2
    have hs_2 : SL H 2 R_Cell (.slice a987 s.Faults.length c988) s.Faults := ⟨a987, c988, rfl, hh989⟩
    obtain ⟨a990, c991, rfl, hh992⟩ := hs_3
    have hs_3 : SL H 2 R_Cell (.slice a990 s.Flaws.length c991) s.Flaws := ⟨a990, c991, rfl, hh992⟩
    obtain ⟨a993, c994, rfl, hh995⟩ := hs_4
    have hs_4 : SL H 1 R_Panel (.slice a993 s.Panels.length c994) s.Panels := ⟨a993, c994, rfl, hh995⟩
    obtain ⟨y998, hy998, hF⟩ := bind_some hF
    obtain ⟨l1003, hl1003, hF⟩ := bind_some hF
    obtain ⟨l1012, hl1012, hF⟩ := bind_some hF
    refine JC.mixed 14 15 #[false, false, false, false, false, false, false, false, false, false, false, false, false, false, false] [(b3, .cells [.int .i64 s.Width, .int .i64 s.Length, v96, v115, vout_982].toArray 25), (b2, .cells [.int .i64 0, .int .i64 0, .slice none 0 0, .slice none 0 0, .slice none 0 0].toArray 25), (b1, .cells [.int .i64 s.Width, .int .i64 s.Length, (.slice a987 s.Faults.length c988), (.slice a990 s.Flaws.length c991), (.slice a993 s.Panels.length c994)].toArray 25)] (by rfl) mo_ (by kernel_rfl) (by kernel_rfl) ?_
    intro hQ hE
    refine JA.take 0 (listed' := #[true, false, false, false, false, false, false, false, false, false, false, false, false, false, false]) hQ rfl (by kernel_rfl) (by kernel_rfl) (by kernel_rfl) (by kernel_rfl) (by kernel_rfl) hE (HSub.refl _) (.cons_cons _ (.cons_cons _ (.cons_cons _ (List.nil_sublist _)))) ?_
    refine JL.fieldAddr fo_25_4 rfl .none rfl ?_
    refine JA.cont ?_
    refine JA.take 1 (listed' := #[true, true, false, false, false, false, false, false, false, false, false, false, false, false, false]) hQ rfl (by kernel_rfl) (by kernel_rfl) (by kernel_rfl) (by kernel_rfl) (by kernel_rfl) hE (HSub.refl _) (.cons_cons _ (.cons_cons _ (.cons_cons _ (List.nil_sublist _)))) ?_
    refine JL.loadOwn 0 az_23 rfl rfl rfl .none rfl ?_
    refine JA.cont ?_
    refine JA.take 3 (listed' := #[true, true, false, true, false, false, false, false, false, false, false, false, false, false, false]) hQ rfl (by kernel_rfl) (by kernel_rfl) (by kernel_rfl) (by kernel_rfl) (by kernel_rfl) hE (HSub.refl _) (.cons_cons _ (.cons_cons _ (.cons_cons _ (List.nil_sublist _)))) ?_
    refine JL.fieldAddr fo_25_4 rfl .none rfl ?_
    refine JA.cont ?_
    refine JA.take 4 (listed' := #[true, true, false, true, true, false, false, false, false, false, false, false, false, false, false]) hQ rfl (by kernel_rfl) (by kernel_rfl) (by kernel_rfl) (by kernel_rfl) (by kernel_rfl) hE (HSub.refl _) (.cons_cons _ (.cons_cons _ (.cons_cons _ (List.nil_sublist _)))) ?_
    refine JL.loadOwn 2 az_23 rfl rfl rfl .none rfl ?_
    refine JA.cont ?_
    refine JA.take 5 (listed' := #[true, true, false, true, true, true, false, false, false, false, false, false, false, false, false]) hQ rfl (by kernel_rfl) (by kernel_rfl) (by kernel_rfl) (by kernel_rfl) (by kernel_rfl) hE (HSub.refl _) (.cons_cons _ (.cons_cons _ (.cons_cons _ (List.nil_sublist _)))) ?_
    refine JL.move .none rfl ?_
    refine JA.cont ?_
    refine JA.take 6 (listed' := #[true, true, false, true, true, true, true, false, false, false, false, false, false, false, false]) hQ rfl (by kernel_rfl) (by kernel_rfl) (by kernel_rfl) (by kernel_rfl) (by kernel_rfl) hE (HSub.refl _) (.cons_cons _ (.cons_cons _ (.cons_cons _ (List.nil_sublist _)))) ?_
    refine JL.indexSL (R := R_Panel) sl_23 (SL.mono R_Panel_mono (HSub.trans hs113 hs983) hs_4) rfl hy998 .none rfl ?_
    rintro b1105 o1106 cs1107 hc1108 - ⟨y998_v0, rfl, hy998_0⟩
    refine JA.cont ?_
    refine JA.take 7 (listed' := #[true, true, false, true, true, true, true, true, false, false, false, false, false, false, false]) hQ rfl (by kernel_rfl) (by kernel_rfl) (by kernel_rfl) (by kernel_rfl) (by kernel_rfl) hE (HSub.refl _) (.cons_cons _ (.cons_cons _ (.cons_cons _ (List.nil_sublist _)))) ?_
    refine JL.fieldAddr fo_30_0 rfl .none rfl ?_
    refine JA.cont ?_
    refine JA.take 8 (listed' := #[true, true, false, true, true, true, true, true, true, false, false, false, false, false, false]) hQ rfl (by kernel_rfl) (by kernel_rfl) (by kernel_rfl) (by kernel_rfl) (by kernel_rfl) hE (HSub.refl _) (.cons_cons _ (.cons_cons _ (.cons_cons _ (List.nil_sublist _)))) ?_
    refine JL.loadH 0 az_28 rfl hc1108 rfl .none rfl ?_
    refine JA.cont ?_
    refine JA.many [2] (by kernel_rfl) (by simp) (all_one ⟨_, #[true, true, true, true, true, true, true, true, true, false, false, false, false, false, false], rfl, (by kernel_rfl), ?_⟩)
    refine JL.emptySlice ap_28 .none rfl ?_
    intro v1109
    refine JA.after hE (HSub.refl _) (.cons_cons _ (.cons_cons _ (.cons_cons _ (List.nil_sublist _)))) ?_
    refine JA.many [9] (by kernel_rfl) (by simp) (all_one ⟨_, #[true, true, true, true, true, true, true, true, true, true, false, false, false, false, false], rfl, (by kernel_rfl), ?_⟩)
    refine JL.appD (R := R_Span) 0 (l := ([] : List Span)) (m := y998.Rows) ap_28 rfl ⟨rfl, rfl⟩ rfl CH.nil rfl hy998_0 (R_Span_one _) hl1003 .none rfl ?_
    intro v1111 xs1112 hch1113
    refine JA.after hE (HSub.refl _) (.cons_cons _ (.cons_cons _ (.cons_cons _ (List.nil_sublist _)))) ?_
    refine JA.many [10] (by kernel_rfl) (by simp) (all_one ⟨_, #[true, true, true, true, true, true, true, true, true, true, true, false, false, false, false], rfl, (by kernel_rfl), ?_⟩)
    refine JL.formG 0 rfl (fun a1114 n1115 c1116 hh1117 => ?_)
    dsimp only at hh1117
    subst hh1117
    refine JL.build (l := [(.slice a1114 n1115 c1116)]) (by kernel_rfl) .none rfl ?_
    refine JA.after hE (HSub.refl _) (.cons_cons _ (.cons_cons _ (.cons_cons _ (List.nil_sublist _)))) ?_
    refine JA.many [11] (by kernel_rfl) (by simp) (all_one ⟨_, #[true, true, true, true, true, true, true, true, true, true, true, true, false, false, false], rfl, (by kernel_rfl), ?_⟩)
    refine JL.buildSlice (e := 30) (l := [(.slice a1114 n1115 c1116)]) (by kernel_rfl) .none rfl ?_
    intro b1118
    refine JA.after hE (HSub.refl _) (.cons _ (.cons_cons _ (.cons_cons _ (.cons_cons _ (List.nil_sublist _))))) ?_
    refine JA.many [12] (by kernel_rfl) (by simp) (all_one ⟨_, #[true, true, true, true, true, true, true, true, true, true, true, true, true, false, false], rfl, (by kernel_rfl), ?_⟩)
    refine JL.freezeG 0 (R := R_Span) rfl R_Span_mono hch1113 rfl ?_
    intro H1119 hs1119 hg1120
    refine JL.appO (R := R_Panel) 0 0 (l := out_982) (m := [(Panel.mk l1003)]) ap_23 rfl ⟨rfl, rfl⟩ rfl (CH.mono R_Panel_mono hs1119 hout_982) rfl rfl rfl (CH.cons (cs := [(.slice a1114 n1115 c1116)]) rfl ⟨(.slice a1114 n1115 c1116), rfl, hg1120⟩ CH.nil) rfl (one_cons (SL.one hg1120) one_nil) hl1012 .none rfl ?_
    intro v1121 xs1122 hch1123
    refine JA.after hE hs1119 (.cons _ (.cons_cons _ (.cons_cons _ (.cons_cons _ (List.nil_sublist _))))) ?_
    refine JA.take 13 (listed' := #[true, true, true, true, true, true, true, true, true, true, true, true, true, true, false]) hQ rfl (by kernel_rfl) (by kernel_rfl) (by kernel_rfl) (by kernel_rfl) (by kernel_rfl) hE hs1119 (.cons _ (.cons_cons _ (.cons_cons _ (.cons_cons _ (List.nil_sublist _))))) ?_
    refine JL.fieldAddr fo_25_4 rfl .none rfl ?_
    refine JA.cont ?_
    refine JA.many [14] (by kernel_rfl) (by simp) (all_one ⟨_, #[true, true, true, true, true, true, true, true, true, true, true, true, true, true, true], rfl, (by kernel_rfl), ?_⟩)
    refine JL.oneG 0 rfl (fun ho1124 => ?_)
    refine JL.storeOwn 1 (cs := [v1121]) az_23 rfl ho1124.2 rfl (one_cons ho1124.1 one_nil) rfl rfl .none ?_
    refine JA.sink (by kernel_rfl) ?_
    refine JA.done hQ (by kernel_rfl) ?_
    refine JQ.normal_block (JQ.go (JC.fresh (fun f => f 1 = .pointer (some ⟨b1, 0, none⟩) ∧ f 2 = .pointer (some ⟨b2, 0, none⟩) ∧ f 3 = .pointer (some ⟨b3, 0, none⟩) ∧ f 4 = .int .i64 i_981) ⟨rfl, rfl, rfl, rfl⟩ ?_))
    rintro f ⟨hf1, hf2, hf3, hf4⟩
    refine (JC.norm (i := 1) hf1 (JC.norm (i := 2) hf2 (JC.norm (i := 3) hf3 (JC.norm (i := 4) hf4 ?_))))
    refine JC.region (by rfl) ?_
    intro hQ
    refine JL.move .none rfl ?_
    refine JL.bin rfl rfl rfl .none rfl ?_
    refine JL.assign .none rfl ?_
    refine JL.done hQ ?_
    obtain rfl := Option.some.inj hF
    refine JQ.mask [false, true, true, true] [true, true, true] ?_
    exact JQ.next rfl ⟨v1121, xs1122, rfl, rfl, rfl, rfl, rfl, rfl, hch1123, (HSub.trans hs983 hs1119)⟩
   ·refine JC.cond_f (b := decide (i_981 < (s.Panels.length : Int))) rfl hc986 ?_
    refine JC.exit (JQ.exit_then (JQ.exit_then (JQ.exit_block ?_)))
    obtain rfl := Option.some.inj hF
    have ehr984 := hr984 _ rfl
    subst ehr984
    refine JQ.mask [true, true, false] [true, true, true] ?_
    exact JQ.join out_982 ⟨vout_982, xsout_982, rfl, rfl, rfl, rfl, hout_982, hs983, rfl⟩
  ·rintro out_694 H695 f bs gs ⟨vout_694, xsout_694, hf2, hf3, rfl, rfl, hout_694, hs695, rfl⟩
   have hF := hKr696
   try dsimp only at hF
   refine (JQ.norm (i := 2) hf2 (JQ.norm (i := 3) hf3 ?_))
   refine JQ.go (JC.seq (JC.region (by rfl) ?_))
   intro hQ
   refine JL.loadOwn 0 az_25 rfl rfl rfl .none rfl ?_
   refine JL.oneG 2 rfl (fun ho1125 => ?_)
   refine JL.oneG 1 rfl (fun ho1126 => ?_)
   refine JL.oneG 0 rfl (fun ho1127 => ?_)
   refine JL.storeOwn 1 (cs := [.int .i64 s.Width, .int .i64 s.Length, v96, v115, vout_694]) az_25 rfl rfl rfl (one_cons rfl (one_cons rfl (one_cons ho1125.1 (one_cons ho1126.1 (one_cons ho1127.1 one_nil))))) rfl rfl .none ?_
   refine JL.done hQ (JQ.go (JC.ret ?_))
   obtain rfl := Option.some.inj hF
   exact JQ.outX rfl (.cell 1 az_25 rfl rfl rfl .nil) ⟨v96, xs97, v115, xs116, vout_694, xsout_694, rfl, rfl, (CH.mono R_Cell_mono hs695 hm114), (CH.mono R_Cell_mono hs695 hch117), hout_694⟩
 intro nd112_0
 refine JA.cut 6 #[true, true, true, false, true, true, true, false, false, false, false, false] (fun H1128 f bs gs => ∃ (v99 : Value) (v92 : Value), f 1 = .pointer (some ⟨b1, 0, none⟩) ∧ f 2 = .pointer (some ⟨b2, 0, none⟩) ∧ f 3 = .pointer (some ⟨b3, 0, none⟩) ∧ f 6 = v92 ∧ f 8 = s_v2 ∧ f 10 = v99 ∧ f 12 = s_v3 ∧ bs = [(b3, .cells [.int .i64 s.Width, .int .i64 s.Length, s_v2, s_v3, s_v4].toArray 25), (b2, .cells [.int .i64 0, .int .i64 0, .slice none 0 0, .slice none 0 0, .slice none 0 0].toArray 25), (b1, .cells [.int .i64 s.Width, .int .i64 s.Length, s_v2, s_v3, s_v4].toArray 25)] ∧ gs = [⟨v99, 27, 2, 0, []⟩, ⟨v92, 27, 2, 0, []⟩] ∧ HSub H H1128) ?_ ?_
 ·rintro H1128 f bs gs ⟨v99, v92, hf1, hf2, hf3, hf6, hf8, hf10, hf12, rfl, rfl, hs1128⟩
  refine (JA.norm (i := 1) hf1 (JA.norm (i := 2) hf2 (JA.norm (i := 3) hf3 (JA.norm (i := 6) hf6 (JA.norm (i := 8) hf8 (JA.norm (i := 10) hf10 (JA.norm (i := 12) hf12 ?_)))))))
  refine JA.many [3] (by kernel_rfl) (by simp) (all_one ⟨_, #[true, true, true, true, true, true, true, false, false, false, false, false], rfl, (by kernel_rfl), ?_⟩)
  refine JL.appD (R := R_Cell) 1 (l := ([] : List Cell)) (m := s.Faults) ap_22 rfl ⟨rfl, rfl⟩ rfl CH.nil rfl (SL.mono R_Cell_mono hs1128 hs_2) (R_Cell_one _) hl6 .none rfl ?_
  intro v1129 xs1130 hch1131
  refine JA.after hE hs1128 (.cons _ (.cons_cons _ (.cons_cons _ (List.nil_sublist _)))) ?_
  refine JA.take 8 (listed' := #[true, true, true, true, true, true, true, false, true, false, false, false]) hQ rfl (by kernel_rfl) (by kernel_rfl) (by kernel_rfl) (by kernel_rfl) (by kernel_rfl) hE hs1128 (.cons _ (.cons_cons _ (.cons_cons _ (List.nil_sublist _)))) ?_
  refine JL.fieldAddr fo_25_2 rfl .none rfl ?_
  refine JA.cont ?_
  exact nd112_0 _ _ _ _ ⟨v99, v1129, xs1130, rfl, rfl, rfl, rfl, rfl, rfl, rfl, rfl, rfl, hch1131, hs1128⟩
 intro nd112_1
 refine JA.take 1 (listed' := #[false, true, false, false, false, false, false, false, false, false, false, false]) hQ rfl (by kernel_rfl) (by kernel_rfl) (by kernel_rfl) (by kernel_rfl) (by kernel_rfl) hE (HSub.refl _) (.cons _ (.cons_cons _ (.cons_cons _ (List.nil_sublist _)))) ?_
 refine JL.fieldAddr fo_25_2 rfl .none rfl ?_
 refine JA.cont ?_
 refine JA.take 2 (listed' := #[false, true, true, false, false, false, false, false, false, false, false, false]) hQ rfl (by kernel_rfl) (by kernel_rfl) (by kernel_rfl) (by kernel_rfl) (by kernel_rfl) hE (HSub.refl _) (.cons _ (.cons_cons _ (.cons_cons _ (List.nil_sublist _)))) ?_
 refine JL.loadOwn 1 az_22 rfl rfl rfl .none rfl ?_
 refine JA.cont ?_
 refine JA.take 5 (listed' := #[false, true, true, false, false, true, false, false, false, false, false, false]) hQ rfl (by kernel_rfl) (by kernel_rfl) (by kernel_rfl) (by kernel_rfl) (by kernel_rfl) hE (HSub.refl _) (.cons _ (.cons_cons _ (.cons_cons _ (List.nil_sublist _)))) ?_
 refine JL.fieldAddr fo_25_3 rfl .none rfl ?_
 refine JA.cont ?_
 refine JA.take 6 (listed' := #[false, true, true, false, false, true, true, false, false, false, false, false]) hQ rfl (by kernel_rfl) (by kernel_rfl) (by kernel_rfl) (by kernel_rfl) (by kernel_rfl) hE (HSub.refl _) (.cons _ (.cons_cons _ (.cons_cons _ (List.nil_sublist _)))) ?_
 refine JL.loadOwn 1 az_22 rfl rfl rfl .none rfl ?_
 refine JA.cont ?_
 refine JA.many [0, 4] (by kernel_rfl) (by simp) (all_cons ⟨_, #[true, true, true, false, false, true, true, false, false, false, false, false], rfl, (by kernel_rfl), ?_⟩ (all_one ⟨_, #[false, true, true, false, true, true, true, false, false, false, false, false], rfl, (by kernel_rfl), ?_⟩))
 ·skip
  refine JL.emptySlice ap_22 .none rfl ?_
  intro v1132
  refine JA.after hE (HSub.refl _) (.cons _ (.cons_cons _ (.cons_cons _ (List.nil_sublist _)))) ?_
  refine JA.many [3, 4] (by kernel_rfl) (by simp) (all_cons ⟨_, #[true, true, true, true, false, true, true, false, false, false, false, false], rfl, (by kernel_rfl), ?_⟩ (all_one ⟨_, #[true, true, true, false, true, true, true, false, false, false, false, false], rfl, (by kernel_rfl), ?_⟩))
  ·skip
   refine JL.appD (R := R_Cell) 0 (l := ([] : List Cell)) (m := s.Faults) ap_22 rfl ⟨rfl, rfl⟩ rfl CH.nil rfl hs_2 (R_Cell_one _) hl6 .none rfl ?_
   intro v1134 xs1135 hch1136
   refine JA.after hE (HSub.refl _) (.cons _ (.cons_cons _ (.cons_cons _ (List.nil_sublist _)))) ?_
   refine JA.take 8 (listed' := #[true, true, true, true, false, true, true, false, true, false, false, false]) hQ rfl (by kernel_rfl) (by kernel_rfl) (by kernel_rfl) (by kernel_rfl) (by kernel_rfl) hE (HSub.refl _) (.cons _ (.cons_cons _ (.cons_cons _ (List.nil_sublist _)))) ?_
   refine JL.fieldAddr fo_25_2 rfl .none rfl ?_
   refine JA.cont ?_
   refine JA.many [4] (by kernel_rfl) (by simp) (all_one ⟨_, #[true, true, true, true, true, true, true, false, true, false, false, false], rfl, (by kernel_rfl), ?_⟩)
   refine JL.emptySlice ap_22 .none rfl ?_
   intro v1137
   refine JA.after hE (HSub.refl _) (.cons _ (.cons_cons _ (.cons_cons _ (List.nil_sublist _)))) ?_
   exact nd112_0 _ _ _ _ ⟨v1137, v1134, xs1135, rfl, rfl, rfl, rfl, rfl, rfl, rfl, rfl, rfl, hch1136, (HSub.refl _)⟩
  ·skip
   refine JL.emptySlice ap_22 .none rfl ?_
   intro v1139
   refine JA.after hE (HSub.refl _) (.cons _ (.cons_cons _ (.cons_cons _ (List.nil_sublist _)))) ?_
   exact nd112_1 _ _ _ _ ⟨v1139, v1132, rfl, rfl, rfl, rfl, rfl, rfl, rfl, rfl, rfl, (HSub.refl _)⟩
 ·skip
  refine JL.emptySlice ap_22 .none rfl ?_
  intro v1141
  refine JA.after hE (HSub.refl _) (.cons _ (.cons_cons _ (.cons_cons _ (List.nil_sublist _)))) ?_
  refine JA.many [0] (by kernel_rfl) (by simp) (all_one ⟨_, #[true, true, true, false, true, true, true, false, false, false, false, false], rfl, (by kernel_rfl), ?_⟩)
  refine JL.emptySlice ap_22 .none rfl ?_
  intro v1143
  refine JA.after hE (HSub.refl _) (.cons _ (.cons_cons _ (.cons_cons _ (List.nil_sublist _)))) ?_
  refine JA.permG (swapAt_perm 0 _) ?_
  exact nd112_1 _ _ _ _ ⟨v1141, v1143, rfl, rfl, rfl, rfl, rfl, rfl, rfl, rfl, rfl, (HSub.refl _)⟩
theorem y_ref03_Copy (n : Nat) (H : Hp) (s : Lap) (s_v2 : Value) (hs_2 : SL H 2 R_Cell s_v2 s.Faults) (s_v3 : Value) (hs_3 : SL H 2 R_Cell s_v3 s.Flaws) (s_v4 : Value) (hs_4 : SL H 1 R_Panel s_v4 s.Panels) (y : Lap) (hF : F_ref03_Copy n s = some y) : XC Try.prog 12 [.agg [.int .i64 s.Width, .int .i64 s.Length, s_v2, s_v3, s_v4].toArray] H (fun H' v gs' => ∃ (y_v0 : Value) (y_v1 : Value) (y_v2 : Value) (gl : List GS), v = .agg [.int .i64 y.Width, .int .i64 y.Length, y_v0, y_v1, y_v2].toArray ∧ gs' = ⟨y_v2, 30, 1, y.Panels.length, rxV gl⟩ :: gl ∧ SL H' 2 R_Cell y_v0 y.Faults ∧ SL H' 2 R_Cell y_v1 y.Flaws ∧ Rx H' 2 46 R_Span gl (y.Panels.map Panel.Rows)) := by
 rw [F_ref03_Copy] at hF
 refine XC.of (N := 39) Try.func12 rfl rfl rfl fun w => ?_
 refine JC.seq (JC.region (by rfl) ?_)
 intro hQ
 refine JL.box (cs := [.int .i64 s.Width, .int .i64 s.Length, s_v2, s_v3, s_v4]) rfl .none rfl ?_
 intro b1
 refine JL.alloc ze_25 .none rfl ?_
 intro b2
 refine JL.done hQ (JQ.go (JC.seq (JC.region (by rfl) ?_)))
 intro hQ
 refine JL.loadOwn 1 az_25 rfl rfl rfl .none rfl ?_
 refine JL.alloc ze_25 .none rfl ?_
 intro b3
 refine JL.storeOwn 0 (cs := [.int .i64 s.Width, .int .i64 s.Length, s_v2, s_v3, s_v4]) az_25 rfl rfl rfl (one_cons rfl (one_cons rfl (one_cons (SL.one hs_2) (one_cons (SL.one hs_3) (one_cons (SL.one hs_4) one_nil))))) rfl rfl .none ?_
 refine JL.done hQ (JQ.go (JC.seq ?_))
 obtain ⟨l6, hl6, hF⟩ := bind_some hF
 obtain ⟨l12, hl12, hF⟩ := bind_some hF
 refine JC.mixed 12 12 #[false, false, false, false, false, false, false, false, false, false, false, false] [(b2, .cells [.int .i64 0, .int .i64 0, .slice none 0 0, .slice none 0 0, .slice none 0 0].toArray 25), (b1, .cells [.int .i64 s.Width, .int .i64 s.Length, s_v2, s_v3, s_v4].toArray 25)] (by rfl) mo_ (by kernel_rfl) (by kernel_rfl) ?_
 intro hQ hE
 refine JA.cut 4 #[true, true, true, true, true, true, true, false, true, false, false, false] (fun H113 f bs gs => ∃ (v103 : Value) (v96 : Value) (xs97 : List Value), f 1 = .pointer (some ⟨b1, 0, none⟩) ∧ f 2 = .pointer (some ⟨b2, 0, none⟩) ∧ f 3 = .pointer (some ⟨b3, 0, none⟩) ∧ f 9 = v96 ∧ f 10 = v103 ∧ f 12 = s_v3 ∧ f 14 = .pointer (some ⟨b3, 2, none⟩) ∧ bs = [(b3, .cells [.int .i64 s.Width, .int .i64 s.Length, s_v2, s_v3, s_v4].toArray 25), (b2, .cells [.int .i64 0, .int .i64 0, .slice none 0 0, .slice none 0 0, .slice none 0 0].toArray 25), (b1, .cells [.int .i64 s.Width, .int .i64 s.Length, s_v2, s_v3, s_v4].toArray 25)] ∧ gs = [⟨v103, 27, 2, 0, []⟩, ⟨v96, 27, 2, l6.length, xs97⟩] ∧ CH H113 2 R_Cell xs97 l6 ∧ HSub H H113) ?_ ?_
 ·rintro H113 f bs gs ⟨v103, v96, xs97, hf1, hf2, hf3, hf9, hf10, hf12, hf14, rfl, rfl, hm114, hs113⟩
  refine (JA.norm (i := 1) hf1 (JA.norm (i := 2) hf2 (JA.norm (i := 3) hf3 (JA.norm (i := 9) hf9 (JA.norm (i := 10) hf10 (JA.norm (i := 12) hf12 (JA.norm (i := 14) hf14 ?_)))))))
  refine JA.many [7] (by kernel_rfl) (by simp) (all_one ⟨_, #[true, true, true, true, true, true, true, true, true, false, false, false], rfl, (by kernel_rfl), ?_⟩)
  refine JL.appD (R := R_Cell) 0 (l := ([] : List Cell)) (m := s.Flaws) ap_22 rfl ⟨rfl, rfl⟩ rfl CH.nil rfl (SL.mono R_Cell_mono hs113 hs_3) (R_Cell_one _) hl12 .none rfl ?_
  intro v115 xs116 hch117
  refine JA.after hE hs113 (.cons _ (.cons_cons _ (.cons_cons _ (List.nil_sublist _)))) ?_
  refine JA.many [9] (by kernel_rfl) (by simp) (all_one ⟨_, #[true, true, true, true, true, true, true, true, true, true, false, false], rfl, (by kernel_rfl), ?_⟩)
  refine JL.oneG 1 rfl (fun ho118 => ?_)
  refine JL.storeOwn 0 (cs := [v96]) az_22 rfl ho118.2 rfl (one_cons ho118.1 one_nil) rfl rfl .none ?_
  refine JA.after hE hs113 (.cons _ (.cons_cons _ (.cons_cons _ (List.nil_sublist _)))) ?_
  refine JA.take 10 (listed' := #[true, true, true, true, true, true, true, true, true, true, true, false]) hQ rfl (by kernel_rfl) (by kernel_rfl) (by kernel_rfl) (by kernel_rfl) (by kernel_rfl) hE hs113 (.cons _ (.cons_cons _ (.cons_cons _ (List.nil_sublist _)))) ?_
  refine JL.fieldAddr fo_25_3 rfl .none rfl ?_
  refine JA.cont ?_
  refine JA.many [11] (by kernel_rfl) (by simp) (all_one ⟨_, #[true, true, true, true, true, true, true, true, true, true, true, true], rfl, (by kernel_rfl), ?_⟩)
  refine JL.oneG 0 rfl (fun ho119 => ?_)
  refine JL.storeOwn 0 (cs := [v115]) az_22 rfl ho119.2 rfl (one_cons ho119.1 one_nil) rfl rfl .none ?_
  refine JA.after hE hs113 (.cons _ (.cons_cons _ (.cons_cons _ (List.nil_sublist _)))) ?_
  refine JA.done hQ (by kernel_rfl) ?_
  refine JQ.go (JC.freezeG 0 (R := R_Cell) rfl R_Cell_mono hch117 rfl ?_)
  intro Hz1 hz1 hflz
  refine JC.freezeG 0 (R := R_Cell) rfl R_Cell_mono (CH.mono R_Cell_mono hz1 hm114) rfl ?_
  intro Hz2 hz2 hfaz
  have hflz := SL.mono R_Cell_mono hz2 hflz
  have hs113 := HSub.trans hs113 (HSub.trans hz1 hz2)
  refine JC.seq (JC.region (by rfl) ?_)
  intro hQ
  refine JL.fieldAddr fo_25_4 rfl .none rfl ?_
  refine JL.storeOwn 0 (cs := [.slice none 0 0]) az_23 rfl rfl rfl (one_cons rfl one_nil) rfl rfl .none ?_
  refine JL.done hQ (JQ.go (JC.seq (JC.seq (JC.region (by rfl) ?_))))
  intro hQ
  refine JL.assign .none rfl ?_
  refine JL.done hQ (JQ.go (JC.newNil (e := 30) (sz := 1) ?_))
  obtain ⟨r696, hlr696, hKr696⟩ := bind_some hF
  refine JC.join (fun (out_694 : List Panel) H695 f bs gs => ∃ (vout_694 : Value) (gl : List GS), f 2 = .pointer (some ⟨b2, 0, none⟩) ∧ f 3 = .pointer (some ⟨b3, 0, none⟩) ∧ bs = [(b3, .cells [.int .i64 s.Width, .int .i64 s.Length, v96, v115, vout_694].toArray 25), (b2, .cells [.int .i64 0, .int .i64 0, .slice none 0 0, .slice none 0 0, .slice none 0 0].toArray 25)] ∧ gs = ⟨vout_694, 30, 1, out_694.length, rxV gl⟩ :: gl ∧ Rx H695 2 46 R_Span gl (out_694.map Panel.Rows) ∧ HSub Hz2 H695 ∧ out_694 = r696) ?_ ?_
  ·skip
   refine JC.block (JC.loop hlr696 (fun (x : Int × List Panel) H983 f bs gs => match x with | (i_981, out_982) => ∃ (vout_982 : Value) (gl : List GS), f 1 = .pointer (some ⟨b1, 0, none⟩) ∧ f 2 = .pointer (some ⟨b2, 0, none⟩) ∧ f 3 = .pointer (some ⟨b3, 0, none⟩) ∧ f 4 = .int .i64 i_981 ∧ bs = [(b3, .cells [.int .i64 s.Width, .int .i64 s.Length, v96, v115, vout_982].toArray 25), (b2, .cells [.int .i64 0, .int .i64 0, .slice none 0 0, .slice none 0 0, .slice none 0 0].toArray 25), (b1, .cells [.int .i64 s.Width, .int .i64 s.Length, s_v2, s_v3, s_v4].toArray 25)] ∧ gs = ⟨vout_982, 30, 1, out_982.length, rxV gl⟩ :: gl ∧ Rx H983 2 46 R_Span gl (out_982.map Panel.Rows) ∧ HSub Hz2 H983) ⟨(.slice none 0 0), [], rfl, rfl, rfl, rfl, rfl, rfl, Rx.nil, (HSub.refl _)⟩ ?_)
   rintro ⟨i_981, out_982⟩ x985 H983 f bs gs ⟨vout_982, gl, hf1, hf2, hf3, hf4, rfl, rfl, hout_982, hs983⟩ hF hr984
   rw [F_ref03_Copy_s1] at hF
   refine (JC.norm (i := 1) hf1 (JC.norm (i := 2) hf2 (JC.norm (i := 3) hf3 (JC.norm (i := 4) hf4 ?_))))
   refine JC.seq (JC.seq (JC.region (by rfl) ?_))
   intro hQ
   refine JL.move .none rfl ?_
   refine JL.fieldAddr fo_25_4 rfl .none rfl ?_
   refine JL.loadOwn 2 az_23 rfl rfl rfl .none rfl ?_
   refine JL.lenSL (R := R_Panel) ul_23 (SL.mono R_Panel_mono (HSub.trans hs113 hs983) hs_4) .none rfl ?_
   refine JL.bin rfl rfl rfl .none rfl ?_
   refine JL.done hQ (JQ.go ?_)
   rcases ite_some hF with ⟨hc986, hF⟩ | ⟨hc986, hF⟩
   ·refine JC.cond_t (b := decide (i_981 < (s.Panels.length : Int))) rfl hc986 ?_
    refine JC.skip (JQ.go (JC.seq (JC.block ?_)))
    obtain ⟨a987, c988, rfl, hh989⟩ := hs_2
    have hs_2 : SL H 2 R_Cell (.slice a987 s.Faults.length c988) s.Faults := ⟨a987, c988, rfl, hh989⟩
    obtain ⟨a990, c991, rfl, hh992⟩ := hs_3
    have hs_3 : SL H 2 R_Cell (.slice a990 s.Flaws.length c991) s.Flaws := ⟨a990, c991, rfl, hh992⟩
    obtain ⟨a993, c994, rfl, hh995⟩ := hs_4
    have hs_4 : SL H 1 R_Panel (.slice a993 s.Panels.length c994) s.Panels := ⟨a993, c994, rfl, hh995⟩
    obtain ⟨y998, hy998, hF⟩ := bind_some hF
    obtain ⟨l1003, hl1003, hF⟩ := bind_some hF
    obtain ⟨l1012, hl1012, hF⟩ := bind_some hF
    refine JC.mixed 14 15 #[false, false, false, false, false, false, false, false, false, false, false, false, false, false, false] [(b3, .cells [.int .i64 s.Width, .int .i64 s.Length, v96, v115, vout_982].toArray 25), (b2, .cells [.int .i64 0, .int .i64 0, .slice none 0 0, .slice none 0 0, .slice none 0 0].toArray 25), (b1, .cells [.int .i64 s.Width, .int .i64 s.Length, (.slice a987 s.Faults.length c988), (.slice a990 s.Flaws.length c991), (.slice a993 s.Panels.length c994)].toArray 25)] (by rfl) mo_ (by kernel_rfl) (by kernel_rfl) ?_
    intro hQ hE
    refine JA.take 0 (listed' := #[true, false, false, false, false, false, false, false, false, false, false, false, false, false, false]) hQ rfl (by kernel_rfl) (by kernel_rfl) (by kernel_rfl) (by kernel_rfl) (by kernel_rfl) hE (HSub.refl _) (.cons_cons _ (.cons_cons _ (.cons_cons _ (List.nil_sublist _)))) ?_
    refine JL.fieldAddr fo_25_4 rfl .none rfl ?_
    refine JA.cont ?_
    refine JA.take 1 (listed' := #[true, true, false, false, false, false, false, false, false, false, false, false, false, false, false]) hQ rfl (by kernel_rfl) (by kernel_rfl) (by kernel_rfl) (by kernel_rfl) (by kernel_rfl) hE (HSub.refl _) (.cons_cons _ (.cons_cons _ (.cons_cons _ (List.nil_sublist _)))) ?_
    refine JL.loadOwn 0 az_23 rfl rfl rfl .none rfl ?_
    refine JA.cont ?_
    refine JA.take 3 (listed' := #[true, true, false, true, false, false, false, false, false, false, false, false, false, false, false]) hQ rfl (by kernel_rfl) (by kernel_rfl) (by kernel_rfl) (by kernel_rfl) (by kernel_rfl) hE (HSub.refl _) (.cons_cons _ (.cons_cons _ (.cons_cons _ (List.nil_sublist _)))) ?_
    refine JL.fieldAddr fo_25_4 rfl .none rfl ?_
    refine JA.cont ?_
    refine JA.take 4 (listed' := #[true, true, false, true, true, false, false, false, false, false, false, false, false, false, false]) hQ rfl (by kernel_rfl) (by kernel_rfl) (by kernel_rfl) (by kernel_rfl) (by kernel_rfl) hE (HSub.refl _) (.cons_cons _ (.cons_cons _ (.cons_cons _ (List.nil_sublist _)))) ?_
    refine JL.loadOwn 2 az_23 rfl rfl rfl .none rfl ?_
    refine JA.cont ?_
    refine JA.take 5 (listed' := #[true, true, false, true, true, true, false, false, false, false, false, false, false, false, false]) hQ rfl (by kernel_rfl) (by kernel_rfl) (by kernel_rfl) (by kernel_rfl) (by kernel_rfl) hE (HSub.refl _) (.cons_cons _ (.cons_cons _ (.cons_cons _ (List.nil_sublist _)))) ?_
    refine JL.move .none rfl ?_
    refine JA.cont ?_
    refine JA.take 6 (listed' := #[true, true, false, true, true, true, true, false, false, false, false, false, false, false, false]) hQ rfl (by kernel_rfl) (by kernel_rfl) (by kernel_rfl) (by kernel_rfl) (by kernel_rfl) hE (HSub.refl _) (.cons_cons _ (.cons_cons _ (.cons_cons _ (List.nil_sublist _)))) ?_
    refine JL.indexSL (R := R_Panel) sl_23 (SL.mono R_Panel_mono (HSub.trans hs113 hs983) hs_4) rfl hy998 .none rfl ?_
    rintro b1105 o1106 cs1107 hc1108 - ⟨y998_v0, rfl, hy998_0⟩
    refine JA.cont ?_
    refine JA.take 7 (listed' := #[true, true, false, true, true, true, true, true, false, false, false, false, false, false, false]) hQ rfl (by kernel_rfl) (by kernel_rfl) (by kernel_rfl) (by kernel_rfl) (by kernel_rfl) hE (HSub.refl _) (.cons_cons _ (.cons_cons _ (.cons_cons _ (List.nil_sublist _)))) ?_
    refine JL.fieldAddr fo_30_0 rfl .none rfl ?_
    refine JA.cont ?_
    refine JA.take 8 (listed' := #[true, true, false, true, true, true, true, true, true, false, false, false, false, false, false]) hQ rfl (by kernel_rfl) (by kernel_rfl) (by kernel_rfl) (by kernel_rfl) (by kernel_rfl) hE (HSub.refl _) (.cons_cons _ (.cons_cons _ (.cons_cons _ (List.nil_sublist _)))) ?_
    refine JL.loadH 0 az_28 rfl hc1108 rfl .none rfl ?_
    refine JA.cont ?_
    refine JA.many [2] (by kernel_rfl) (by simp) (all_one ⟨_, #[true, true, true, true, true, true, true, true, true, false, false, false, false, false, false], rfl, (by kernel_rfl), ?_⟩)
    refine JL.emptySlice ap_28 .none rfl ?_
    intro v1109
    refine JA.after hE (HSub.refl _) (.cons_cons _ (.cons_cons _ (.cons_cons _ (List.nil_sublist _)))) ?_
    refine JA.many [9] (by kernel_rfl) (by simp) (all_one ⟨_, #[true, true, true, true, true, true, true, true, true, true, false, false, false, false, false], rfl, (by kernel_rfl), ?_⟩)
    refine JL.appD (R := R_Span) 0 (l := ([] : List Span)) (m := y998.Rows) ap_28 rfl ⟨rfl, rfl⟩ rfl CH.nil rfl hy998_0 (R_Span_one _) hl1003 .none rfl ?_
    intro v1111 xs1112 hch1113
    refine JA.after hE (HSub.refl _) (.cons_cons _ (.cons_cons _ (.cons_cons _ (List.nil_sublist _)))) ?_
    refine JA.many [10] (by kernel_rfl) (by simp) (all_one ⟨_, #[true, true, true, true, true, true, true, true, true, true, true, false, false, false, false], rfl, (by kernel_rfl), ?_⟩)
    refine JL.formG 0 rfl (fun a1114 n1115 c1116 hh1117 => ?_)
    dsimp only at hh1117
    subst hh1117
    refine JL.build (l := [(.slice a1114 n1115 c1116)]) (by kernel_rfl) .none rfl ?_
    refine JA.after hE (HSub.refl _) (.cons_cons _ (.cons_cons _ (.cons_cons _ (List.nil_sublist _)))) ?_
    refine JA.many [11] (by kernel_rfl) (by simp) (all_one ⟨_, #[true, true, true, true, true, true, true, true, true, true, true, true, false, false, false], rfl, (by kernel_rfl), ?_⟩)
    refine JL.buildSlice (e := 30) (l := [(.slice a1114 n1115 c1116)]) (by kernel_rfl) .none rfl ?_
    intro b1118
    refine JA.after hE (HSub.refl _) (.cons _ (.cons_cons _ (.cons_cons _ (.cons_cons _ (List.nil_sublist _))))) ?_
    refine JA.many [12] (by kernel_rfl) (by simp) (all_one ⟨_, #[true, true, true, true, true, true, true, true, true, true, true, true, true, false, false], rfl, (by kernel_rfl), ?_⟩)
    refine JL.appO (R := RRaw) 1 0 (l := rxV gl) (m := [(.slice a1114 n1115 c1116)]) ap_23 rfl ⟨rfl, rfl⟩ rfl (CH.raw _) (by simpa using hout_982.lenV) rfl rfl (CH.raw _) rfl (one_cons rfl one_nil) (rx_lim (by simpa using hout_982.len) hl1012) .none rfl ?_
    intro v1121 xs1122 hch1123
    obtain rfl := CH.raw_eq hch1123
    have hs1119 : HSub H983 H983 := HSub.refl _
    refine JA.after hE hs1119 (.cons _ (.cons_cons _ (.cons_cons _ (.cons_cons _ (List.nil_sublist _))))) ?_
    refine JA.take 13 (listed' := #[true, true, true, true, true, true, true, true, true, true, true, true, true, true, false]) hQ rfl (by kernel_rfl) (by kernel_rfl) (by kernel_rfl) (by kernel_rfl) (by kernel_rfl) hE hs1119 (.cons _ (.cons_cons _ (.cons_cons _ (.cons_cons _ (List.nil_sublist _))))) ?_
    refine JL.fieldAddr fo_25_4 rfl .none rfl ?_
    refine JA.cont ?_
    refine JA.many [14] (by kernel_rfl) (by simp) (all_one ⟨_, #[true, true, true, true, true, true, true, true, true, true, true, true, true, true, true], rfl, (by kernel_rfl), ?_⟩)
    refine JL.oneG 1 rfl (fun ho1124 => ?_)
    refine JL.storeOwn 1 (cs := [v1121]) az_23 rfl ho1124.2 rfl (one_cons ho1124.1 one_nil) rfl rfl .none ?_
    refine JA.sink (by kernel_rfl) ?_
    refine JA.done hQ (by kernel_rfl) ?_
    refine JQ.normal_block (JQ.go (JC.fresh (fun f => f 1 = .pointer (some ⟨b1, 0, none⟩) ∧ f 2 = .pointer (some ⟨b2, 0, none⟩) ∧ f 3 = .pointer (some ⟨b3, 0, none⟩) ∧ f 4 = .int .i64 i_981) ⟨rfl, rfl, rfl, rfl⟩ ?_))
    rintro f ⟨hf1, hf2, hf3, hf4⟩
    refine (JC.norm (i := 1) hf1 (JC.norm (i := 2) hf2 (JC.norm (i := 3) hf3 (JC.norm (i := 4) hf4 ?_))))
    refine JC.region (by rfl) ?_
    intro hQ
    refine JL.move .none rfl ?_
    refine JL.bin rfl rfl rfl .none rfl ?_
    refine JL.assign .none rfl ?_
    refine JL.done hQ ?_
    obtain rfl := Option.some.inj hF
    refine JQ.mask [false, true, true, true] [] ?_
    refine JQ.permG (rx_grow (g := (GS.mk (.slice a1114 n1115 c1116) 46 2 l1003.length xs1112)) (k := l1012.length) rfl (by have := (show gl.length = out_982.length by simpa using hout_982.len); have h2 := (lim_some hl1012).1; subst h2; simp [rxV, this])) ?_
    exact JQ.next rfl ⟨v1121, gl ++ [(GS.mk (.slice a1114 n1115 c1116) 46 2 l1003.length xs1112)], rfl, rfl, rfl, rfl, rfl, rfl, (by have h2 := (lim_some hl1012).1; subst h2; rw [List.map_append]; exact Rx.snoc hout_982 rfl rfl rfl hch1113), (HSub.trans hs983 hs1119)⟩
   ·refine JC.cond_f (b := decide (i_981 < (s.Panels.length : Int))) rfl hc986 ?_
    refine JC.exit (JQ.exit_then (JQ.exit_then (JQ.exit_block ?_)))
    obtain rfl := Option.some.inj hF
    have ehr984 := hr984 _ rfl
    subst ehr984
    refine JQ.mask [true, true, false] [] ?_
    exact JQ.join out_982 ⟨vout_982, gl, rfl, rfl, rfl, rfl, hout_982, hs983, rfl⟩
  ·rintro out_694 H695 f bs gs ⟨vout_694, gl, hf2, hf3, rfl, rfl, hout_694, hs695, rfl⟩
   have hF := hKr696
   try dsimp only at hF
   refine (JQ.norm (i := 2) hf2 (JQ.norm (i := 3) hf3 ?_))
   refine JQ.go (JC.seq (JC.region (by rfl) ?_))
   intro hQ
   refine JL.loadOwn 0 az_25 rfl rfl rfl .none rfl ?_
   refine JL.oneG 0 rfl (fun ho1127 => ?_)
   refine JL.storeOwn 1 (cs := [.int .i64 s.Width, .int .i64 s.Length, v96, v115, vout_694]) az_25 rfl rfl rfl (one_cons rfl (one_cons rfl (one_cons (SL.one (SL.mono R_Cell_mono hs695 hfaz)) (one_cons (SL.one (SL.mono R_Cell_mono hs695 hflz)) (one_cons ho1127.1 one_nil))))) rfl rfl .none ?_
   refine JL.done hQ (JQ.go (JC.ret ?_))
   obtain rfl := Option.some.inj hF
   exact JQ.outX rfl (.cell 1 az_25 rfl rfl rfl .nil) ⟨v96, v115, vout_694, gl, rfl, rfl, (SL.mono R_Cell_mono hs695 hfaz), (SL.mono R_Cell_mono hs695 hflz), hout_694⟩
 intro nd112_0
 refine JA.cut 6 #[true, true, true, false, true, true, true, false, false, false, false, false] (fun H1128 f bs gs => ∃ (v99 : Value) (v92 : Value), f 1 = .pointer (some ⟨b1, 0, none⟩) ∧ f 2 = .pointer (some ⟨b2, 0, none⟩) ∧ f 3 = .pointer (some ⟨b3, 0, none⟩) ∧ f 6 = v92 ∧ f 8 = s_v2 ∧ f 10 = v99 ∧ f 12 = s_v3 ∧ bs = [(b3, .cells [.int .i64 s.Width, .int .i64 s.Length, s_v2, s_v3, s_v4].toArray 25), (b2, .cells [.int .i64 0, .int .i64 0, .slice none 0 0, .slice none 0 0, .slice none 0 0].toArray 25), (b1, .cells [.int .i64 s.Width, .int .i64 s.Length, s_v2, s_v3, s_v4].toArray 25)] ∧ gs = [⟨v99, 27, 2, 0, []⟩, ⟨v92, 27, 2, 0, []⟩] ∧ HSub H H1128) ?_ ?_
 ·rintro H1128 f bs gs ⟨v99, v92, hf1, hf2, hf3, hf6, hf8, hf10, hf12, rfl, rfl, hs1128⟩
  refine (JA.norm (i := 1) hf1 (JA.norm (i := 2) hf2 (JA.norm (i := 3) hf3 (JA.norm (i := 6) hf6 (JA.norm (i := 8) hf8 (JA.norm (i := 10) hf10 (JA.norm (i := 12) hf12 ?_)))))))
  refine JA.many [3] (by kernel_rfl) (by simp) (all_one ⟨_, #[true, true, true, true, true, true, true, false, false, false, false, false], rfl, (by kernel_rfl), ?_⟩)
  refine JL.appD (R := R_Cell) 1 (l := ([] : List Cell)) (m := s.Faults) ap_22 rfl ⟨rfl, rfl⟩ rfl CH.nil rfl (SL.mono R_Cell_mono hs1128 hs_2) (R_Cell_one _) hl6 .none rfl ?_
  intro v1129 xs1130 hch1131
  refine JA.after hE hs1128 (.cons _ (.cons_cons _ (.cons_cons _ (List.nil_sublist _)))) ?_
  refine JA.take 8 (listed' := #[true, true, true, true, true, true, true, false, true, false, false, false]) hQ rfl (by kernel_rfl) (by kernel_rfl) (by kernel_rfl) (by kernel_rfl) (by kernel_rfl) hE hs1128 (.cons _ (.cons_cons _ (.cons_cons _ (List.nil_sublist _)))) ?_
  refine JL.fieldAddr fo_25_2 rfl .none rfl ?_
  refine JA.cont ?_
  exact nd112_0 _ _ _ _ ⟨v99, v1129, xs1130, rfl, rfl, rfl, rfl, rfl, rfl, rfl, rfl, rfl, hch1131, hs1128⟩
 intro nd112_1
 refine JA.take 1 (listed' := #[false, true, false, false, false, false, false, false, false, false, false, false]) hQ rfl (by kernel_rfl) (by kernel_rfl) (by kernel_rfl) (by kernel_rfl) (by kernel_rfl) hE (HSub.refl _) (.cons _ (.cons_cons _ (.cons_cons _ (List.nil_sublist _)))) ?_
 refine JL.fieldAddr fo_25_2 rfl .none rfl ?_
 refine JA.cont ?_
 refine JA.take 2 (listed' := #[false, true, true, false, false, false, false, false, false, false, false, false]) hQ rfl (by kernel_rfl) (by kernel_rfl) (by kernel_rfl) (by kernel_rfl) (by kernel_rfl) hE (HSub.refl _) (.cons _ (.cons_cons _ (.cons_cons _ (List.nil_sublist _)))) ?_
 refine JL.loadOwn 1 az_22 rfl rfl rfl .none rfl ?_
 refine JA.cont ?_
 refine JA.take 5 (listed' := #[false, true, true, false, false, true, false, false, false, false, false, false]) hQ rfl (by kernel_rfl) (by kernel_rfl) (by kernel_rfl) (by kernel_rfl) (by kernel_rfl) hE (HSub.refl _) (.cons _ (.cons_cons _ (.cons_cons _ (List.nil_sublist _)))) ?_
 refine JL.fieldAddr fo_25_3 rfl .none rfl ?_
 refine JA.cont ?_
 refine JA.take 6 (listed' := #[false, true, true, false, false, true, true, false, false, false, false, false]) hQ rfl (by kernel_rfl) (by kernel_rfl) (by kernel_rfl) (by kernel_rfl) (by kernel_rfl) hE (HSub.refl _) (.cons _ (.cons_cons _ (.cons_cons _ (List.nil_sublist _)))) ?_
 refine JL.loadOwn 1 az_22 rfl rfl rfl .none rfl ?_
 refine JA.cont ?_
 refine JA.many [0, 4] (by kernel_rfl) (by simp) (all_cons ⟨_, #[true, true, true, false, false, true, true, false, false, false, false, false], rfl, (by kernel_rfl), ?_⟩ (all_one ⟨_, #[false, true, true, false, true, true, true, false, false, false, false, false], rfl, (by kernel_rfl), ?_⟩))
 ·skip
  refine JL.emptySlice ap_22 .none rfl ?_
  intro v1132
  refine JA.after hE (HSub.refl _) (.cons _ (.cons_cons _ (.cons_cons _ (List.nil_sublist _)))) ?_
  refine JA.many [3, 4] (by kernel_rfl) (by simp) (all_cons ⟨_, #[true, true, true, true, false, true, true, false, false, false, false, false], rfl, (by kernel_rfl), ?_⟩ (all_one ⟨_, #[true, true, true, false, true, true, true, false, false, false, false, false], rfl, (by kernel_rfl), ?_⟩))
  ·skip
   refine JL.appD (R := R_Cell) 0 (l := ([] : List Cell)) (m := s.Faults) ap_22 rfl ⟨rfl, rfl⟩ rfl CH.nil rfl hs_2 (R_Cell_one _) hl6 .none rfl ?_
   intro v1134 xs1135 hch1136
   refine JA.after hE (HSub.refl _) (.cons _ (.cons_cons _ (.cons_cons _ (List.nil_sublist _)))) ?_
   refine JA.take 8 (listed' := #[true, true, true, true, false, true, true, false, true, false, false, false]) hQ rfl (by kernel_rfl) (by kernel_rfl) (by kernel_rfl) (by kernel_rfl) (by kernel_rfl) hE (HSub.refl _) (.cons _ (.cons_cons _ (.cons_cons _ (List.nil_sublist _)))) ?_
   refine JL.fieldAddr fo_25_2 rfl .none rfl ?_
   refine JA.cont ?_
   refine JA.many [4] (by kernel_rfl) (by simp) (all_one ⟨_, #[true, true, true, true, true, true, true, false, true, false, false, false], rfl, (by kernel_rfl), ?_⟩)
   refine JL.emptySlice ap_22 .none rfl ?_
   intro v1137
   refine JA.after hE (HSub.refl _) (.cons _ (.cons_cons _ (.cons_cons _ (List.nil_sublist _)))) ?_
   exact nd112_0 _ _ _ _ ⟨v1137, v1134, xs1135, rfl, rfl, rfl, rfl, rfl, rfl, rfl, rfl, rfl, hch1136, (HSub.refl _)⟩
  ·skip
   refine JL.emptySlice ap_22 .none rfl ?_
   intro v1139
   refine JA.after hE (HSub.refl _) (.cons _ (.cons_cons _ (.cons_cons _ (List.nil_sublist _)))) ?_
   exact nd112_1 _ _ _ _ ⟨v1139, v1132, rfl, rfl, rfl, rfl, rfl, rfl, rfl, rfl, rfl, (HSub.refl _)⟩
 ·skip
  refine JL.emptySlice ap_22 .none rfl ?_
  intro v1141
  refine JA.after hE (HSub.refl _) (.cons _ (.cons_cons _ (.cons_cons _ (List.nil_sublist _)))) ?_
  refine JA.many [0] (by kernel_rfl) (by simp) (all_one ⟨_, #[true, true, true, false, true, true, true, false, false, false, false, false], rfl, (by kernel_rfl), ?_⟩)
  refine JL.emptySlice ap_22 .none rfl ?_
  intro v1143
  refine JA.after hE (HSub.refl _) (.cons _ (.cons_cons _ (.cons_cons _ (List.nil_sublist _)))) ?_
  refine JA.permG (swapAt_perm 0 _) ?_
  exact nd112_1 _ _ _ _ ⟨v1141, v1143, rfl, rfl, rfl, rfl, rfl, rfl, rfl, rfl, rfl, (HSub.refl _)⟩
end Go.Proofs.Ytflhjlgimihmgaa
end
section
set_option maxRecDepth 100000
set_option maxHeartbeats 40000000
namespace Go.Proofs.Ytflhjlgimihmgaa
open Go Go.RowKit Go.Dec
set_option linter.unusedVariables false
-- 15 ferrule/ferrulelaw03.mirrored
def F_law03_mirrored_s1 (n : Nat) (l : List Cell) (width : Int) : Int × List Cell → Option ((Int × List Cell) ⊕ (List Cell))
 | (i_422, out_423) => if decide (i_422 < (l.length : Int)) = true then ((geti l i_422).bind fun y438 => (geti l i_422).bind fun y443 => (lim (out_423 ++ [(Cell.mk y438.Row (w64 ((w64 (width - 1)) - y443.Col)))])).bind fun l449 => some (Sum.inl ((w64 (i_422 + 1)), l449))) else (some (Sum.inr out_423))
def F_law03_mirrored (n : Nat) (l : List Cell) (width : Int) : Option (List Cell) :=
 (loopO n (F_law03_mirrored_s1 n l width) (0, ([] : List Cell))).bind fun out_281 => some out_281
theorem c_law03_mirrored (n : Nat) (H : Hp) (l : List Cell) (l_v0 : Value) (hl_0 : SL H 2 R_Cell l_v0 l) (width : Int) (y : (List Cell)) (hF : F_law03_mirrored n l width = some y) : HC Try.prog 15 [l_v0, .int .i64 width] H (fun H' ra_v0 => SL H' 2 R_Cell ra_v0 y) := by
 rw [F_law03_mirrored] at hF
 refine HC.of (N := 31) Try.func15 rfl rfl rfl fun w => ?_
 refine JC.seq (JC.region (by rfl) ?_)
 intro hQ
 refine JL.assign .none rfl ?_
 refine JL.done hQ (JQ.go (JC.seq (JC.region (by rfl) ?_)))
 intro hQ
 refine JL.assign .none rfl ?_
 refine JL.done hQ (JQ.go (JC.seq (JC.seq (JC.region (by rfl) ?_))))
 intro hQ
 refine JL.assign .none rfl ?_
 refine JL.done hQ (JQ.go (JC.newNil (e := 27) (sz := 2) ?_))
 obtain ⟨r283, hlr283, hKr283⟩ := bind_some hF
 refine JC.join (fun (out_281 : List Cell) H282 f bs gs => ∃ (vout_281 : Value) (xsout_281 : List Value), f 5 = vout_281 ∧ bs = [] ∧ gs = [⟨vout_281, 27, 2, out_281.length, xsout_281⟩] ∧ CH H282 2 R_Cell xsout_281 out_281 ∧ HSub H H282 ∧ out_281 = r283) ?_ ?_
 ·skip
  refine JC.block (JC.loop hlr283 (fun (x : Int × List Cell) H424 f bs gs => match x with | (i_422, out_423) => ∃ (vout_423 : Value) (xsout_423 : List Value), f 0 = l_v0 ∧ f 1 = .int .i64 width ∧ f 5 = vout_423 ∧ f 6 = .int .i64 i_422 ∧ bs = [] ∧ gs = [⟨vout_423, 27, 2, out_423.length, xsout_423⟩] ∧ CH H424 2 R_Cell xsout_423 out_423 ∧ HSub H H424) ⟨(.slice none 0 0), [], rfl, rfl, rfl, rfl, rfl, rfl, CH.nil, (HSub.refl _)⟩ ?_)
  rintro ⟨i_422, out_423⟩ x426 H424 f bs gs ⟨vout_423, xsout_423, hf0, hf1, hf5, hf6, rfl, rfl, hout_423, hs424⟩ hF hr425
  rw [F_law03_mirrored_s1] at hF
  refine (JC.norm (i := 0) hf0 (JC.norm (i := 1) hf1 (JC.norm (i := 5) hf5 (JC.norm (i := 6) hf6 ?_))))
  refine JC.seq (JC.seq (JC.region (by rfl) ?_))
  intro hQ
  refine JL.move .none rfl ?_
  refine JL.move .none rfl ?_
  refine JL.lenSL (R := R_Cell) ul_22 (SL.mono R_Cell_mono hs424 hl_0) .none rfl ?_
  refine JL.bin rfl rfl rfl .none rfl ?_
  refine JL.done hQ (JQ.go ?_)
  rcases ite_some hF with ⟨hc427, hF⟩ | ⟨hc427, hF⟩
  ·refine JC.cond_t (b := decide (i_422 < (l.length : Int))) rfl hc427 ?_
   refine JC.skip (JQ.go (JC.seq (JC.block ?_)))
   obtain ⟨y438, hy438, hF⟩ := bind_some hF
   obtain ⟨y443, hy443, hF⟩ := bind_some hF
   obtain ⟨l449, hl449, hF⟩ := bind_some hF
   refine JC.mixed 18 18 #[false, false, false, false, false, false, false, false, false, false, false, false, false, false, false, false, false, false] [] (by rfl) mo_ (by kernel_rfl) (by kernel_rfl) ?_
   intro hQ hE
   refine JA.take 0 (listed' := #[true, false, false, false, false, false, false, false, false, false, false, false, false, false, false, false, false, false]) hQ rfl (by kernel_rfl) (by kernel_rfl) (by kernel_rfl) (by kernel_rfl) (by kernel_rfl) hE (HSub.refl _) (List.nil_sublist _) ?_
   refine JL.move .none rfl ?_
   refine JA.cont ?_
   refine JA.take 1 (listed' := #[true, true, false, false, false, false, false, false, false, false, false, false, false, false, false, false, false, false]) hQ rfl (by kernel_rfl) (by kernel_rfl) (by kernel_rfl) (by kernel_rfl) (by kernel_rfl) hE (HSub.refl _) (List.nil_sublist _) ?_
   refine JL.move .none rfl ?_
   refine JA.cont ?_
   refine JA.take 2 (listed' := #[true, true, true, false, false, false, false, false, false, false, false, false, false, false, false, false, false, false]) hQ rfl (by kernel_rfl) (by kernel_rfl) (by kernel_rfl) (by kernel_rfl) (by kernel_rfl) hE (HSub.refl _) (List.nil_sublist _) ?_
   refine JL.move .none rfl ?_
   refine JA.cont ?_
   refine JA.take 3 (listed' := #[true, true, true, true, false, false, false, false, false, false, false, false, false, false, false, false, false, false]) hQ rfl (by kernel_rfl) (by kernel_rfl) (by kernel_rfl) (by kernel_rfl) (by kernel_rfl) hE (HSub.refl _) (List.nil_sublist _) ?_
   refine JL.indexSL (R := R_Cell) sl_22 (SL.mono R_Cell_mono hs424 hl_0) rfl hy438 .none rfl ?_
   rintro b477 o478 cs479 hc480 - rfl
   refine JA.cont ?_
   refine JA.take 4 (listed' := #[true, true, true, true, true, false, false, false, false, false, false, false, false, false, false, false, false, false]) hQ rfl (by kernel_rfl) (by kernel_rfl) (by kernel_rfl) (by kernel_rfl) (by kernel_rfl) hE (HSub.refl _) (List.nil_sublist _) ?_
   refine JL.fieldAddr fo_27_0 rfl .none rfl ?_
   refine JA.cont ?_
   refine JA.take 5 (listed' := #[true, true, true, true, true, true, false, false, false, false, false, false, false, false, false, false, false, false]) hQ rfl (by kernel_rfl) (by kernel_rfl) (by kernel_rfl) (by kernel_rfl) (by kernel_rfl) hE (HSub.refl _) (List.nil_sublist _) ?_
   refine JL.loadH 0 az_3 rfl hc480 rfl .none rfl ?_
   refine JA.cont ?_
   refine JA.take 6 (listed' := #[true, true, true, true, true, true, true, false, false, false, false, false, false, false, false, false, false, false]) hQ rfl (by kernel_rfl) (by kernel_rfl) (by kernel_rfl) (by kernel_rfl) (by kernel_rfl) hE (HSub.refl _) (List.nil_sublist _) ?_
   refine JL.move .none rfl ?_
   refine JA.cont ?_
   refine JA.take 7 (listed' := #[true, true, true, true, true, true, true, true, false, false, false, false, false, false, false, false, false, false]) hQ rfl (by kernel_rfl) (by kernel_rfl) (by kernel_rfl) (by kernel_rfl) (by kernel_rfl) hE (HSub.refl _) (List.nil_sublist _) ?_
   refine JL.bin rfl rfl rfl .none rfl ?_
   refine JA.cont ?_
   refine JA.take 8 (listed' := #[true, true, true, true, true, true, true, true, true, false, false, false, false, false, false, false, false, false]) hQ rfl (by kernel_rfl) (by kernel_rfl) (by kernel_rfl) (by kernel_rfl) (by kernel_rfl) hE (HSub.refl _) (List.nil_sublist _) ?_
   refine JL.move .none rfl ?_
   refine JA.cont ?_
   refine JA.take 9 (listed' := #[true, true, true, true, true, true, true, true, true, true, false, false, false, false, false, false, false, false]) hQ rfl (by kernel_rfl) (by kernel_rfl) (by kernel_rfl) (by kernel_rfl) (by kernel_rfl) hE (HSub.refl _) (List.nil_sublist _) ?_
   refine JL.move .none rfl ?_
   refine JA.cont ?_
   refine JA.take 10 (listed' := #[true, true, true, true, true, true, true, true, true, true, true, false, false, false, false, false, false, false]) hQ rfl (by kernel_rfl) (by kernel_rfl) (by kernel_rfl) (by kernel_rfl) (by kernel_rfl) hE (HSub.refl _) (List.nil_sublist _) ?_
   refine JL.indexSL (R := R_Cell) sl_22 (SL.mono R_Cell_mono hs424 hl_0) rfl hy443 .none rfl ?_
   rintro b485 o486 cs487 hc488 - rfl
   refine JA.cont ?_
   refine JA.take 11 (listed' := #[true, true, true, true, true, true, true, true, true, true, true, true, false, false, false, false, false, false]) hQ rfl (by kernel_rfl) (by kernel_rfl) (by kernel_rfl) (by kernel_rfl) (by kernel_rfl) hE (HSub.refl _) (List.nil_sublist _) ?_
   refine JL.fieldAddr fo_27_1 rfl .none rfl ?_
   refine JA.cont ?_
   refine JA.take 12 (listed' := #[true, true, true, true, true, true, true, true, true, true, true, true, true, false, false, false, false, false]) hQ rfl (by kernel_rfl) (by kernel_rfl) (by kernel_rfl) (by kernel_rfl) (by kernel_rfl) hE (HSub.refl _) (List.nil_sublist _) ?_
   refine JL.loadH 1 az_3 rfl hc488 rfl .none rfl ?_
   refine JA.cont ?_
   refine JA.take 13 (listed' := #[true, true, true, true, true, true, true, true, true, true, true, true, true, true, false, false, false, false]) hQ rfl (by kernel_rfl) (by kernel_rfl) (by kernel_rfl) (by kernel_rfl) (by kernel_rfl) hE (HSub.refl _) (List.nil_sublist _) ?_
   refine JL.bin rfl rfl rfl .none rfl ?_
   refine JA.cont ?_
   refine JA.take 14 (listed' := #[true, true, true, true, true, true, true, true, true, true, true, true, true, true, true, false, false, false]) hQ rfl (by kernel_rfl) (by kernel_rfl) (by kernel_rfl) (by kernel_rfl) (by kernel_rfl) hE (HSub.refl _) (List.nil_sublist _) ?_
   refine JL.build (l := [.int .i64 y438.Row, .int .i64 (w64 ((w64 (width - 1)) - y443.Col))]) (by kernel_rfl) .none rfl ?_
   refine JA.cont ?_
   refine JA.many [15] (by kernel_rfl) (by simp) (all_one ⟨_, #[true, true, true, true, true, true, true, true, true, true, true, true, true, true, true, true, false, false], rfl, (by kernel_rfl), ?_⟩)
   refine JL.buildSlice (e := 27) (l := [.int .i64 y438.Row, .int .i64 (w64 ((w64 (width - 1)) - y443.Col))]) (by kernel_rfl) .none rfl ?_
   intro b489
   refine JA.after hE (HSub.refl _) (List.nil_sublist _) ?_
   refine JA.many [16] (by kernel_rfl) (by simp) (all_one ⟨_, #[true, true, true, true, true, true, true, true, true, true, true, true, true, true, true, true, true, false], rfl, (by kernel_rfl), ?_⟩)
   refine JL.appO (R := R_Cell) 0 0 (l := out_423) (m := [(Cell.mk y438.Row (w64 ((w64 (width - 1)) - y443.Col)))]) ap_22 rfl ⟨rfl, rfl⟩ rfl hout_423 rfl rfl rfl (CH.cons (cs := [.int .i64 y438.Row, .int .i64 (w64 ((w64 (width - 1)) - y443.Col))]) rfl rfl CH.nil) rfl (one_cons rfl (one_cons rfl one_nil)) hl449 .none rfl ?_
   intro v490 xs491 hch492
   refine JA.after hE (HSub.refl _) (List.nil_sublist _) ?_
   refine JA.take 17 (listed' := #[true, true, true, true, true, true, true, true, true, true, true, true, true, true, true, true, true, true]) hQ rfl (by kernel_rfl) (by kernel_rfl) (by kernel_rfl) (by kernel_rfl) (by kernel_rfl) hE (HSub.refl _) (List.nil_sublist _) ?_
   refine JL.assign .none rfl ?_
   refine JA.cont ?_
   refine JA.done hQ (by kernel_rfl) ?_
   refine JQ.normal_block (JQ.go (JC.fresh (fun f => f 0 = l_v0 ∧ f 1 = .int .i64 width ∧ f 5 = v490 ∧ f 6 = .int .i64 i_422) ⟨rfl, rfl, rfl, rfl⟩ ?_))
   rintro f ⟨hf0, hf1, hf5, hf6⟩
   refine (JC.norm (i := 0) hf0 (JC.norm (i := 1) hf1 (JC.norm (i := 5) hf5 (JC.norm (i := 6) hf6 ?_))))
   refine JC.region (by rfl) ?_
   intro hQ
   refine JL.move .none rfl ?_
   refine JL.bin rfl rfl rfl .none rfl ?_
   refine JL.assign .none rfl ?_
   refine JL.done hQ ?_
   obtain rfl := Option.some.inj hF
   refine JQ.mask [false] [true] ?_
   exact JQ.next rfl ⟨v490, xs491, rfl, rfl, rfl, rfl, rfl, rfl, hch492, hs424⟩
  ·refine JC.cond_f (b := decide (i_422 < (l.length : Int))) rfl hc427 ?_
   refine JC.exit (JQ.exit_then (JQ.exit_then (JQ.exit_block ?_)))
   obtain rfl := Option.some.inj hF
   have ehr425 := hr425 _ rfl
   subst ehr425
   exact JQ.join out_423 ⟨vout_423, xsout_423, rfl, rfl, rfl, hout_423, hs424, rfl⟩
 ·rintro out_281 H282 f bs gs ⟨vout_281, xsout_281, hf5, rfl, rfl, hout_281, hs282, rfl⟩
  have hF := hKr283
  try dsimp only at hF
  refine (JQ.norm (i := 5) hf5 ?_)
  refine JQ.go (JC.seq (JC.region (by rfl) ?_))
  intro hQ
  refine JL.move .none rfl ?_
  refine JL.assign .none rfl ?_
  refine JL.done hQ (JQ.go (JC.ret (JQ.freezeG 0 (R := R_Cell) rfl R_Cell_mono hout_281 rfl ?_)))
  intro H493 hs493 hg494
  obtain rfl := Option.some.inj hF
  exact JQ.outH rfl (.tmp .nil) hg494
-- 16 ferrule/ferruleref03.TurnedRows
def F_ref03_TurnedRows_s1 (n : Nat) (p : Panel) : Int × Int → Option ((Int × Int) ⊕ Int)
 | (w_52, i_53) => if decide (i_53 < (p.Rows.length : Int)) = true then ((geti p.Rows i_53).bind fun y58 => some (Sum.inl ((max w_52 y58.High), (w64 (i_53 + 1))))) else (some (Sum.inr w_52))
def F_ref03_TurnedRows_s2 (n : Nat) (p : Panel) (w_31 : Int) : Int × List Span → Option ((Int × List Span) ⊕ (List Span))
 | (i_484, out_485) => if decide (0 ≤ i_484) = true then ((geti p.Rows i_484).bind fun y500 => (geti p.Rows i_484).bind fun y505 => (lim (out_485 ++ [(Span.mk (w64 (w_31 - y500.High)) (w64 (w_31 - y505.Low)))])).bind fun l511 => some (Sum.inl ((w64 (i_484 - 1)), l511))) else (some (Sum.inr out_485))
def F_ref03_TurnedRows (n : Nat) (p : Panel) : Option (List Span) :=
 (loopO n (F_ref03_TurnedRows_s1 n p) (0, 0)).bind fun w_31 => (loopO n (F_ref03_TurnedRows_s2 n p w_31) ((w64 ((p.Rows.length : Int) - 1)), ([] : List Span))).bind fun out_343 => some out_343
theorem c_ref03_TurnedRows (n : Nat) (H : Hp) (p : Panel) (p_v0 : Value) (hp_0 : SL H 2 R_Span p_v0 p.Rows) (y : (List Span)) (hF : F_ref03_TurnedRows n p = some y) : HC Try.prog 16 [.agg [p_v0].toArray] H (fun H' ra_v0 => SL H' 2 R_Span ra_v0 y) := by
 rw [F_ref03_TurnedRows] at hF
 refine HC.of (N := 51) Try.func16 rfl rfl rfl fun w => ?_
 refine JC.seq (JC.region (by rfl) ?_)
 intro hQ
 refine JL.box (cs := [p_v0]) rfl .none rfl ?_
 intro b1
 refine JL.assign .none rfl ?_
 refine JL.done hQ (JQ.go (JC.seq (JC.region (by rfl) ?_)))
 intro hQ
 refine JL.assign .none rfl ?_
 refine JL.done hQ (JQ.go (JC.seq (JC.seq (JC.region (by rfl) ?_))))
 intro hQ
 refine JL.assign .none rfl ?_
 refine JL.done hQ (JQ.go ?_)
 obtain ⟨r33, hlr33, hKr33⟩ := bind_some hF
 refine JC.join (fun (w_31 : Int) H32 f bs gs => f 1 = .pointer (some ⟨b1, 0, none⟩) ∧ f 3 = .int .i64 w_31 ∧ bs = [(b1, .cells [p_v0].toArray 30)] ∧ gs = [] ∧ HSub H H32 ∧ w_31 = r33) ?_ ?_
 ·skip
  refine JC.block (JC.loop hlr33 (fun (x : Int × Int) H54 f bs gs => match x with | (w_52, i_53) => f 1 = .pointer (some ⟨b1, 0, none⟩) ∧ f 3 = .int .i64 w_52 ∧ f 4 = .int .i64 i_53 ∧ bs = [(b1, .cells [p_v0].toArray 30)] ∧ gs = [] ∧ HSub H H54) ⟨rfl, rfl, rfl, rfl, rfl, (HSub.refl _)⟩ ?_)
  rintro ⟨w_52, i_53⟩ x56 H54 f bs gs ⟨hf1, hf3, hf4, rfl, rfl, hs54⟩ hF hr55
  rw [F_ref03_TurnedRows_s1] at hF
  refine (JC.norm (i := 1) hf1 (JC.norm (i := 3) hf3 (JC.norm (i := 4) hf4 ?_)))
  refine JC.seq (JC.seq (JC.region (by rfl) ?_))
  intro hQ
  refine JL.move .none rfl ?_
  refine JL.fieldAddr fo_30_0 rfl .none rfl ?_
  refine JL.loadOwn 0 az_28 rfl rfl rfl .none rfl ?_
  refine JL.lenSL (R := R_Span) ul_28 (SL.mono R_Span_mono hs54 hp_0) .none rfl ?_
  refine JL.bin rfl rfl rfl .none rfl ?_
  refine JL.done hQ (JQ.go ?_)
  rcases ite_some hF with ⟨hc57, hF⟩ | ⟨hc57, hF⟩
  ·refine JC.cond_t (b := decide (i_53 < (p.Rows.length : Int))) rfl hc57 ?_
   refine JC.skip (JQ.go (JC.seq (JC.block (JC.region (by rfl) ?_))))
   intro hQ
   refine JL.move .none rfl ?_
   refine JL.fieldAddr fo_30_0 rfl .none rfl ?_
   refine JL.loadOwn 0 az_28 rfl rfl rfl .none rfl ?_
   refine JL.move .none rfl ?_
   obtain ⟨y58, hy58, hF⟩ := bind_some hF
   refine JL.indexSL (R := R_Span) sl_28 (SL.mono R_Span_mono hs54 hp_0) rfl hy58 .none rfl ?_
   rintro b59 o60 cs61 hc62 - rfl
   refine JL.fieldAddr fo_46_1 rfl .none rfl ?_
   refine JL.loadH 1 az_3 rfl hc62 rfl .none rfl ?_
   refine JL.max rfl rfl .none rfl ?_
   refine JL.assign .none rfl ?_
   refine JL.done hQ (JQ.normal_block (JQ.go (JC.fresh (fun f => f 1 = .pointer (some ⟨b1, 0, none⟩) ∧ f 3 = .int .i64 (max w_52 y58.High) ∧ f 4 = .int .i64 i_53) ⟨rfl, rfl, rfl⟩ ?_)))
   rintro f ⟨hf1, hf3, hf4⟩
   refine (JC.norm (i := 1) hf1 (JC.norm (i := 3) hf3 (JC.norm (i := 4) hf4 ?_)))
   refine JC.region (by rfl) ?_
   intro hQ
   refine JL.move .none rfl ?_
   refine JL.bin rfl rfl rfl .none rfl ?_
   refine JL.assign .none rfl ?_
   refine JL.done hQ ?_
   obtain rfl := Option.some.inj hF
   exact JQ.next rfl ⟨rfl, rfl, rfl, rfl, rfl, hs54⟩
  ·refine JC.cond_f (b := decide (i_53 < (p.Rows.length : Int))) rfl hc57 ?_
   refine JC.exit (JQ.exit_then (JQ.exit_then (JQ.exit_block ?_)))
   obtain rfl := Option.some.inj hF
   have ehr55 := hr55 _ rfl
   subst ehr55
   exact JQ.join w_52 ⟨rfl, rfl, rfl, rfl, hs54, rfl⟩
 ·rintro w_31 H32 f bs gs ⟨hf1, hf3, rfl, rfl, hs32, rfl⟩
  have hF := hKr33
  try dsimp only at hF
  refine (JQ.norm (i := 1) hf1 (JQ.norm (i := 3) hf3 ?_))
  refine JQ.go (JC.seq (JC.region (by rfl) ?_))
  intro hQ
  refine JL.assign .none rfl ?_
  refine JL.done hQ (JQ.go (JC.seq (JC.seq (JC.region (by rfl) ?_))))
  intro hQ
  refine JL.fieldAddr fo_30_0 rfl .none rfl ?_
  refine JL.loadOwn 0 az_28 rfl rfl rfl .none rfl ?_
  refine JL.lenSL (R := R_Span) ul_28 (SL.mono R_Span_mono hs32 hp_0) .none rfl ?_
  refine JL.bin rfl rfl rfl .none rfl ?_
  refine JL.assign .none rfl ?_
  refine JL.done hQ (JQ.go (JC.newNil (e := 46) (sz := 2) ?_))
  obtain ⟨r345, hlr345, hKr345⟩ := bind_some hF
  refine JC.join (fun (out_343 : List Span) H344 f bs gs => ∃ (vout_343 : Value) (xsout_343 : List Value), f 5 = vout_343 ∧ bs = [] ∧ gs = [⟨vout_343, 46, 2, out_343.length, xsout_343⟩] ∧ CH H344 2 R_Span xsout_343 out_343 ∧ HSub H32 H344 ∧ out_343 = r345) ?_ ?_
  ·skip
   refine JC.block (JC.loop hlr345 (fun (x : Int × List Span) H486 f bs gs => match x with | (i_484, out_485) => ∃ (vout_485 : Value) (xsout_485 : List Value), f 1 = .pointer (some ⟨b1, 0, none⟩) ∧ f 3 = .int .i64 w_31 ∧ f 5 = vout_485 ∧ f 6 = .int .i64 i_484 ∧ bs = [(b1, .cells [p_v0].toArray 30)] ∧ gs = [⟨vout_485, 46, 2, out_485.length, xsout_485⟩] ∧ CH H486 2 R_Span xsout_485 out_485 ∧ HSub H32 H486) ⟨(.slice none 0 0), [], rfl, rfl, rfl, rfl, rfl, rfl, CH.nil, (HSub.refl _)⟩ ?_)
   rintro ⟨i_484, out_485⟩ x488 H486 f bs gs ⟨vout_485, xsout_485, hf1, hf3, hf5, hf6, rfl, rfl, hout_485, hs486⟩ hF hr487
   rw [F_ref03_TurnedRows_s2] at hF
   refine (JC.norm (i := 1) hf1 (JC.norm (i := 3) hf3 (JC.norm (i := 5) hf5 (JC.norm (i := 6) hf6 ?_))))
   refine JC.seq (JC.seq (JC.region (by rfl) ?_))
   intro hQ
   refine JL.move .none rfl ?_
   refine JL.bin rfl rfl rfl .none rfl ?_
   refine JL.done hQ (JQ.go ?_)
   rcases ite_some hF with ⟨hc489, hF⟩ | ⟨hc489, hF⟩
   ·refine JC.cond_t (b := decide (0 ≤ i_484)) rfl hc489 ?_
    refine JC.skip (JQ.go (JC.seq (JC.block ?_)))
    obtain ⟨y500, hy500, hF⟩ := bind_some hF
    obtain ⟨y505, hy505, hF⟩ := bind_some hF
    obtain ⟨l511, hl511, hF⟩ := bind_some hF
    refine JC.mixed 21 21 #[false, false, false, false, false, false, false, false, false, false, false, false, false, false, false, false, false, false, false, false, false] [(b1, .cells [p_v0].toArray 30)] (by rfl) mo_ (by kernel_rfl) (by kernel_rfl) ?_
    intro hQ hE
    refine JA.take 0 (listed' := #[true, false, false, false, false, false, false, false, false, false, false, false, false, false, false, false, false, false, false, false, false]) hQ rfl (by kernel_rfl) (by kernel_rfl) (by kernel_rfl) (by kernel_rfl) (by kernel_rfl) hE (HSub.refl _) (.cons_cons _ (List.nil_sublist _)) ?_
    refine JL.move .none rfl ?_
    refine JA.cont ?_
    refine JA.take 1 (listed' := #[true, true, false, false, false, false, false, false, false, false, false, false, false, false, false, false, false, false, false, false, false]) hQ rfl (by kernel_rfl) (by kernel_rfl) (by kernel_rfl) (by kernel_rfl) (by kernel_rfl) hE (HSub.refl _) (.cons_cons _ (List.nil_sublist _)) ?_
    refine JL.move .none rfl ?_
    refine JA.cont ?_
    refine JA.take 2 (listed' := #[true, true, true, false, false, false, false, false, false, false, false, false, false, false, false, false, false, false, false, false, false]) hQ rfl (by kernel_rfl) (by kernel_rfl) (by kernel_rfl) (by kernel_rfl) (by kernel_rfl) hE (HSub.refl _) (.cons_cons _ (List.nil_sublist _)) ?_
    refine JL.fieldAddr fo_30_0 rfl .none rfl ?_
    refine JA.cont ?_
    refine JA.take 3 (listed' := #[true, true, true, true, false, false, false, false, false, false, false, false, false, false, false, false, false, false, false, false, false]) hQ rfl (by kernel_rfl) (by kernel_rfl) (by kernel_rfl) (by kernel_rfl) (by kernel_rfl) hE (HSub.refl _) (.cons_cons _ (List.nil_sublist _)) ?_
    refine JL.loadOwn 0 az_28 rfl rfl rfl .none rfl ?_
    refine JA.cont ?_
    refine JA.take 4 (listed' := #[true, true, true, true, true, false, false, false, false, false, false, false, false, false, false, false, false, false, false, false, false]) hQ rfl (by kernel_rfl) (by kernel_rfl) (by kernel_rfl) (by kernel_rfl) (by kernel_rfl) hE (HSub.refl _) (.cons_cons _ (List.nil_sublist _)) ?_
    refine JL.move .none rfl ?_
    refine JA.cont ?_
    refine JA.take 5 (listed' := #[true, true, true, true, true, true, false, false, false, false, false, false, false, false, false, false, false, false, false, false, false]) hQ rfl (by kernel_rfl) (by kernel_rfl) (by kernel_rfl) (by kernel_rfl) (by kernel_rfl) hE (HSub.refl _) (.cons_cons _ (List.nil_sublist _)) ?_
    refine JL.indexSL (R := R_Span) sl_28 (SL.mono R_Span_mono (HSub.trans hs32 hs486) hp_0) rfl hy500 .none rfl ?_
    rintro b539 o540 cs541 hc542 - rfl
    refine JA.cont ?_
    refine JA.take 6 (listed' := #[true, true, true, true, true, true, true, false, false, false, false, false, false, false, false, false, false, false, false, false, false]) hQ rfl (by kernel_rfl) (by kernel_rfl) (by kernel_rfl) (by kernel_rfl) (by kernel_rfl) hE (HSub.refl _) (.cons_cons _ (List.nil_sublist _)) ?_
    refine JL.fieldAddr fo_46_1 rfl .none rfl ?_
    refine JA.cont ?_
    refine JA.take 7 (listed' := #[true, true, true, true, true, true, true, true, false, false, false, false, false, false, false, false, false, false, false, false, false]) hQ rfl (by kernel_rfl) (by kernel_rfl) (by kernel_rfl) (by kernel_rfl) (by kernel_rfl) hE (HSub.refl _) (.cons_cons _ (List.nil_sublist _)) ?_
    refine JL.loadH 1 az_3 rfl hc542 rfl .none rfl ?_
    refine JA.cont ?_
    refine JA.take 8 (listed' := #[true, true, true, true, true, true, true, true, true, false, false, false, false, false, false, false, false, false, false, false, false]) hQ rfl (by kernel_rfl) (by kernel_rfl) (by kernel_rfl) (by kernel_rfl) (by kernel_rfl) hE (HSub.refl _) (.cons_cons _ (List.nil_sublist _)) ?_
    refine JL.bin rfl rfl rfl .none rfl ?_
    refine JA.cont ?_
    refine JA.take 9 (listed' := #[true, true, true, true, true, true, true, true, true, true, false, false, false, false, false, false, false, false, false, false, false]) hQ rfl (by kernel_rfl) (by kernel_rfl) (by kernel_rfl) (by kernel_rfl) (by kernel_rfl) hE (HSub.refl _) (.cons_cons _ (List.nil_sublist _)) ?_
    refine JL.move .none rfl ?_
    refine JA.cont ?_
    refine JA.take 10 (listed' := #[true, true, true, true, true, true, true, true, true, true, true, false, false, false, false, false, false, false, false, false, false]) hQ rfl (by kernel_rfl) (by kernel_rfl) (by kernel_rfl) (by kernel_rfl) (by kernel_rfl) hE (HSub.refl _) (.cons_cons _ (List.nil_sublist _)) ?_
    refine JL.fieldAddr fo_30_0 rfl .none rfl ?_
    refine JA.cont ?_
    refine JA.take 11 (listed' := #[true, true, true, true, true, true, true, true, true, true, true, true, false, false, false, false, false, false, false, false, false]) hQ rfl (by kernel_rfl) (by kernel_rfl) (by kernel_rfl) (by kernel_rfl) (by kernel_rfl) hE (HSub.refl _) (.cons_cons _ (List.nil_sublist _)) ?_
    refine JL.loadOwn 0 az_28 rfl rfl rfl .none rfl ?_
    refine JA.cont ?_
    refine JA.take 12 (listed' := #[true, true, true, true, true, true, true, true, true, true, true, true, true, false, false, false, false, false, false, false, false]) hQ rfl (by kernel_rfl) (by kernel_rfl) (by kernel_rfl) (by kernel_rfl) (by kernel_rfl) hE (HSub.refl _) (.cons_cons _ (List.nil_sublist _)) ?_
    refine JL.move .none rfl ?_
    refine JA.cont ?_
    refine JA.take 13 (listed' := #[true, true, true, true, true, true, true, true, true, true, true, true, true, true, false, false, false, false, false, false, false]) hQ rfl (by kernel_rfl) (by kernel_rfl) (by kernel_rfl) (by kernel_rfl) (by kernel_rfl) hE (HSub.refl _) (.cons_cons _ (List.nil_sublist _)) ?_
    refine JL.indexSL (R := R_Span) sl_28 (SL.mono R_Span_mono (HSub.trans hs32 hs486) hp_0) rfl hy505 .none rfl ?_
    rintro b547 o548 cs549 hc550 - rfl
    refine JA.cont ?_
    refine JA.take 14 (listed' := #[true, true, true, true, true, true, true, true, true, true, true, true, true, true, true, false, false, false, false, false, false]) hQ rfl (by kernel_rfl) (by kernel_rfl) (by kernel_rfl) (by kernel_rfl) (by kernel_rfl) hE (HSub.refl _) (.cons_cons _ (List.nil_sublist _)) ?_
    refine JL.fieldAddr fo_46_0 rfl .none rfl ?_
    refine JA.cont ?_
    refine JA.take 15 (listed' := #[true, true, true, true, true, true, true, true, true, true, true, true, true, true, true, true, false, false, false, false, false]) hQ rfl (by kernel_rfl) (by kernel_rfl) (by kernel_rfl) (by kernel_rfl) (by kernel_rfl) hE (HSub.refl _) (.cons_cons _ (List.nil_sublist _)) ?_
    refine JL.loadH 0 az_3 rfl hc550 rfl .none rfl ?_
    refine JA.cont ?_
    refine JA.take 16 (listed' := #[true, true, true, true, true, true, true, true, true, true, true, true, true, true, true, true, true, false, false, false, false]) hQ rfl (by kernel_rfl) (by kernel_rfl) (by kernel_rfl) (by kernel_rfl) (by kernel_rfl) hE (HSub.refl _) (.cons_cons _ (List.nil_sublist _)) ?_
    refine JL.bin rfl rfl rfl .none rfl ?_
    refine JA.cont ?_
    refine JA.take 17 (listed' := #[true, true, true, true, true, true, true, true, true, true, true, true, true, true, true, true, true, true, false, false, false]) hQ rfl (by kernel_rfl) (by kernel_rfl) (by kernel_rfl) (by kernel_rfl) (by kernel_rfl) hE (HSub.refl _) (.cons_cons _ (List.nil_sublist _)) ?_
    refine JL.build (l := [.int .i64 (w64 (w_31 - y500.High)), .int .i64 (w64 (w_31 - y505.Low))]) (by kernel_rfl) .none rfl ?_
    refine JA.cont ?_
    refine JA.many [18] (by kernel_rfl) (by simp) (all_one ⟨_, #[true, true, true, true, true, true, true, true, true, true, true, true, true, true, true, true, true, true, true, false, false], rfl, (by kernel_rfl), ?_⟩)
    refine JL.buildSlice (e := 46) (l := [.int .i64 (w64 (w_31 - y500.High)), .int .i64 (w64 (w_31 - y505.Low))]) (by kernel_rfl) .none rfl ?_
    intro b551
    refine JA.after hE (HSub.refl _) (.cons _ (.cons_cons _ (List.nil_sublist _))) ?_
    refine JA.many [19] (by kernel_rfl) (by simp) (all_one ⟨_, #[true, true, true, true, true, true, true, true, true, true, true, true, true, true, true, true, true, true, true, true, false], rfl, (by kernel_rfl), ?_⟩)
    refine JL.appO (R := R_Span) 0 0 (l := out_485) (m := [(Span.mk (w64 (w_31 - y500.High)) (w64 (w_31 - y505.Low)))]) ap_28 rfl ⟨rfl, rfl⟩ rfl hout_485 rfl rfl rfl (CH.cons (cs := [.int .i64 (w64 (w_31 - y500.High)), .int .i64 (w64 (w_31 - y505.Low))]) rfl rfl CH.nil) rfl (one_cons rfl (one_cons rfl one_nil)) hl511 .none rfl ?_
    intro v552 xs553 hch554
    refine JA.after hE (HSub.refl _) (.cons _ (.cons_cons _ (List.nil_sublist _))) ?_
    refine JA.take 20 (listed' := #[true, true, true, true, true, true, true, true, true, true, true, true, true, true, true, true, true, true, true, true, true]) hQ rfl (by kernel_rfl) (by kernel_rfl) (by kernel_rfl) (by kernel_rfl) (by kernel_rfl) hE (HSub.refl _) (.cons _ (.cons_cons _ (List.nil_sublist _))) ?_
    refine JL.assign .none rfl ?_
    refine JA.cont ?_
    refine JA.done hQ (by kernel_rfl) ?_
    refine JQ.normal_block (JQ.go (JC.fresh (fun f => f 1 = .pointer (some ⟨b1, 0, none⟩) ∧ f 3 = .int .i64 w_31 ∧ f 5 = v552 ∧ f 6 = .int .i64 i_484) ⟨rfl, rfl, rfl, rfl⟩ ?_))
    rintro f ⟨hf1, hf3, hf5, hf6⟩
    refine (JC.norm (i := 1) hf1 (JC.norm (i := 3) hf3 (JC.norm (i := 5) hf5 (JC.norm (i := 6) hf6 ?_))))
    refine JC.region (by rfl) ?_
    intro hQ
    refine JL.move .none rfl ?_
    refine JL.bin rfl rfl rfl .none rfl ?_
    refine JL.assign .none rfl ?_
    refine JL.done hQ ?_
    obtain rfl := Option.some.inj hF
    refine JQ.mask [false, true] [true] ?_
    exact JQ.next rfl ⟨v552, xs553, rfl, rfl, rfl, rfl, rfl, rfl, hch554, hs486⟩
   ·refine JC.cond_f (b := decide (0 ≤ i_484)) rfl hc489 ?_
    refine JC.exit (JQ.exit_then (JQ.exit_then (JQ.exit_block ?_)))
    obtain rfl := Option.some.inj hF
    have ehr487 := hr487 _ rfl
    subst ehr487
    refine JQ.mask [false] [true] ?_
    exact JQ.join out_485 ⟨vout_485, xsout_485, rfl, rfl, rfl, hout_485, hs486, rfl⟩
  ·rintro out_343 H344 f bs gs ⟨vout_343, xsout_343, hf5, rfl, rfl, hout_343, hs344, rfl⟩
   have hF := hKr345
   try dsimp only at hF
   refine (JQ.norm (i := 5) hf5 ?_)
   refine JQ.go (JC.seq (JC.region (by rfl) ?_))
   intro hQ
   refine JL.move .none rfl ?_
   refine JL.assign .none rfl ?_
   refine JL.done hQ (JQ.go (JC.ret (JQ.freezeG 0 (R := R_Span) rfl R_Span_mono hout_343 rfl ?_)))
   intro H555 hs555 hg556
   obtain rfl := Option.some.inj hF
   exact JQ.outH rfl (.tmp .nil) hg556
-- 19 ferrule/ferrulelaw03.isKnown
def F_law03_isKnown (n : Nat) (e : Int) : Option Bool :=
 some ((e == 0) || (e == 3))
theorem c_law03_isKnown (n : Nat) (H : Hp) (e : Int) (y : Bool) (hF : F_law03_isKnown n e = some y) : SC Try.prog 19 [.int .i64 e] (.bool y) H := by
 rw [F_law03_isKnown] at hF
 refine SC.of (N := 9) Try.func19 rfl rfl rfl fun w => ?_
 refine JC.seq (JC.region (by rfl) ?_)
 intro hQ
 refine JL.assign .none rfl ?_
 refine JL.done hQ (JQ.go (JC.seq (JC.region (by rfl) ?_)))
 intro hQ
 refine JL.move .none rfl ?_
 refine JL.bin rfl rfl rfl .none rfl ?_
 refine JL.move .none rfl ?_
 refine JL.cut 3 (fun f => f 8 = .bool ((e == 0) || (e == 3))) ?_ ?_
 ·intro hJ1
  rcases bcases (e == 0) with hc2 | hc2
  ·skip
   refine JL.skip (.bool rfl rfl rfl hc2) rfl ?_
   refine JL.skip (.bool rfl rfl rfl hc2) rfl ?_
   refine JL.pick_t (b := (e == 0)) rfl hc2 .none rfl ?_
   exact hJ1 _ (or_t hc2 rfl)
  ·skip
   refine JL.move (.some rfl rfl rfl hc2) rfl ?_
   refine JL.bin rfl rfl rfl (.some rfl rfl rfl hc2) rfl ?_
   refine JL.pick_f (b := (e == 0)) rfl hc2 .none rfl ?_
   exact hJ1 _ (or_f hc2 rfl)
 ·rintro f hf8
  refine (JL.norm (i := 8) hf8 ?_)
  refine JL.assign .none rfl ?_
  refine JL.done hQ (JQ.go (JC.ret ?_))
  obtain rfl := Option.some.inj hF
  exact JQ.outS rfl (.tmp .nil) rfl
-- 13 ferrule/ferrulelaw03.atLeast
def F_law03_atLeast (n : Nat) (a : Lap) (b : Lap) : Option Bool :=
 (F_lays_Least n a).bind fun y3 => (F_lays_Least n b).bind fun y4 => (F_lays_Hopes n a).bind fun y5 => (F_lays_Hopes n b).bind fun y6 => (F_law03_isKnown n y3.2).bind fun y7 => (if (!y7) = true then (some true) else ((F_law03_isKnown n y4.2).bind fun y12 => some (!y12)) : Option Bool).bind fun p9 => (if p9 = true then (some true) else ((F_law03_isKnown n y5.2).bind fun y17 => some (!y17)) : Option Bool).bind fun p14 => (if p14 = true then (some true) else ((F_law03_isKnown n y6.2).bind fun y22 => some (!y22)) : Option Bool).bind fun p19 => if p19 = true then (some false) else (some (((y3.2 != 0) || ((y4.2 == 0) && (decide (y4.1 ≤ y3.1)))) && ((y5.2 != 0) || ((y6.2 == 0) && (decide (y6.1 ≤ y5.1))))))
theorem c_law03_atLeast (n : Nat) (H : Hp) (a : Lap) (a_v2 : Value) (ha_2 : SL H 2 R_Cell a_v2 a.Faults) (a_v3 : Value) (ha_3 : SL H 2 R_Cell a_v3 a.Flaws) (a_v4 : Value) (ha_4 : SL H 1 R_Panel a_v4 a.Panels) (b : Lap) (b_v2 : Value) (hb_2 : SL H 2 R_Cell b_v2 b.Faults) (b_v3 : Value) (hb_3 : SL H 2 R_Cell b_v3 b.Flaws) (b_v4 : Value) (hb_4 : SL H 1 R_Panel b_v4 b.Panels) (y : Bool) (hF : F_law03_atLeast n a b = some y) : SC Try.prog 13 [.agg [.int .i64 a.Width, .int .i64 a.Length, a_v2, a_v3, a_v4].toArray, .agg [.int .i64 b.Width, .int .i64 b.Length, b_v2, b_v3, b_v4].toArray] (.bool y) H := by
 rw [F_law03_atLeast] at hF
 refine SC.of (N := 75) Try.func13 rfl rfl rfl fun w => ?_
 refine JC.seq (JC.region (by rfl) ?_)
 intro hQ
 refine JL.box (cs := [.int .i64 a.Width, .int .i64 a.Length, a_v2, a_v3, a_v4]) rfl .none rfl ?_
 intro b1
 refine JL.box (cs := [.int .i64 b.Width, .int .i64 b.Length, b_v2, b_v3, b_v4]) rfl .none rfl ?_
 intro b2
 refine JL.assign .none rfl ?_
 refine JL.done hQ (JQ.go (JC.seq (JC.region (by rfl) ?_)))
 intro hQ
 refine JL.loadOwn 1 az_25 rfl rfl rfl .none rfl ?_
 obtain ⟨y3, hy3, hF⟩ := bind_some hF
 refine JL.callS (c_lays_Least n H a a_v2 ha_2 a_v3 ha_3 a_v4 ha_4 y3 hy3) rfl en_14 .none rfl ?_
 refine JL.move .none rfl ?_
 refine JL.extract rfl rfl .none rfl ?_
 refine JL.extract rfl rfl .none rfl ?_
 refine JL.assign .none rfl ?_
 refine JL.assign .none rfl ?_
 refine JL.done hQ (JQ.go (JC.seq (JC.region (by rfl) ?_)))
 intro hQ
 refine JL.loadOwn 0 az_25 rfl rfl rfl .none rfl ?_
 obtain ⟨y4, hy4, hF⟩ := bind_some hF
 refine JL.callS (c_lays_Least n H b b_v2 hb_2 b_v3 hb_3 b_v4 hb_4 y4 hy4) rfl en_14 .none rfl ?_
 refine JL.move .none rfl ?_
 refine JL.extract rfl rfl .none rfl ?_
 refine JL.extract rfl rfl .none rfl ?_
 refine JL.assign .none rfl ?_
 refine JL.assign .none rfl ?_
 refine JL.done hQ (JQ.go (JC.fresh (fun f => f 2 = .pointer (some ⟨b1, 0, none⟩) ∧ f 3 = .pointer (some ⟨b2, 0, none⟩) ∧ f 4 = .bool false ∧ f 5 = .int .i64 y3.1 ∧ f 6 = .int .i64 y3.2 ∧ f 7 = .int .i64 y4.1 ∧ f 8 = .int .i64 y4.2) ⟨rfl, rfl, rfl, rfl, rfl, rfl, rfl⟩ ?_))
 rintro f ⟨hf2, hf3, hf4, hf5, hf6, hf7, hf8⟩
 refine (JC.norm (i := 2) hf2 (JC.norm (i := 3) hf3 (JC.norm (i := 4) hf4 (JC.norm (i := 5) hf5 (JC.norm (i := 6) hf6 (JC.norm (i := 7) hf7 (JC.norm (i := 8) hf8 ?_)))))))
 refine JC.seq (JC.region (by rfl) ?_)
 intro hQ
 refine JL.loadOwn 1 az_25 rfl rfl rfl .none rfl ?_
 obtain ⟨y5, hy5, hF⟩ := bind_some hF
 refine JL.callS (c_lays_Hopes n H a a_v2 ha_2 a_v3 ha_3 a_v4 ha_4 y5 hy5) rfl en_17 .none rfl ?_
 refine JL.move .none rfl ?_
 refine JL.extract rfl rfl .none rfl ?_
 refine JL.extract rfl rfl .none rfl ?_
 refine JL.assign .none rfl ?_
 refine JL.assign .none rfl ?_
 refine JL.done hQ (JQ.go (JC.seq (JC.region (by rfl) ?_)))
 intro hQ
 refine JL.loadOwn 0 az_25 rfl rfl rfl .none rfl ?_
 obtain ⟨y6, hy6, hF⟩ := bind_some hF
 refine JL.callS (c_lays_Hopes n H b b_v2 hb_2 b_v3 hb_3 b_v4 hb_4 y6 hy6) rfl en_17 .none rfl ?_
 refine JL.move .none rfl ?_
 refine JL.extract rfl rfl .none rfl ?_
 refine JL.extract rfl rfl .none rfl ?_
 refine JL.assign .none rfl ?_
 refine JL.assign .none rfl ?_
 refine JL.done hQ (JQ.go (JC.fresh (fun f => f 4 = .bool false ∧ f 5 = .int .i64 y3.1 ∧ f 6 = .int .i64 y3.2 ∧ f 7 = .int .i64 y4.1 ∧ f 8 = .int .i64 y4.2 ∧ f 9 = .int .i64 y5.1 ∧ f 10 = .int .i64 y5.2 ∧ f 11 = .int .i64 y6.1 ∧ f 12 = .int .i64 y6.2) ⟨rfl, rfl, rfl, rfl, rfl, rfl, rfl, rfl, rfl⟩ ?_))
 rintro f ⟨hf4, hf5, hf6, hf7, hf8, hf9, hf10, hf11, hf12⟩
 refine (JC.norm (i := 4) hf4 (JC.norm (i := 5) hf5 (JC.norm (i := 6) hf6 (JC.norm (i := 7) hf7 (JC.norm (i := 8) hf8 (JC.norm (i := 9) hf9 (JC.norm (i := 10) hf10 (JC.norm (i := 11) hf11 (JC.norm (i := 12) hf12 ?_)))))))))
 refine JC.seq (JC.seq (JC.region (by rfl) ?_))
 intro hQ
 refine JL.move .none rfl ?_
 obtain ⟨y7, hy7, hF⟩ := bind_some hF
 refine JL.callS (c_law03_isKnown n H y3.2 y7 hy7) rfl en_19 .none rfl ?_
 refine JL.not rfl .none rfl ?_
 refine JL.move .none rfl ?_
 obtain ⟨p9, hp9, hF⟩ := bind_some hF
 refine JL.cut 4 (fun f => f 5 = .int .i64 y3.1 ∧ f 6 = .int .i64 y3.2 ∧ f 7 = .int .i64 y4.1 ∧ f 8 = .int .i64 y4.2 ∧ f 9 = .int .i64 y5.1 ∧ f 10 = .int .i64 y5.2 ∧ f 11 = .int .i64 y6.1 ∧ f 12 = .int .i64 y6.2 ∧ f 40 = .bool p9) ?_ ?_
 ·intro hJ10
  rcases ite_some hp9 with ⟨hc11, hF⟩ | ⟨hc11, hF⟩
  ·skip
   refine JL.skip (.bool rfl rfl rfl hc11) rfl ?_
   refine JL.skip (.bool rfl rfl rfl hc11) rfl ?_
   refine JL.skip (.bool rfl rfl rfl hc11) rfl ?_
   refine JL.pick_t (b := (!y7)) rfl hc11 .none rfl ?_
   obtain rfl := Option.some.inj hF
   exact hJ10 _ ⟨rfl, rfl, rfl, rfl, rfl, rfl, rfl, rfl, rfl⟩
  ·skip
   refine JL.move (.some rfl rfl rfl hc11) rfl ?_
   obtain ⟨y12, hy12, hF⟩ := bind_some hF
   refine JL.callS (c_law03_isKnown n H y4.2 y12 hy12) rfl en_19 (.some rfl rfl rfl hc11) rfl ?_
   refine JL.not rfl (.some rfl rfl rfl hc11) rfl ?_
   refine JL.pick_f (b := (!y7)) rfl hc11 .none rfl ?_
   obtain rfl := Option.some.inj hF
   exact hJ10 _ ⟨rfl, rfl, rfl, rfl, rfl, rfl, rfl, rfl, rfl⟩
 ·rintro f ⟨hf5, hf6, hf7, hf8, hf9, hf10, hf11, hf12, hf40⟩
  refine (JL.norm (i := 5) hf5 (JL.norm (i := 6) hf6 (JL.norm (i := 7) hf7 (JL.norm (i := 8) hf8 (JL.norm (i := 9) hf9 (JL.norm (i := 10) hf10 (JL.norm (i := 11) hf11 (JL.norm (i := 12) hf12 (JL.norm (i := 40) hf40 ?_)))))))))
  refine JL.move .none rfl ?_
  obtain ⟨p14, hp14, hF⟩ := bind_some hF
  refine JL.cut 4 (fun f => f 5 = .int .i64 y3.1 ∧ f 6 = .int .i64 y3.2 ∧ f 7 = .int .i64 y4.1 ∧ f 8 = .int .i64 y4.2 ∧ f 9 = .int .i64 y5.1 ∧ f 10 = .int .i64 y5.2 ∧ f 11 = .int .i64 y6.1 ∧ f 12 = .int .i64 y6.2 ∧ f 45 = .bool p14) ?_ ?_
  ·intro hJ15
   rcases ite_some hp14 with ⟨hc16, hF⟩ | ⟨hc16, hF⟩
   ·skip
    refine JL.skip (.bool rfl rfl rfl hc16) rfl ?_
    refine JL.skip (.bool rfl rfl rfl hc16) rfl ?_
    refine JL.skip (.bool rfl rfl rfl hc16) rfl ?_
    refine JL.pick_t (b := p9) rfl hc16 .none rfl ?_
    obtain rfl := Option.some.inj hF
    exact hJ15 _ ⟨rfl, rfl, rfl, rfl, rfl, rfl, rfl, rfl, rfl⟩
   ·skip
    refine JL.move (.some rfl rfl rfl hc16) rfl ?_
    obtain ⟨y17, hy17, hF⟩ := bind_some hF
    refine JL.callS (c_law03_isKnown n H y5.2 y17 hy17) rfl en_19 (.some rfl rfl rfl hc16) rfl ?_
    refine JL.not rfl (.some rfl rfl rfl hc16) rfl ?_
    refine JL.pick_f (b := p9) rfl hc16 .none rfl ?_
    obtain rfl := Option.some.inj hF
    exact hJ15 _ ⟨rfl, rfl, rfl, rfl, rfl, rfl, rfl, rfl, rfl⟩
  ·rintro f ⟨hf5, hf6, hf7, hf8, hf9, hf10, hf11, hf12, hf45⟩
   refine (JL.norm (i := 5) hf5 (JL.norm (i := 6) hf6 (JL.norm (i := 7) hf7 (JL.norm (i := 8) hf8 (JL.norm (i := 9) hf9 (JL.norm (i := 10) hf10 (JL.norm (i := 11) hf11 (JL.norm (i := 12) hf12 (JL.norm (i := 45) hf45 ?_)))))))))
   refine JL.move .none rfl ?_
   obtain ⟨p19, hp19, hF⟩ := bind_some hF
   refine JL.cut 4 (fun f => f 5 = .int .i64 y3.1 ∧ f 6 = .int .i64 y3.2 ∧ f 7 = .int .i64 y4.1 ∧ f 8 = .int .i64 y4.2 ∧ f 9 = .int .i64 y5.1 ∧ f 10 = .int .i64 y5.2 ∧ f 11 = .int .i64 y6.1 ∧ f 12 = .int .i64 y6.2 ∧ f 50 = .bool p19) ?_ ?_
   ·intro hJ20
    rcases ite_some hp19 with ⟨hc21, hF⟩ | ⟨hc21, hF⟩
    ·skip
     refine JL.skip (.bool rfl rfl rfl hc21) rfl ?_
     refine JL.skip (.bool rfl rfl rfl hc21) rfl ?_
     refine JL.skip (.bool rfl rfl rfl hc21) rfl ?_
     refine JL.pick_t (b := p14) rfl hc21 .none rfl ?_
     obtain rfl := Option.some.inj hF
     exact hJ20 _ ⟨rfl, rfl, rfl, rfl, rfl, rfl, rfl, rfl, rfl⟩
    ·skip
     refine JL.move (.some rfl rfl rfl hc21) rfl ?_
     obtain ⟨y22, hy22, hF⟩ := bind_some hF
     refine JL.callS (c_law03_isKnown n H y6.2 y22 hy22) rfl en_19 (.some rfl rfl rfl hc21) rfl ?_
     refine JL.not rfl (.some rfl rfl rfl hc21) rfl ?_
     refine JL.pick_f (b := p14) rfl hc21 .none rfl ?_
     obtain rfl := Option.some.inj hF
     exact hJ20 _ ⟨rfl, rfl, rfl, rfl, rfl, rfl, rfl, rfl, rfl⟩
   ·rintro f ⟨hf5, hf6, hf7, hf8, hf9, hf10, hf11, hf12, hf50⟩
    refine (JL.norm (i := 5) hf5 (JL.norm (i := 6) hf6 (JL.norm (i := 7) hf7 (JL.norm (i := 8) hf8 (JL.norm (i := 9) hf9 (JL.norm (i := 10) hf10 (JL.norm (i := 11) hf11 (JL.norm (i := 12) hf12 (JL.norm (i := 50) hf50 ?_)))))))))
    refine JL.done hQ (JQ.go ?_)
    rcases ite_some hF with ⟨hc23, hF⟩ | ⟨hc23, hF⟩
    ·refine JC.cond_t (b := p19) rfl hc23 ?_
     refine JC.seq (JC.region (by rfl) ?_)
     intro hQ
     refine JL.assign .none rfl ?_
     refine JL.done hQ (JQ.go (JC.ret (JQ.ret_then ?_)))
     obtain rfl := Option.some.inj hF
     exact JQ.outS rfl (.tmp .nil) rfl
    ·refine JC.cond_f (b := p19) rfl hc23 ?_
     refine JC.skip (JQ.go (JC.seq (JC.region (by rfl) ?_)))
     intro hQ
     refine JL.move .none rfl ?_
     refine JL.bin rfl rfl rfl .none rfl ?_
     refine JL.move .none rfl ?_
     refine JL.cut 8 (fun f => f 9 = .int .i64 y5.1 ∧ f 10 = .int .i64 y5.2 ∧ f 11 = .int .i64 y6.1 ∧ f 12 = .int .i64 y6.2 ∧ f 61 = .bool ((y3.2 != 0) || ((y4.2 == 0) && (decide (y4.1 ≤ y3.1))))) ?_ ?_
     ·intro hJ26
      rcases bcases (y3.2 != 0) with hc27 | hc27
      ·skip
       refine JL.skip (.bool rfl rfl rfl hc27) rfl ?_
       refine JL.skip (.bool rfl rfl rfl hc27) rfl ?_
       refine JL.skip (.bool rfl rfl rfl hc27) rfl ?_
       refine JL.skip (.no rfl rfl rfl) rfl ?_
       refine JL.skip (.no rfl rfl rfl) rfl ?_
       refine JL.skip (.no rfl rfl rfl) rfl ?_
       refine JL.skip (.bool rfl rfl rfl hc27) rfl ?_
       refine JL.pick_t (b := (y3.2 != 0)) rfl hc27 .none rfl ?_
       exact hJ26 _ ⟨rfl, rfl, rfl, rfl, or_t hc27 rfl⟩
      ·skip
       refine JL.move (.some rfl rfl rfl hc27) rfl ?_
       refine JL.bin rfl rfl rfl (.some rfl rfl rfl hc27) rfl ?_
       refine JL.move (.some rfl rfl rfl hc27) rfl ?_
       refine JL.cut 4 (fun f => f 9 = .int .i64 y5.1 ∧ f 10 = .int .i64 y5.2 ∧ f 11 = .int .i64 y6.1 ∧ f 12 = .int .i64 y6.2 ∧ f 53 = .bool (y3.2 != 0) ∧ f 60 = .bool ((y4.2 == 0) && (decide (y4.1 ≤ y3.1)))) ?_ ?_
       ·intro hJ28
        rcases bcases (y4.2 == 0) with hc29 | hc29
        ·skip
         refine JL.move (.some rfl rfl rfl hc29) rfl ?_
         refine JL.move (.some rfl rfl rfl hc29) rfl ?_
         refine JL.bin rfl rfl rfl (.some rfl rfl rfl hc29) rfl ?_
         refine JL.pick_t (b := (y4.2 == 0)) rfl hc29 (.some rfl rfl rfl hc27) rfl ?_
         exact hJ28 _ ⟨rfl, rfl, rfl, rfl, rfl, and_t hc29 rfl⟩
        ·skip
         refine JL.skip (.bool rfl rfl rfl hc29) rfl ?_
         refine JL.skip (.bool rfl rfl rfl hc29) rfl ?_
         refine JL.skip (.bool rfl rfl rfl hc29) rfl ?_
         refine JL.pick_f (b := (y4.2 == 0)) rfl hc29 (.some rfl rfl rfl hc27) rfl ?_
         exact hJ28 _ ⟨rfl, rfl, rfl, rfl, rfl, and_f hc29 rfl⟩
       ·rintro f ⟨hf9, hf10, hf11, hf12, hf53, hf60⟩
        refine (JL.norm (i := 9) hf9 (JL.norm (i := 10) hf10 (JL.norm (i := 11) hf11 (JL.norm (i := 12) hf12 (JL.norm (i := 53) hf53 (JL.norm (i := 60) hf60 ?_))))))
        refine JL.pick_f (b := (y3.2 != 0)) rfl hc27 .none rfl ?_
        exact hJ26 _ ⟨rfl, rfl, rfl, rfl, or_f hc27 rfl⟩
     ·rintro f ⟨hf9, hf10, hf11, hf12, hf61⟩
      refine (JL.norm (i := 9) hf9 (JL.norm (i := 10) hf10 (JL.norm (i := 11) hf11 (JL.norm (i := 12) hf12 (JL.norm (i := 61) hf61 ?_)))))
      refine JL.move .none rfl ?_
      refine JL.cut 12 (fun f => f 74 = .bool (((y3.2 != 0) || ((y4.2 == 0) && (decide (y4.1 ≤ y3.1)))) && ((y5.2 != 0) || ((y6.2 == 0) && (decide (y6.1 ≤ y5.1)))))) ?_ ?_
      ·intro hJ36
       rcases bcases ((y3.2 != 0) || ((y4.2 == 0) && (decide (y4.1 ≤ y3.1)))) with hc37 | hc37
       ·skip
        refine JL.move (.some rfl rfl rfl hc37) rfl ?_
        refine JL.bin rfl rfl rfl (.some rfl rfl rfl hc37) rfl ?_
        refine JL.move (.some rfl rfl rfl hc37) rfl ?_
        refine JL.cut 8 (fun f => f 62 = .bool ((y3.2 != 0) || ((y4.2 == 0) && (decide (y4.1 ≤ y3.1)))) ∧ f 73 = .bool ((y5.2 != 0) || ((y6.2 == 0) && (decide (y6.1 ≤ y5.1))))) ?_ ?_
        ·intro hJ40
         rcases bcases (y5.2 != 0) with hc41 | hc41
         ·skip
          refine JL.skip (.bool rfl rfl rfl hc41) rfl ?_
          refine JL.skip (.bool rfl rfl rfl hc41) rfl ?_
          refine JL.skip (.bool rfl rfl rfl hc41) rfl ?_
          refine JL.skip (.no rfl rfl rfl) rfl ?_
          refine JL.skip (.no rfl rfl rfl) rfl ?_
          refine JL.skip (.no rfl rfl rfl) rfl ?_
          refine JL.skip (.bool rfl rfl rfl hc41) rfl ?_
          refine JL.pick_t (b := (y5.2 != 0)) rfl hc41 (.some rfl rfl rfl hc37) rfl ?_
          exact hJ40 _ ⟨rfl, or_t hc41 rfl⟩
         ·skip
          refine JL.move (.some rfl rfl rfl hc41) rfl ?_
          refine JL.bin rfl rfl rfl (.some rfl rfl rfl hc41) rfl ?_
          refine JL.move (.some rfl rfl rfl hc41) rfl ?_
          refine JL.cut 4 (fun f => f 62 = .bool ((y3.2 != 0) || ((y4.2 == 0) && (decide (y4.1 ≤ y3.1)))) ∧ f 65 = .bool (y5.2 != 0) ∧ f 72 = .bool ((y6.2 == 0) && (decide (y6.1 ≤ y5.1)))) ?_ ?_
          ·intro hJ42
           rcases bcases (y6.2 == 0) with hc43 | hc43
           ·skip
            refine JL.move (.some rfl rfl rfl hc43) rfl ?_
            refine JL.move (.some rfl rfl rfl hc43) rfl ?_
            refine JL.bin rfl rfl rfl (.some rfl rfl rfl hc43) rfl ?_
            refine JL.pick_t (b := (y6.2 == 0)) rfl hc43 (.some rfl rfl rfl hc41) rfl ?_
            exact hJ42 _ ⟨rfl, rfl, and_t hc43 rfl⟩
           ·skip
            refine JL.skip (.bool rfl rfl rfl hc43) rfl ?_
            refine JL.skip (.bool rfl rfl rfl hc43) rfl ?_
            refine JL.skip (.bool rfl rfl rfl hc43) rfl ?_
            refine JL.pick_f (b := (y6.2 == 0)) rfl hc43 (.some rfl rfl rfl hc41) rfl ?_
            exact hJ42 _ ⟨rfl, rfl, and_f hc43 rfl⟩
          ·rintro f ⟨hf62, hf65, hf72⟩
           refine (JL.norm (i := 62) hf62 (JL.norm (i := 65) hf65 (JL.norm (i := 72) hf72 ?_)))
           refine JL.pick_f (b := (y5.2 != 0)) rfl hc41 (.some rfl rfl rfl hc37) rfl ?_
           exact hJ40 _ ⟨rfl, or_f hc41 rfl⟩
        ·rintro f ⟨hf62, hf73⟩
         refine (JL.norm (i := 62) hf62 (JL.norm (i := 73) hf73 ?_))
         refine JL.pick_t (b := ((y3.2 != 0) || ((y4.2 == 0) && (decide (y4.1 ≤ y3.1))))) rfl hc37 .none rfl ?_
         exact hJ36 _ (and_t hc37 rfl)
       ·skip
        refine JL.skip (.bool rfl rfl rfl hc37) rfl ?_
        refine JL.skip (.bool rfl rfl rfl hc37) rfl ?_
        refine JL.skip (.bool rfl rfl rfl hc37) rfl ?_
        refine JL.skip (.no rfl rfl rfl) rfl ?_
        refine JL.skip (.no rfl rfl rfl) rfl ?_
        refine JL.skip (.no rfl rfl rfl) rfl ?_
        refine JL.skip (.no rfl rfl rfl) rfl ?_
        refine JL.skip (.no rfl rfl rfl) rfl ?_
        refine JL.skip (.no rfl rfl rfl) rfl ?_
        refine JL.skip (.no rfl rfl rfl) rfl ?_
        refine JL.skip (.bool rfl rfl rfl hc37) rfl ?_
        refine JL.pick_f (b := ((y3.2 != 0) || ((y4.2 == 0) && (decide (y4.1 ≤ y3.1))))) rfl hc37 .none rfl ?_
        exact hJ36 _ (and_f hc37 rfl)
      ·rintro f hf74
       refine (JL.norm (i := 74) hf74 ?_)
       refine JL.assign .none rfl ?_
       refine JL.done hQ (JQ.go (JC.ret ?_))
       obtain rfl := Option.some.inj hF
       exact JQ.outS rfl (.tmp .nil) rfl
-- 20 ferrule/lays.Lay
def F_lays_Lay (n : Nat) (s : Lap) : Option ((List Place) × Int) :=
 (F_lays_sure n s).bind fun y2 => some (y2.2.1, y2.2.2)
end Go.Proofs.Ytflhjlgimihmgaa
end
section
namespace Go.Dec
theorem w64_nat {i : Nat} (h : i ≤ 4611686018427387904) : w64 ((i : Int) + 1) = ((i + 1 : Nat) : Int) := by
  rw [w64_id] <;> omega
theorem lim_ok {α : Type} {l : List α} (h : l.length ≤ 4294967296) : lim l = some l := by simp [lim, h]
section
variable {S R : Type} {step : S → Option (S ⊕ R)}
theorem loopO_succ {n : Nat} {s : S} : loopO (n + 1) step s = (match step s with | none => none | some (.inl s') => loopO n step s' | some (.inr r) => some r) := by
  rw [loopO]; rcases step s with _ | (_ | _) <;> rfl
theorem loop_done {n : Nat} {s : S} {r : R} (h : step s = some (.inr r)) (hn : 0 < n) : loopO n step s = some r := by
  obtain ⟨m, rfl⟩ : ∃ k, n = k + 1 := ⟨n - 1, by omega⟩
  rw [loopO_succ, h]
/-- a loop that folds a list; I: what is so of the state before round i -/
theorem loop_fold {α β : Type} (l : List α) (enc : Nat → β → S) (g : β → α → β) (fin : β → R) (I : Nat → β → Prop) {n : Nat} (b0 : β) (h0 : I 0 b0)
    (h : ∀ i x b, l[i]? = some x → I i b → step (enc i b) = some (.inl (enc (i + 1) (g b x))) ∧ I (i + 1) (g b x))
    (hd : ∀ b, I l.length b → step (enc l.length b) = some (.inr (fin b))) (hn : l.length < n) : loopO n step (enc 0 b0) = some (fin (l.foldl g b0)) ∧ I l.length (l.foldl g b0) := by
  have key : ∀ (k i : Nat) (b : β) (n : Nat), i + k = l.length → I i b → k < n → loopO n step (enc i b) = some (fin ((l.drop i).foldl g b)) ∧ I l.length ((l.drop i).foldl g b) := by
    intro k
    induction k with
    | zero =>
      intro i b n hi hI hn
      have e : i = l.length := by omega
      subst e
      rw [List.drop_length]
      exact ⟨loop_done (hd b hI) hn, hI⟩
    | succ k ih =>
      intro i b n hi hI hn
      obtain ⟨m, rfl⟩ : ∃ k, n = k + 1 := ⟨n - 1, by omega⟩
      have hlt : i < l.length := by omega
      obtain ⟨h1, h2⟩ := h i l[i] b (List.getElem?_eq_getElem hlt) hI
      rw [loopO_succ, h1, List.drop_eq_getElem_cons hlt, List.foldl_cons]
      exact ih (i + 1) _ m (by omega) h2 (by omega)
  have := key l.length 0 b0 n (by omega) h0 hn
  rwa [List.drop_zero] at this
/-- a search by index -/
theorem loop_all {ρ : Type} {step : Int → Option (Int ⊕ (ρ ⊕ Unit))} (k : Nat) (p : Nat → Bool) (r : ρ) {n : Nat} (hk : k ≤ 4611686018427387904)
    (h : ∀ i, i < k → step (i : Int) = some (bif p i then .inl ((i + 1 : Nat) : Int) else .inr (.inl r))) (hd : step (k : Int) = some (.inr (.inr ()))) (hn : k < n) :
    loopO n step 0 = some (bif (List.range k).all p then .inr () else .inl r) := by
  have key : ∀ (m i n : Nat), i + m = k → m < n → loopO n step (i : Int) = some (bif (List.range' i m).all p then .inr () else .inl r) := by
    intro m
    induction m with
    | zero => intro i n hi hn; have : i = k := by omega
              subst this; rw [loop_done hd (by omega)]; simp
    | succ m ih =>
      intro i n hi hn
      obtain ⟨m', rfl⟩ : ∃ k, n = k + 1 := ⟨n - 1, by omega⟩
      rw [loopO_succ, h i (by omega), List.range'_succ, List.all_cons]
      cases hp : p i with
      | false => simp
      | true => simp only [cond_true, Bool.true_and]; exact ih (i + 1) m' (by omega) (by omega)
  have := key k 0 n (by omega) hn
  rw [List.range_eq_range']
  exact this
/-- a search in a list -/
theorem loop_all_l {α ρ : Type} {step : Int → Option (Int ⊕ (ρ ⊕ Unit))} (l : List α) (p : α → Bool) (r : ρ) {n : Nat} (hk : l.length ≤ 4611686018427387904)
    (h : ∀ i x, l[i]? = some x → i < l.length → step (i : Int) = some (bif p x then .inl ((i + 1 : Nat) : Int) else .inr (.inl r))) (hd : step (l.length : Int) = some (.inr (.inr ()))) (hn : l.length < n) :
    loopO n step 0 = some (bif l.all p then .inr () else .inl r) := by
  have := loop_all l.length (fun i => match l[i]? with | some x => p x | none => true) r hk (fun i hi => by
    rw [h i l[i] (List.getElem?_eq_getElem hi) hi]; simp [hi]) hd hn
  rw [this]
  have e : (List.range l.length).all (fun i => match l[i]? with | some x => p x | none => true) = l.all p := by
    rw [Bool.eq_iff_iff]
    simp only [List.all_eq_true, List.mem_range]
    constructor
    · intro h x hx
      obtain ⟨i, hi⟩ := List.mem_iff_getElem?.1 hx
      have := h i (List.getElem?_eq_some_iff.1 hi).1
      simpa [hi] using this
    · intro h i hi
      simpa [hi] using h _ (List.getElem_mem hi)
  rw [e]
end
theorem foldl_append_map {α β : Type} (f : α → β) : ∀ (l : List α) (out : List β), l.foldl (fun o x => o ++ [f x]) out = out ++ l.map f
  | [], out => by simp
  | a :: l, out => by rw [List.foldl_cons, foldl_append_map f l]; simp
end Go.Dec
end
section
namespace Go.Dec
def span (a b : Int) : List Int := (List.range (b + 1 - a).toNat).map fun j : Nat => a + j
theorem span_mem' {a b x : Int} : x ∈ span a b ↔ a ≤ x ∧ x ≤ b := by
  simp only [span, List.mem_map, List.mem_range]
  constructor
  · rintro ⟨j, h, rfl⟩; omega
  · intro h; exact ⟨(x - a).toNat, by omega, by omega⟩
theorem span_len (a b : Int) : (span a b).length = (b + 1 - a).toNat := by simp [span]
end Go.Dec
end
section
namespace Go.Dec
def expand (m : Mp) : List (List Int) := m.flatMap fun p => List.replicate p.2.toNat p.1
/-- the map counts the list's members -/
structure RM (L : List (List Int)) (m : Mp) : Prop where
  srt : Srt m
  pos : ∀ p ∈ m, 0 < p.2
  perm : (expand m).Perm L
theorem mget_cons {p : List Int × Int} {r : Mp} {k : List Int} : mget (p :: r) k = if p.1 = k then p.2 else mget r k := by
  unfold mget
  rw [List.find?_cons]
  by_cases h : p.1 = k
  · have : (p.1 == k) = true := by simpa using h
    rw [this, if_pos h]
  · have : (p.1 == k) = false := by simpa using h
    rw [this, if_neg h]
theorem mget_nil {k : List Int} : mget [] k = 0 := rfl
theorem expand_cons (p : List Int × Int) (r : Mp) : expand (p :: r) = List.replicate p.2.toNat p.1 ++ expand r := by simp [expand]
theorem mget_nonneg {m : Mp} (hp : ∀ p ∈ m, 0 < p.2) (k : List Int) : 0 ≤ mget m k := by
  induction m with
  | nil => simp [mget_nil]
  | cons p r ih =>
    rw [mget_cons]
    split
    · have := hp p (List.mem_cons_self ..); omega
    · exact ih fun q hq => hp q (List.mem_cons_of_mem _ hq)
theorem expand_mput {k : List Int} {c : Int} (hc : 0 < c) : ∀ {m : Mp}, Srt m → (∀ p ∈ m, 0 < p.2) → (expand (mput m k (mget m k + c))).Perm (expand m ++ List.replicate c.toNat k)
  | [], _, _ => by simp [mput, mget_nil, expand]
  | p :: r, hs, hp => by
    obtain ⟨h1, h2⟩ := List.pairwise_cons.1 hs
    have hp' : ∀ q ∈ r, 0 < q.2 := fun q hq => hp q (List.mem_cons_of_mem _ hq)
    have hpp := hp p (List.mem_cons_self ..)
    rw [mget_cons]
    unfold mput
    by_cases e : p.1 = k
    · rw [if_pos e, if_pos (by simpa using e), expand_cons, expand_cons]
      simp only
      have e1 : (p.2 + c).toNat = p.2.toNat + c.toNat := by omega
      rw [e1, ← List.replicate_append_replicate, e]
      rw [List.append_assoc, List.append_assoc]
      exact List.Perm.append_left _ List.perm_append_comm
    · rw [if_neg e, if_neg (by simpa using e)]
      by_cases hl : klt k p.1 = true
      · rw [if_pos hl]
        have h0 : mget r k = 0 := mget_of_not fun q hq e2 => by
          have := klt_trans hl (h1 q hq)
          rw [e2, klt_irrefl] at this
          cases this
        rw [h0, expand_cons, Int.zero_add]
        exact List.perm_append_comm
      · rw [if_neg hl, expand_cons, expand_cons, List.append_assoc]
        exact List.Perm.append_left _ (expand_mput hc h2 hp')
theorem RM.nil : RM [] [] := ⟨List.Pairwise.nil, by simp, by simp [expand]⟩
theorem RM.add {L : List (List Int)} {m : Mp} (h : RM L m) (k : List Int) {c : Int} (hc : 0 < c) : RM (L ++ List.replicate c.toNat k) (mput m k (mget m k + c)) := by
  refine ⟨srt_mput h.srt, fun p hp => ?_, (expand_mput hc h.srt h.pos).trans (h.perm.append_right _)⟩
  rcases (mem_mput h.srt).1 hp with rfl | ⟨hp, _⟩
  · have := mget_nonneg h.pos k; simp only; omega
  · exact h.pos p hp
theorem mget_count {k : List Int} : ∀ {m : Mp}, Srt m → (∀ p ∈ m, 0 < p.2) → mget m k = ((expand m).count k : Nat)
  | [], _, _ => by simp [mget_nil, expand]
  | p :: r, hs, hp => by
    obtain ⟨h1, h2⟩ := List.pairwise_cons.1 hs
    have hp' : ∀ q ∈ r, 0 < q.2 := fun q hq => hp q (List.mem_cons_of_mem _ hq)
    have hpp := hp p (List.mem_cons_self ..)
    rw [mget_cons, expand_cons, List.count_append, List.count_replicate]
    have ih := mget_count (k := k) h2 hp'
    by_cases e : p.1 = k
    · rw [if_pos e, if_pos (by simpa using e)]
      have h0 : mget r k = 0 := mget_of_not fun q hq e2 => by
        have := h1 q hq
        rw [e2, ← e, klt_irrefl] at this
        cases this
      omega
    · rw [if_neg e, if_neg (by simpa using e)]
      omega
theorem RM.get {L : List (List Int)} {m : Mp} (h : RM L m) (k : List Int) : mget m k = (L.count k : Nat) := by
  rw [mget_count h.srt h.pos, h.perm.count_eq]
theorem RM.mem {L : List (List Int)} {m : Mp} (h : RM L m) {p : List Int × Int} : p ∈ m ↔ p.2 = (L.count p.1 : Nat) ∧ p.1 ∈ L := by
  constructor
  · intro hp
    have h1 := mget_of_mem h.srt (k := p.1) (v := p.2) hp
    rw [h.get] at h1
    refine ⟨h1.symm, ?_⟩
    have := h.pos p hp
    exact List.count_pos_iff.1 (by omega)
  · rintro ⟨h1, h2⟩
    have h3 : 0 < L.count p.1 := List.count_pos_iff.2 h2
    have h4 := h.get p.1
    unfold mget at h4
    cases hf : m.find? (fun q => q.1 == p.1) with
    | none => rw [hf] at h4; simp only at h4; omega
    | some q =>
      rw [hf] at h4
      simp only at h4
      have h5 := List.find?_some hf
      have e : q = p := by
        have : q.1 = p.1 := by simpa using h5
        exact Prod.ext this (by omega)
      rw [← e]
      exact List.mem_of_find?_eq_some hf
theorem RM.key {L : List (List Int)} {m : Mp} (h : RM L m) {x : List Int} : (∃ c, (x, c) ∈ m) ↔ x ∈ L :=
  ⟨fun ⟨_, hc⟩ => (h.mem.1 hc).2, fun hx => ⟨(L.count x : Nat), h.mem.2 ⟨rfl, hx⟩⟩⟩
theorem expand_filter (q : List Int → Bool) : ∀ (m : Mp), expand (m.filter fun p => q p.1) = (expand m).filter q
  | [] => by simp [expand]
  | p :: r => by
    rw [expand_cons, List.filter_append]
    cases hq : q p.1 with
    | true => rw [List.filter_cons_of_pos (p := fun p : List Int × Int => q p.1) hq, expand_cons, expand_filter q r, List.filter_replicate_of_pos hq]
    | false => rw [List.filter_cons_of_neg (p := fun p : List Int × Int => q p.1) (by simp [hq]), expand_filter q r, List.filter_replicate_of_neg (by simp [hq]), List.nil_append]
theorem RM.filter {L : List (List Int)} {m : Mp} (h : RM L m) (q : List Int → Bool) : RM (L.filter q) (m.filter fun p => q p.1) :=
  ⟨h.srt.filter _, fun p hp => h.pos p (List.mem_filter.1 hp).1, by rw [expand_filter]; exact h.perm.filter _⟩
end Go.Dec
end
