/-
  Printed by a program: results that the caller owns, and functions that turn them.
-/
import Derived.Test.YtooankffknoomaaGenK16
import Derived.Test.YtooankffknoomaaEngS
namespace Go.Proofs.Ytooankffknoomaa
open Go Go.RowKit Go.Dec
set_option linter.unusedVariables false

set_option maxRecDepth 100000 in
set_option maxHeartbeats 40000000 in
theorem x_ref11_Copy (n : Nat) (H : Hp) (t : Tour) (t_v2 : Value) (ht_2 : SL H 3 R_Rain t_v2 t.Rains) (t_v4 : Value) (ht_4 : SL H 2 R_Fair t_v4 t.Fairs) (y : Tour) (hF : F_ref11_Copy n t = some y) : XC Try.prog 14 [.agg [.int .i64 t.Days, .int .i64 t.Step, t_v2, .int .i64 t.Wrong, t_v4, .int .i64 t.Reach, .int .i64 t.Stock].toArray] H (fun H' v gs' => ∃ (y_v0 : Value) (y_xs0 : List Value) (y_v1 : Value) (y_xs1 : List Value), v = .agg [.int .i64 y.Days, .int .i64 y.Step, y_v0, .int .i64 y.Wrong, y_v1, .int .i64 y.Reach, .int .i64 y.Stock].toArray ∧ gs' = [⟨y_v1, 41, 2, y.Fairs.length, y_xs1⟩, ⟨y_v0, 37, 3, y.Rains.length, y_xs0⟩] ∧ CH H' 3 R_Rain y_xs0 y.Rains ∧ CH H' 2 R_Fair y_xs1 y.Fairs) := by
  rw [F_ref11_Copy] at hF
  refine XC.of (N := 40) Try.func14 rfl rfl rfl fun w => ?_
  refine JC.seq ?_
  refine JC.region (by rfl) ?_
  intro hQ
  refine JL.box (cs := [.int .i64 t.Days, .int .i64 t.Step, t_v2, .int .i64 t.Wrong, t_v4, .int .i64 t.Reach, .int .i64 t.Stock]) rfl .none rfl ?_
  intro b1
  refine JL.alloc ze_25 .none rfl ?_
  intro b2
  refine JL.done hQ ?_
  refine JQ.go ?_
  refine JC.seq ?_
  refine JC.region (by rfl) ?_
  intro hQ
  refine JL.loadOwn 1 az_25 rfl rfl rfl .none rfl ?_
  refine JL.alloc ze_25 .none rfl ?_
  intro b3
  refine JL.storeOwn 0 (cs := [.int .i64 t.Days, .int .i64 t.Step, t_v2, .int .i64 t.Wrong, t_v4, .int .i64 t.Reach, .int .i64 t.Stock]) az_25 rfl rfl rfl (one_cons rfl (one_cons rfl (one_cons (SL.one ht_2) (one_cons rfl (one_cons (SL.one ht_4) (one_cons rfl (one_cons rfl one_nil))))))) rfl rfl .none ?_
  refine JL.done hQ ?_
  refine JQ.go ?_
  refine JC.seq ?_
  refine JC.region (by rfl) ?_
  intro hQ
  refine JL.emptySlice ap_22 .none rfl ?_
  intro v4
  refine JL.fieldAddr fo_25_2 rfl .none rfl ?_
  refine JL.loadOwn 2 az_22 rfl rfl rfl .none rfl ?_
  obtain ⟨l6, hl6, hF⟩ := bind_some hF
  refine JL.appD (R := R_Rain) 0 (l := ([] : List Rain)) (m := t.Rains) ap_22 rfl ⟨rfl, rfl⟩ rfl CH.nil rfl ht_2 (R_Rain_one _) hl6 .none rfl ?_
  intro v7 xs8 hch9
  refine JL.fieldAddr fo_25_2 rfl .none rfl ?_
  refine JL.oneG 0 rfl (fun ho10 => ?_)
  refine JL.storeOwn 0 (cs := [v7]) az_22 rfl ho10.2 rfl (one_cons ho10.1 one_nil) rfl rfl .none ?_
  refine JL.done hQ ?_
  refine JQ.go ?_
  refine JC.seq ?_
  refine JC.region (by rfl) ?_
  intro hQ
  refine JL.fieldAddr fo_25_4 rfl .none rfl ?_
  refine JL.storeOwn 0 (cs := [.slice none 0 0]) az_23 rfl rfl rfl (one_cons rfl one_nil) rfl rfl .none ?_
  refine JL.done hQ ?_
  refine JQ.go ?_
  refine JC.seq ?_
  refine JC.seq ?_
  refine JC.region (by rfl) ?_
  intro hQ
  refine JL.assign .none rfl ?_
  refine JL.done hQ ?_
  refine JQ.go ?_
  refine JC.newNil (e := 41) (sz := 2) ?_
  obtain ⟨r421, hlr421, hKr421⟩ := bind_some hF
  refine JC.join (fun (out_419 : List Fair) H420 f bs gs => ∃ (vout_419 : Value) (xsout_419 : List Value), f 2 = .pointer (some ⟨b2, 0, none⟩) ∧ f 3 = .pointer (some ⟨b3, 0, none⟩) ∧ bs = [(b3, .cells [.int .i64 t.Days, .int .i64 t.Step, v7, .int .i64 t.Wrong, vout_419, .int .i64 t.Reach, .int .i64 t.Stock].toArray 25), (b2, .cells [.int .i64 0, .int .i64 0, .slice none 0 0, .int .i64 0, .slice none 0 0, .int .i64 0, .int .i64 0].toArray 25)] ∧ gs = [⟨vout_419, 41, 2, out_419.length, xsout_419⟩, ⟨v7, 37, 3, l6.length, xs8⟩] ∧ CH H420 2 R_Fair xsout_419 out_419 ∧ HSub H H420 ∧ out_419 = r421) ?_ ?_
  · skip
    refine JC.block ?_
    refine JC.loop hlr421 (fun (x : Int × List Fair) H626 f bs gs => match x with | (i_624, out_625) => ∃ (vout_625 : Value) (xsout_625 : List Value), f 1 = .pointer (some ⟨b1, 0, none⟩) ∧ f 2 = .pointer (some ⟨b2, 0, none⟩) ∧ f 3 = .pointer (some ⟨b3, 0, none⟩) ∧ f 4 = .int .i64 i_624 ∧ bs = [(b3, .cells [.int .i64 t.Days, .int .i64 t.Step, v7, .int .i64 t.Wrong, vout_625, .int .i64 t.Reach, .int .i64 t.Stock].toArray 25), (b2, .cells [.int .i64 0, .int .i64 0, .slice none 0 0, .int .i64 0, .slice none 0 0, .int .i64 0, .int .i64 0].toArray 25), (b1, .cells [.int .i64 t.Days, .int .i64 t.Step, t_v2, .int .i64 t.Wrong, t_v4, .int .i64 t.Reach, .int .i64 t.Stock].toArray 25)] ∧ gs = [⟨vout_625, 41, 2, out_625.length, xsout_625⟩, ⟨v7, 37, 3, l6.length, xs8⟩] ∧ CH H626 2 R_Fair xsout_625 out_625 ∧ HSub H H626) ⟨(.slice none 0 0), [], rfl, rfl, rfl, rfl, rfl, rfl, CH.nil, (HSub.refl _)⟩ ?_
    rintro ⟨i_624, out_625⟩ x628 H626 f bs gs ⟨vout_625, xsout_625, hf1, hf2, hf3, hf4, rfl, rfl, hout_625, hs626⟩ hF hr627
    rw [F_ref11_Copy_s1] at hF
    refine (JC.norm (i := 1) hf1 (JC.norm (i := 2) hf2 (JC.norm (i := 3) hf3 (JC.norm (i := 4) hf4 ?_))))
    refine JC.seq ?_
    refine JC.seq ?_
    refine JC.region (by rfl) ?_
    intro hQ
    refine JL.move .none rfl ?_
    refine JL.fieldAddr fo_25_4 rfl .none rfl ?_
    refine JL.loadOwn 2 az_23 rfl rfl rfl .none rfl ?_
    refine JL.lenSL (R := R_Fair) ul_23 (SL.mono R_Fair_mono hs626 ht_4) .none rfl ?_
    refine JL.bin rfl rfl rfl .none rfl ?_
    refine JL.done hQ ?_
    refine JQ.go ?_
    rcases ite_some hF with ⟨hc629, hF⟩ | ⟨hc629, hF⟩
    · refine JC.cond_t (b := decide (i_624 < (t.Fairs.length : Int))) rfl hc629 ?_
      refine JC.skip ?_
      refine JQ.go ?_
      refine JC.seq ?_
      refine JC.block ?_
      obtain ⟨y635, hy635, hF⟩ := bind_some hF
      obtain ⟨y642, hy642, hF⟩ := bind_some hF
      obtain ⟨l647, hl647, hF⟩ := bind_some hF
      obtain ⟨l656, hl656, hF⟩ := bind_some hF
      refine JC.mixed 20 21 #[false, false, false, false, false, false, false, false, false, false, false, false, false, false, false, false, false, false, false, false, false] [(b3, .cells [.int .i64 t.Days, .int .i64 t.Step, v7, .int .i64 t.Wrong, vout_625, .int .i64 t.Reach, .int .i64 t.Stock].toArray 25), (b2, .cells [.int .i64 0, .int .i64 0, .slice none 0 0, .int .i64 0, .slice none 0 0, .int .i64 0, .int .i64 0].toArray 25), (b1, .cells [.int .i64 t.Days, .int .i64 t.Step, t_v2, .int .i64 t.Wrong, t_v4, .int .i64 t.Reach, .int .i64 t.Stock].toArray 25)] (by rfl) mo_ (by kernel_rfl) (by kernel_rfl) ?_
      intro hQ hE
      refine JA.take 0 (listed' := #[true, false, false, false, false, false, false, false, false, false, false, false, false, false, false, false, false, false, false, false, false]) hQ rfl (by kernel_rfl) (by kernel_rfl) (by kernel_rfl) (by kernel_rfl) (by kernel_rfl) hE (HSub.refl _) (.cons_cons _ (.cons_cons _ (.cons_cons _ (List.nil_sublist _)))) ?_
      refine JL.fieldAddr fo_25_4 rfl .none rfl ?_
      refine JA.cont ?_
      refine JA.take 1 (listed' := #[true, true, false, false, false, false, false, false, false, false, false, false, false, false, false, false, false, false, false, false, false]) hQ rfl (by kernel_rfl) (by kernel_rfl) (by kernel_rfl) (by kernel_rfl) (by kernel_rfl) hE (HSub.refl _) (.cons_cons _ (.cons_cons _ (.cons_cons _ (List.nil_sublist _)))) ?_
      refine JL.loadOwn 0 az_23 rfl rfl rfl .none rfl ?_
      refine JA.cont ?_
      refine JA.take 2 (listed' := #[true, true, true, false, false, false, false, false, false, false, false, false, false, false, false, false, false, false, false, false, false]) hQ rfl (by kernel_rfl) (by kernel_rfl) (by kernel_rfl) (by kernel_rfl) (by kernel_rfl) hE (HSub.refl _) (.cons_cons _ (.cons_cons _ (.cons_cons _ (List.nil_sublist _)))) ?_
      refine JL.fieldAddr fo_25_4 rfl .none rfl ?_
      refine JA.cont ?_
      refine JA.take 3 (listed' := #[true, true, true, true, false, false, false, false, false, false, false, false, false, false, false, false, false, false, false, false, false]) hQ rfl (by kernel_rfl) (by kernel_rfl) (by kernel_rfl) (by kernel_rfl) (by kernel_rfl) hE (HSub.refl _) (.cons_cons _ (.cons_cons _ (.cons_cons _ (List.nil_sublist _)))) ?_
      refine JL.loadOwn 2 az_23 rfl rfl rfl .none rfl ?_
      refine JA.cont ?_
      refine JA.take 4 (listed' := #[true, true, true, true, true, false, false, false, false, false, false, false, false, false, false, false, false, false, false, false, false]) hQ rfl (by kernel_rfl) (by kernel_rfl) (by kernel_rfl) (by kernel_rfl) (by kernel_rfl) hE (HSub.refl _) (.cons_cons _ (.cons_cons _ (.cons_cons _ (List.nil_sublist _)))) ?_
      refine JL.move .none rfl ?_
      refine JA.cont ?_
      refine JA.take 5 (listed' := #[true, true, true, true, true, true, false, false, false, false, false, false, false, false, false, false, false, false, false, false, false]) hQ rfl (by kernel_rfl) (by kernel_rfl) (by kernel_rfl) (by kernel_rfl) (by kernel_rfl) hE (HSub.refl _) (.cons_cons _ (.cons_cons _ (.cons_cons _ (List.nil_sublist _)))) ?_
      refine JL.indexSL (R := R_Fair) sl_23 (SL.mono R_Fair_mono hs626 ht_4) rfl hy635 .none rfl ?_
      rintro b699 o700 cs701 hc702 - ⟨y635_v1, rfl, hy635_1⟩
      refine JA.cont ?_
      refine JA.take 6 (listed' := #[true, true, true, true, true, true, true, false, false, false, false, false, false, false, false, false, false, false, false, false, false]) hQ rfl (by kernel_rfl) (by kernel_rfl) (by kernel_rfl) (by kernel_rfl) (by kernel_rfl) hE (HSub.refl _) (.cons_cons _ (.cons_cons _ (.cons_cons _ (List.nil_sublist _)))) ?_
      refine JL.fieldAddr fo_41_0 rfl .none rfl ?_
      refine JA.cont ?_
      refine JA.take 7 (listed' := #[true, true, true, true, true, true, true, true, false, false, false, false, false, false, false, false, false, false, false, false, false]) hQ rfl (by kernel_rfl) (by kernel_rfl) (by kernel_rfl) (by kernel_rfl) (by kernel_rfl) hE (HSub.refl _) (.cons_cons _ (.cons_cons _ (.cons_cons _ (List.nil_sublist _)))) ?_
      refine JL.loadH 0 az_3 rfl hc702 rfl .none rfl ?_
      refine JA.cont ?_
      refine JA.take 9 (listed' := #[true, true, true, true, true, true, true, true, false, true, false, false, false, false, false, false, false, false, false, false, false]) hQ rfl (by kernel_rfl) (by kernel_rfl) (by kernel_rfl) (by kernel_rfl) (by kernel_rfl) hE (HSub.refl _) (.cons_cons _ (.cons_cons _ (.cons_cons _ (List.nil_sublist _)))) ?_
      refine JL.fieldAddr fo_25_4 rfl .none rfl ?_
      refine JA.cont ?_
      refine JA.take 10 (listed' := #[true, true, true, true, true, true, true, true, false, true, true, false, false, false, false, false, false, false, false, false, false]) hQ rfl (by kernel_rfl) (by kernel_rfl) (by kernel_rfl) (by kernel_rfl) (by kernel_rfl) hE (HSub.refl _) (.cons_cons _ (.cons_cons _ (.cons_cons _ (List.nil_sublist _)))) ?_
      refine JL.loadOwn 2 az_23 rfl rfl rfl .none rfl ?_
      refine JA.cont ?_
      refine JA.take 11 (listed' := #[true, true, true, true, true, true, true, true, false, true, true, true, false, false, false, false, false, false, false, false, false]) hQ rfl (by kernel_rfl) (by kernel_rfl) (by kernel_rfl) (by kernel_rfl) (by kernel_rfl) hE (HSub.refl _) (.cons_cons _ (.cons_cons _ (.cons_cons _ (List.nil_sublist _)))) ?_
      refine JL.move .none rfl ?_
      refine JA.cont ?_
      refine JA.take 12 (listed' := #[true, true, true, true, true, true, true, true, false, true, true, true, true, false, false, false, false, false, false, false, false]) hQ rfl (by kernel_rfl) (by kernel_rfl) (by kernel_rfl) (by kernel_rfl) (by kernel_rfl) hE (HSub.refl _) (.cons_cons _ (.cons_cons _ (.cons_cons _ (List.nil_sublist _)))) ?_
      refine JL.indexSL (R := R_Fair) sl_23 (SL.mono R_Fair_mono hs626 ht_4) rfl hy642 .none rfl ?_
      rintro b707 o708 cs709 hc710 - ⟨y642_v1, rfl, hy642_1⟩
      refine JA.cont ?_
      refine JA.take 13 (listed' := #[true, true, true, true, true, true, true, true, false, true, true, true, true, true, false, false, false, false, false, false, false]) hQ rfl (by kernel_rfl) (by kernel_rfl) (by kernel_rfl) (by kernel_rfl) (by kernel_rfl) hE (HSub.refl _) (.cons_cons _ (.cons_cons _ (.cons_cons _ (List.nil_sublist _)))) ?_
      refine JL.fieldAddr fo_41_1 rfl .none rfl ?_
      refine JA.cont ?_
      refine JA.take 14 (listed' := #[true, true, true, true, true, true, true, true, false, true, true, true, true, true, true, false, false, false, false, false, false]) hQ rfl (by kernel_rfl) (by kernel_rfl) (by kernel_rfl) (by kernel_rfl) (by kernel_rfl) hE (HSub.refl _) (.cons_cons _ (.cons_cons _ (.cons_cons _ (List.nil_sublist _)))) ?_
      refine JL.loadH 1 az_26 rfl hc710 rfl .none rfl ?_
      refine JA.cont ?_
      refine JA.many [8] (by kernel_rfl) (by simp) (all_one ⟨_, #[true, true, true, true, true, true, true, true, true, true, true, true, true, true, true, false, false, false, false, false, false], rfl, (by kernel_rfl), ?_⟩)
      refine JL.emptySlice ap_26 .none rfl ?_
      intro v711
      refine JA.after hE (HSub.refl _) (.cons_cons _ (.cons_cons _ (.cons_cons _ (List.nil_sublist _)))) ?_
      refine JA.many [15] (by kernel_rfl) (by simp) (all_one ⟨_, #[true, true, true, true, true, true, true, true, true, true, true, true, true, true, true, true, false, false, false, false, false], rfl, (by kernel_rfl), ?_⟩)
      refine JL.appD (R := RInt) 0 (l := ([] : List Int)) (m := y642.Sells) ap_26 rfl ⟨rfl, rfl⟩ rfl CH.nil rfl hy642_1 (RInt.one _) hl647 .none rfl ?_
      intro v713 xs714 hch715
      refine JA.after hE (HSub.refl _) (.cons_cons _ (.cons_cons _ (.cons_cons _ (List.nil_sublist _)))) ?_
      refine JA.many [16] (by kernel_rfl) (by simp) (all_one ⟨_, #[true, true, true, true, true, true, true, true, true, true, true, true, true, true, true, true, true, false, false, false, false], rfl, (by kernel_rfl), ?_⟩)
      refine JL.formG 0 rfl (fun a716 n717 c718 hh719 => ?_)
      dsimp only at hh719
      subst hh719
      refine JL.build (l := [.int .i64 y635.Price, (.slice a716 n717 c718)]) (by kernel_rfl) .none rfl ?_
      refine JA.after hE (HSub.refl _) (.cons_cons _ (.cons_cons _ (.cons_cons _ (List.nil_sublist _)))) ?_
      refine JA.many [17] (by kernel_rfl) (by simp) (all_one ⟨_, #[true, true, true, true, true, true, true, true, true, true, true, true, true, true, true, true, true, true, false, false, false], rfl, (by kernel_rfl), ?_⟩)
      refine JL.buildSlice (e := 41) (l := [.int .i64 y635.Price, (.slice a716 n717 c718)]) (by kernel_rfl) .none rfl ?_
      intro b720
      refine JA.after hE (HSub.refl _) (.cons _ (.cons_cons _ (.cons_cons _ (.cons_cons _ (List.nil_sublist _))))) ?_
      refine JA.many [18] (by kernel_rfl) (by simp) (all_one ⟨_, #[true, true, true, true, true, true, true, true, true, true, true, true, true, true, true, true, true, true, true, false, false], rfl, (by kernel_rfl), ?_⟩)
      refine JL.freezeG 0 (R := RInt) rfl RInt.mono hch715 rfl ?_
      intro H721 hs721 hg722
      refine JL.appO (R := R_Fair) 0 0 (l := out_625) (m := [(Fair.mk y635.Price l647)]) ap_23 rfl ⟨rfl, rfl⟩ rfl (CH.mono R_Fair_mono hs721 hout_625) rfl rfl rfl (CH.cons (cs := [.int .i64 y635.Price, (.slice a716 n717 c718)]) rfl ⟨(.slice a716 n717 c718), rfl, hg722⟩ CH.nil) rfl (one_cons rfl (one_cons (SL.one hg722) one_nil)) hl656 .none rfl ?_
      intro v723 xs724 hch725
      refine JA.after hE hs721 (.cons _ (.cons_cons _ (.cons_cons _ (.cons_cons _ (List.nil_sublist _))))) ?_
      refine JA.take 19 (listed' := #[true, true, true, true, true, true, true, true, true, true, true, true, true, true, true, true, true, true, true, true, false]) hQ rfl (by kernel_rfl) (by kernel_rfl) (by kernel_rfl) (by kernel_rfl) (by kernel_rfl) hE hs721 (.cons _ (.cons_cons _ (.cons_cons _ (.cons_cons _ (List.nil_sublist _))))) ?_
      refine JL.fieldAddr fo_25_4 rfl .none rfl ?_
      refine JA.cont ?_
      refine JA.many [20] (by kernel_rfl) (by simp) (all_one ⟨_, #[true, true, true, true, true, true, true, true, true, true, true, true, true, true, true, true, true, true, true, true, true], rfl, (by kernel_rfl), ?_⟩)
      refine JL.oneG 0 rfl (fun ho726 => ?_)
      refine JL.storeOwn 1 (cs := [v723]) az_23 rfl ho726.2 rfl (one_cons ho726.1 one_nil) rfl rfl .none ?_
      refine JA.sink (by kernel_rfl) ?_
      refine JA.done hQ (by kernel_rfl) ?_
      refine JQ.normal_block ?_
      refine JQ.go ?_
      refine JC.fresh (fun f => f 1 = .pointer (some ⟨b1, 0, none⟩) ∧ f 2 = .pointer (some ⟨b2, 0, none⟩) ∧ f 3 = .pointer (some ⟨b3, 0, none⟩) ∧ f 4 = .int .i64 i_624) ⟨rfl, rfl, rfl, rfl⟩ ?_
      rintro f ⟨hf1, hf2, hf3, hf4⟩
      refine (JC.norm (i := 1) hf1 (JC.norm (i := 2) hf2 (JC.norm (i := 3) hf3 (JC.norm (i := 4) hf4 ?_))))
      refine JC.region (by rfl) ?_
      intro hQ
      refine JL.move .none rfl ?_
      refine JL.bin rfl rfl rfl .none rfl ?_
      refine JL.assign .none rfl ?_
      refine JL.done hQ ?_
      obtain rfl := Option.some.inj hF
      refine JQ.mask [false, true, true, true] [true, true] ?_
      exact JQ.next rfl ⟨v723, xs724, rfl, rfl, rfl, rfl, rfl, rfl, hch725, (HSub.trans hs626 hs721)⟩
    · refine JC.cond_f (b := decide (i_624 < (t.Fairs.length : Int))) rfl hc629 ?_
      refine JC.exit ?_
      refine JQ.exit_then ?_
      refine JQ.exit_then ?_
      refine JQ.exit_block ?_
      obtain rfl := Option.some.inj hF
      have ehr627 := hr627 _ rfl
      subst ehr627
      refine JQ.mask [true, true, false] [true, true] ?_
      exact JQ.join out_625 ⟨vout_625, xsout_625, rfl, rfl, rfl, rfl, hout_625, hs626, rfl⟩
  · rintro out_419 H420 f bs gs ⟨vout_419, xsout_419, hf2, hf3, rfl, rfl, hout_419, hs420, rfl⟩
    have hF := hKr421
    try dsimp only at hF
    refine (JQ.norm (i := 2) hf2 (JQ.norm (i := 3) hf3 ?_))
    refine JQ.go ?_
    refine JC.seq ?_
    refine JC.region (by rfl) ?_
    intro hQ
    refine JL.loadOwn 0 az_25 rfl rfl rfl .none rfl ?_
    refine JL.oneG 1 rfl (fun ho727 => ?_)
    refine JL.oneG 0 rfl (fun ho728 => ?_)
    refine JL.storeOwn 1 (cs := [.int .i64 t.Days, .int .i64 t.Step, v7, .int .i64 t.Wrong, vout_419, .int .i64 t.Reach, .int .i64 t.Stock]) az_25 rfl rfl rfl (one_cons rfl (one_cons rfl (one_cons ho727.1 (one_cons rfl (one_cons ho728.1 (one_cons rfl (one_cons rfl one_nil))))))) rfl rfl .none ?_
    refine JL.done hQ ?_
    refine JQ.go ?_
    refine JC.ret ?_
    obtain rfl := Option.some.inj hF
    exact JQ.outX rfl (.cell 1 az_25 rfl rfl rfl .nil) ⟨v7, xs8, vout_419, xsout_419, rfl, rfl, (CH.mono R_Rain_mono hs420 hch9), hout_419⟩

-- 5 ferrule/ferrulelaw11.RainsLost
def F_law11_RainsLost_s1 (n : Nat)  : Int × List Fair → Option ((Int × List Fair) ⊕ (List Fair))
  | (i_70, out_71) => if decide (i_70 < (out_71.length : Int)) = true then ((geti out_71 i_70).bind fun y76 => some (Sum.inl ((w64 (i_70 + 1)), (setx out_71 i_70 (Fair.mk 1 y76.Sells))))) else (some (Sum.inr out_71))
def F_law11_RainsLost (n : Nat) (t : Tour) (route : List Int) : Option Bool :=
  (F_law11_ready n t).bind fun y2 => (if ((!y2) || (decide (20 < (route.length : Int)))) = true then (some true) else ((F_ref11_IsRoute n t route).bind fun y9 => some (!y9)) : Option Bool).bind fun p6 => if p6 = true then ((F_law11_works n).bind fun y11 => some y11) else ((F_ref11_Copy n t).bind fun y12 => (loopO n (F_law11_RainsLost_s1 n) (0, y12.Fairs)).bind fun out_49 => (F_rains_Takes n (Tour.mk y12.Days y12.Step y12.Rains y12.Wrong out_49 y12.Reach y12.Stock) route).bind fun y85 => (F_rains_Left n (Tour.mk y12.Days y12.Step y12.Rains y12.Wrong out_49 y12.Reach y12.Stock) route).bind fun y87 => (F_rains_Left n t route).bind fun y89 => (F_law11_isKnown n y85.2).bind fun y91 => if (((!y91) || (y85.2 != y87.2)) || (y85.2 != y89.2)) = true then (some false) else ((if ((y85.2 != 0) || (((((w64 (y85.1.Low + y87.1.High)) == t.Stock) && ((w64 (y85.1.High + y87.1.Low)) == t.Stock)) && ((y87.1.Low == y89.1.Low) && (y87.1.High == y89.1.High))) && (decide (0 ≤ y87.1.Low)))) = true then ((F_law11_works n).bind fun y115 => some y115) else (some false) : Option Bool).bind fun p112 => some p112))
set_option maxRecDepth 100000 in
set_option maxHeartbeats 40000000 in
theorem c_law11_RainsLost (n : Nat) (H : Hp) (t : Tour) (t_v2 : Value) (ht_2 : SL H 3 R_Rain t_v2 t.Rains) (t_v4 : Value) (ht_4 : SL H 2 R_Fair t_v4 t.Fairs) (route : List Int) (route_v0 : Value) (hroute_0 : SL H 1 RInt route_v0 route) (y : Bool) (hF : F_law11_RainsLost n t route = some y) : SC Try.prog 5 [.agg [.int .i64 t.Days, .int .i64 t.Step, t_v2, .int .i64 t.Wrong, t_v4, .int .i64 t.Reach, .int .i64 t.Stock].toArray, route_v0] (.bool y) H := by
  rw [F_law11_RainsLost] at hF
  refine SC.of (N := 108) Try.func5 rfl rfl rfl fun w => ?_
  refine JC.seq ?_
  refine JC.region (by rfl) ?_
  intro hQ
  refine JL.box (cs := [.int .i64 t.Days, .int .i64 t.Step, t_v2, .int .i64 t.Wrong, t_v4, .int .i64 t.Reach, .int .i64 t.Stock]) rfl .none rfl ?_
  intro b1
  refine JL.assign .none rfl ?_
  refine JL.done hQ ?_
  refine JQ.go ?_
  refine JC.seq ?_
  refine JC.seq ?_
  refine JC.region (by rfl) ?_
  intro hQ
  refine JL.loadOwn 0 az_25 rfl rfl rfl .none rfl ?_
  obtain ⟨y2, hy2, hF⟩ := bind_some hF
  refine JL.callS (c_law11_ready n H t t_v2 ht_2 t_v4 ht_4 y2 hy2) rfl en_19 .none rfl ?_
  refine JL.not rfl .none rfl ?_
  refine JL.move .none rfl ?_
  refine JL.cut 4 (fun f => f 1 = route_v0 ∧ f 2 = .pointer (some ⟨b1, 0, none⟩) ∧ f 20 = .bool ((!y2) || (decide (20 < (route.length : Int))))) ?_ ?_
  · intro hJ3
    rcases bcases (!y2) with hc4 | hc4
    · skip
      refine JL.skip (.bool rfl rfl rfl hc4) rfl ?_
      refine JL.skip (.bool rfl rfl rfl hc4) rfl ?_
      refine JL.skip (.bool rfl rfl rfl hc4) rfl ?_
      refine JL.pick_t (b := (!y2)) rfl hc4 .none rfl ?_
      exact hJ3 _ ⟨rfl, rfl, or_t hc4 rfl⟩
    · skip
      refine JL.move (.some rfl rfl rfl hc4) rfl ?_
      refine JL.lenSL (R := RInt) ul_26 hroute_0 (.some rfl rfl rfl hc4) rfl ?_
      refine JL.bin rfl rfl rfl (.some rfl rfl rfl hc4) rfl ?_
      refine JL.pick_f (b := (!y2)) rfl hc4 .none rfl ?_
      exact hJ3 _ ⟨rfl, rfl, or_f hc4 rfl⟩
  · rintro f ⟨hf1, hf2, hf20⟩
    refine (JL.norm (i := 1) hf1 (JL.norm (i := 2) hf2 (JL.norm (i := 20) hf20 ?_)))
    refine JL.move .none rfl ?_
    obtain ⟨p6, hp6, hF⟩ := bind_some hF
    refine JL.cut 5 (fun f => f 1 = route_v0 ∧ f 2 = .pointer (some ⟨b1, 0, none⟩) ∧ f 26 = .bool p6) ?_ ?_
    · intro hJ7
      rcases ite_some hp6 with ⟨hc8, hF⟩ | ⟨hc8, hF⟩
      · skip
        refine JL.skip (.bool rfl rfl rfl hc8) rfl ?_
        refine JL.skip (.bool rfl rfl rfl hc8) rfl ?_
        refine JL.skip (.bool rfl rfl rfl hc8) rfl ?_
        refine JL.skip (.bool rfl rfl rfl hc8) rfl ?_
        refine JL.pick_t (b := ((!y2) || (decide (20 < (route.length : Int))))) rfl hc8 .none rfl ?_
        obtain rfl := Option.some.inj hF
        exact hJ7 _ ⟨rfl, rfl, rfl⟩
      · skip
        refine JL.loadOwn 0 az_25 rfl rfl rfl (.some rfl rfl rfl hc8) rfl ?_
        refine JL.move (.some rfl rfl rfl hc8) rfl ?_
        obtain ⟨y9, hy9, hF⟩ := bind_some hF
        refine JL.callS (c_ref11_IsRoute n H t t_v2 ht_2 t_v4 ht_4 route route_v0 hroute_0 y9 hy9) rfl en_20 (.some rfl rfl rfl hc8) rfl ?_
        refine JL.not rfl (.some rfl rfl rfl hc8) rfl ?_
        refine JL.pick_f (b := ((!y2) || (decide (20 < (route.length : Int))))) rfl hc8 .none rfl ?_
        obtain rfl := Option.some.inj hF
        exact hJ7 _ ⟨rfl, rfl, rfl⟩
    · rintro f ⟨hf1, hf2, hf26⟩
      refine (JL.norm (i := 1) hf1 (JL.norm (i := 2) hf2 (JL.norm (i := 26) hf26 ?_)))
      refine JL.done hQ ?_
      refine JQ.go ?_
      rcases ite_some hF with ⟨hc10, hF⟩ | ⟨hc10, hF⟩
      · refine JC.cond_t (b := p6) rfl hc10 ?_
        refine JC.seq ?_
        refine JC.region (by rfl) ?_
        intro hQ
        obtain ⟨y11, hy11, hF⟩ := bind_some hF
        refine JL.callS (c_law11_works n H y11 hy11) rfl en_13 .none rfl ?_
        refine JL.assign .none rfl ?_
        refine JL.done hQ ?_
        refine JQ.go ?_
        refine JC.ret ?_
        refine JQ.ret_then ?_
        obtain rfl := Option.some.inj hF
        exact JQ.outS rfl (.tmp .nil) rfl
      · refine JC.cond_f (b := p6) rfl hc10 ?_
        refine JC.skip ?_
        refine JQ.go ?_
        refine JC.seq ?_
        refine JC.region (by rfl) ?_
        intro hQ
        refine JL.loadOwn 0 az_25 rfl rfl rfl .none rfl ?_
        obtain ⟨y12, hy12, hF⟩ := bind_some hF
        refine JL.callXC (x_ref11_Copy n H t t_v2 ht_2 t_v4 ht_4 y12 hy12) rfl en_14 .none rfl ?_
        rintro H13 vv14 _ hs13 ⟨y12_v0, y12_xs0, y12_v1, y12_xs1, rfl, rfl, hy12_0, hy12_1⟩
        refine JL.alloc ze_25 .none rfl ?_
        intro b17
        refine JL.oneG 1 rfl (fun ho18 => ?_)
        refine JL.oneG 0 rfl (fun ho19 => ?_)
        refine JL.storeOwn 0 (cs := [.int .i64 y12.Days, .int .i64 y12.Step, y12_v0, .int .i64 y12.Wrong, y12_v1, .int .i64 y12.Reach, .int .i64 y12.Stock]) az_25 rfl rfl rfl (one_cons rfl (one_cons rfl (one_cons ho18.1 (one_cons rfl (one_cons ho19.1 (one_cons rfl (one_cons rfl one_nil))))))) rfl rfl .none ?_
        refine JL.done hQ ?_
        refine JQ.go ?_
        refine JC.seq ?_
        refine JC.seq ?_
        refine JC.region (by rfl) ?_
        intro hQ
        refine JL.assign .none rfl ?_
        refine JL.done hQ ?_
        refine JQ.go ?_
        obtain ⟨r51, hlr51, hKr51⟩ := bind_some hF
        refine JC.join (fun (out_49 : List Fair) H50 f bs gs => ∃ (vout_49 : Value) (xsout_49 : List Value), f 1 = route_v0 ∧ f 2 = .pointer (some ⟨b1, 0, none⟩) ∧ f 5 = .pointer (some ⟨b17, 0, none⟩) ∧ bs = [(b17, .cells [.int .i64 y12.Days, .int .i64 y12.Step, y12_v0, .int .i64 y12.Wrong, vout_49, .int .i64 y12.Reach, .int .i64 y12.Stock].toArray 25), (b1, .cells [.int .i64 t.Days, .int .i64 t.Step, t_v2, .int .i64 t.Wrong, t_v4, .int .i64 t.Reach, .int .i64 t.Stock].toArray 25)] ∧ gs = [⟨vout_49, 41, 2, out_49.length, xsout_49⟩, ⟨y12_v0, 37, 3, y12.Rains.length, y12_xs0⟩] ∧ CH H50 2 R_Fair xsout_49 out_49 ∧ HSub H13 H50 ∧ out_49 = r51) ?_ ?_
        · skip
          refine JC.block ?_
          refine JC.loop hlr51 (fun (x : Int × List Fair) H72 f bs gs => match x with | (i_70, out_71) => ∃ (vout_71 : Value) (xsout_71 : List Value), f 1 = route_v0 ∧ f 2 = .pointer (some ⟨b1, 0, none⟩) ∧ f 5 = .pointer (some ⟨b17, 0, none⟩) ∧ f 6 = .int .i64 i_70 ∧ bs = [(b17, .cells [.int .i64 y12.Days, .int .i64 y12.Step, y12_v0, .int .i64 y12.Wrong, vout_71, .int .i64 y12.Reach, .int .i64 y12.Stock].toArray 25), (b1, .cells [.int .i64 t.Days, .int .i64 t.Step, t_v2, .int .i64 t.Wrong, t_v4, .int .i64 t.Reach, .int .i64 t.Stock].toArray 25)] ∧ gs = [⟨vout_71, 41, 2, out_71.length, xsout_71⟩, ⟨y12_v0, 37, 3, y12.Rains.length, y12_xs0⟩] ∧ CH H72 2 R_Fair xsout_71 out_71 ∧ HSub H13 H72) ⟨y12_v1, y12_xs1, rfl, rfl, rfl, rfl, rfl, rfl, hy12_1, (HSub.refl _)⟩ ?_
          rintro ⟨i_70, out_71⟩ x74 H72 f bs gs ⟨vout_71, xsout_71, hf1, hf2, hf5, hf6, rfl, rfl, hout_71, hs72⟩ hF hr73
          rw [F_law11_RainsLost_s1] at hF
          refine (JC.norm (i := 1) hf1 (JC.norm (i := 2) hf2 (JC.norm (i := 5) hf5 (JC.norm (i := 6) hf6 ?_))))
          refine JC.seq ?_
          refine JC.seq ?_
          refine JC.region (by rfl) ?_
          intro hQ
          refine JL.move .none rfl ?_
          refine JL.fieldAddr fo_25_4 rfl .none rfl ?_
          refine JL.loadOwn 0 az_23 rfl rfl rfl .none rfl ?_
          refine JL.lenG 0 ul_23 rfl rfl .none rfl ?_
          refine JL.bin rfl rfl rfl .none rfl ?_
          refine JL.done hQ ?_
          refine JQ.go ?_
          rcases ite_some hF with ⟨hc75, hF⟩ | ⟨hc75, hF⟩
          · refine JC.cond_t (b := decide (i_70 < (out_71.length : Int))) rfl hc75 ?_
            refine JC.skip ?_
            refine JQ.go ?_
            refine JC.seq ?_
            refine JC.block ?_
            refine JC.region (by rfl) ?_
            intro hQ
            refine JL.fieldAddr fo_25_4 rfl .none rfl ?_
            refine JL.loadOwn 0 az_23 rfl rfl rfl .none rfl ?_
            refine JL.move .none rfl ?_
            obtain ⟨y76, hy76, hF⟩ := bind_some hF
            refine JL.indexG 0 (l := out_71) sl_23 rfl rfl rfl rfl hy76 .none rfl ?_
            intro b77 hb78
            refine JL.fieldAddr fo_41_0 rfl .none rfl ?_
            refine JL.storeG (R := R_Fair) 0 (i := i_70) (l := out_71) (y := y76) (y' := (Fair.mk 1 y76.Sells)) (off := 0) az_3 rfl rfl rfl rfl (one_cons rfl one_nil) rfl hb78 hout_71 rfl hy76 rfl (by rintro cs ⟨v0_, rfl, h0_⟩; exact ⟨v0_, rfl, h0_⟩) .none ?_
            intro xs79 hch80
            refine JL.done hQ ?_
            refine JQ.normal_block ?_
            refine JQ.go ?_
            refine JC.fresh (fun f => f 1 = route_v0 ∧ f 2 = .pointer (some ⟨b1, 0, none⟩) ∧ f 5 = .pointer (some ⟨b17, 0, none⟩) ∧ f 6 = .int .i64 i_70) ⟨rfl, rfl, rfl, rfl⟩ ?_
            rintro f ⟨hf1, hf2, hf5, hf6⟩
            refine (JC.norm (i := 1) hf1 (JC.norm (i := 2) hf2 (JC.norm (i := 5) hf5 (JC.norm (i := 6) hf6 ?_))))
            refine JC.region (by rfl) ?_
            intro hQ
            refine JL.move .none rfl ?_
            refine JL.bin rfl rfl rfl .none rfl ?_
            refine JL.assign .none rfl ?_
            refine JL.done hQ ?_
            obtain rfl := Option.some.inj hF
            exact JQ.next rfl ⟨vout_71, xs79, rfl, rfl, rfl, rfl, rfl, rfl, hch80, hs72⟩
          · refine JC.cond_f (b := decide (i_70 < (out_71.length : Int))) rfl hc75 ?_
            refine JC.exit ?_
            refine JQ.exit_then ?_
            refine JQ.exit_then ?_
            refine JQ.exit_block ?_
            obtain rfl := Option.some.inj hF
            have ehr73 := hr73 _ rfl
            subst ehr73
            exact JQ.join out_71 ⟨vout_71, xsout_71, rfl, rfl, rfl, rfl, rfl, hout_71, hs72, rfl⟩
        · rintro out_49 H50 f bs gs ⟨vout_49, xsout_49, hf1, hf2, hf5, rfl, rfl, hout_49, hs50, rfl⟩
          have hF := hKr51
          try dsimp only at hF
          refine (JQ.norm (i := 1) hf1 (JQ.norm (i := 2) hf2 (JQ.norm (i := 5) hf5 ?_)))
          refine JQ.go ?_
          refine JC.seq ?_
          refine JC.region (by rfl) ?_
          intro hQ
          refine JL.loadOwn 0 az_25 rfl rfl rfl .none rfl ?_
          refine JL.move .none rfl ?_
          refine JL.freezeG 1 (R := R_Rain) rfl R_Rain_mono (CH.mono R_Rain_mono hs50 hy12_0) rfl ?_
          intro H81 hs81 hg82
          refine JL.freezeG 0 (R := R_Fair) rfl R_Fair_mono (CH.mono R_Fair_mono hs81 hout_49) rfl ?_
          intro H83 hs83 hg84
          obtain ⟨y85, hy85, hF⟩ := bind_some hF
          refine JL.callS (c_rains_Takes n H83 (Tour.mk y12.Days y12.Step y12.Rains y12.Wrong out_49 y12.Reach y12.Stock) y12_v0 (SL.mono R_Rain_mono hs83 hg82) vout_49 hg84 route route_v0 (SL.mono RInt.mono (HSub.trans hs13 (HSub.trans hs50 (HSub.trans hs81 hs83))) hroute_0) y85 hy85) rfl en_15 .none rfl ?_
          refine JL.move .none rfl ?_
          refine JL.extract rfl rfl .none rfl ?_
          refine JL.extract rfl rfl .none rfl ?_
          refine JL.alloc ze_31 .none rfl ?_
          intro b86
          refine JL.storeOwn 0 (cs := [.int .i64 y85.1.Low, .int .i64 y85.1.High]) az_31 rfl rfl rfl (one_cons rfl (one_cons rfl one_nil)) rfl rfl .none ?_
          refine JL.assign .none rfl ?_
          refine JL.done hQ ?_
          refine JQ.go ?_
          refine JC.seq ?_
          refine JC.region (by rfl) ?_
          intro hQ
          refine JL.loadOwn 1 az_25 rfl rfl rfl .none rfl ?_
          refine JL.move .none rfl ?_
          obtain ⟨y87, hy87, hF⟩ := bind_some hF
          refine JL.callS (c_rains_Left n H83 (Tour.mk y12.Days y12.Step y12.Rains y12.Wrong out_49 y12.Reach y12.Stock) y12_v0 (SL.mono R_Rain_mono hs83 hg82) vout_49 hg84 route route_v0 (SL.mono RInt.mono (HSub.trans hs13 (HSub.trans hs50 (HSub.trans hs81 hs83))) hroute_0) y87 hy87) rfl en_17 .none rfl ?_
          refine JL.move .none rfl ?_
          refine JL.extract rfl rfl .none rfl ?_
          refine JL.extract rfl rfl .none rfl ?_
          refine JL.alloc ze_31 .none rfl ?_
          intro b88
          refine JL.storeOwn 0 (cs := [.int .i64 y87.1.Low, .int .i64 y87.1.High]) az_31 rfl rfl rfl (one_cons rfl (one_cons rfl one_nil)) rfl rfl .none ?_
          refine JL.assign .none rfl ?_
          refine JL.done hQ ?_
          refine JQ.go ?_
          refine JC.fresh (fun f => f 1 = route_v0 ∧ f 2 = .pointer (some ⟨b1, 0, none⟩) ∧ f 7 = .pointer (some ⟨b86, 0, none⟩) ∧ f 8 = .int .i64 y85.2 ∧ f 9 = .pointer (some ⟨b88, 0, none⟩) ∧ f 10 = .int .i64 y87.2) ⟨rfl, rfl, rfl, rfl, rfl, rfl⟩ ?_
          rintro f ⟨hf1, hf2, hf7, hf8, hf9, hf10⟩
          refine (JC.norm (i := 1) hf1 (JC.norm (i := 2) hf2 (JC.norm (i := 7) hf7 (JC.norm (i := 8) hf8 (JC.norm (i := 9) hf9 (JC.norm (i := 10) hf10 ?_))))))
          refine JC.seq ?_
          refine JC.region (by rfl) ?_
          intro hQ
          refine JL.loadOwn 3 az_25 rfl rfl rfl .none rfl ?_
          refine JL.move .none rfl ?_
          obtain ⟨y89, hy89, hF⟩ := bind_some hF
          refine JL.callS (c_rains_Left n H83 t t_v2 (SL.mono R_Rain_mono (HSub.trans hs13 (HSub.trans hs50 (HSub.trans hs81 hs83))) ht_2) t_v4 (SL.mono R_Fair_mono (HSub.trans hs13 (HSub.trans hs50 (HSub.trans hs81 hs83))) ht_4) route route_v0 (SL.mono RInt.mono (HSub.trans hs13 (HSub.trans hs50 (HSub.trans hs81 hs83))) hroute_0) y89 hy89) rfl en_17 .none rfl ?_
          refine JL.move .none rfl ?_
          refine JL.extract rfl rfl .none rfl ?_
          refine JL.extract rfl rfl .none rfl ?_
          refine JL.alloc ze_31 .none rfl ?_
          intro b90
          refine JL.storeOwn 0 (cs := [.int .i64 y89.1.Low, .int .i64 y89.1.High]) az_31 rfl rfl rfl (one_cons rfl (one_cons rfl one_nil)) rfl rfl .none ?_
          refine JL.assign .none rfl ?_
          refine JL.done hQ ?_
          refine JQ.go ?_
          refine JC.seq ?_
          refine JC.seq ?_
          refine JC.region (by rfl) ?_
          intro hQ
          refine JL.move .none rfl ?_
          obtain ⟨y91, hy91, hF⟩ := bind_some hF
          refine JL.callS (c_law11_isKnown n H83 y85.2 y91 hy91) rfl en_22 .none rfl ?_
          refine JL.not rfl .none rfl ?_
          refine JL.move .none rfl ?_
          refine JL.cut 4 (fun f => f 2 = .pointer (some ⟨b1, 0, none⟩) ∧ f 7 = .pointer (some ⟨b86, 0, none⟩) ∧ f 8 = .int .i64 y85.2 ∧ f 9 = .pointer (some ⟨b88, 0, none⟩) ∧ f 11 = .pointer (some ⟨b90, 0, none⟩) ∧ f 12 = .int .i64 y89.2 ∧ f 67 = .bool ((!y91) || (y85.2 != y87.2))) ?_ ?_
          · intro hJ92
            rcases bcases (!y91) with hc93 | hc93
            · skip
              refine JL.skip (.bool rfl rfl rfl hc93) rfl ?_
              refine JL.skip (.bool rfl rfl rfl hc93) rfl ?_
              refine JL.skip (.bool rfl rfl rfl hc93) rfl ?_
              refine JL.pick_t (b := (!y91)) rfl hc93 .none rfl ?_
              exact hJ92 _ ⟨rfl, rfl, rfl, rfl, rfl, rfl, or_t hc93 rfl⟩
            · skip
              refine JL.move (.some rfl rfl rfl hc93) rfl ?_
              refine JL.move (.some rfl rfl rfl hc93) rfl ?_
              refine JL.bin rfl rfl rfl (.some rfl rfl rfl hc93) rfl ?_
              refine JL.pick_f (b := (!y91)) rfl hc93 .none rfl ?_
              exact hJ92 _ ⟨rfl, rfl, rfl, rfl, rfl, rfl, or_f hc93 rfl⟩
          · rintro f ⟨hf2, hf7, hf8, hf9, hf11, hf12, hf67⟩
            refine (JL.norm (i := 2) hf2 (JL.norm (i := 7) hf7 (JL.norm (i := 8) hf8 (JL.norm (i := 9) hf9 (JL.norm (i := 11) hf11 (JL.norm (i := 12) hf12 (JL.norm (i := 67) hf67 ?_)))))))
            refine JL.move .none rfl ?_
            refine JL.cut 4 (fun f => f 2 = .pointer (some ⟨b1, 0, none⟩) ∧ f 7 = .pointer (some ⟨b86, 0, none⟩) ∧ f 8 = .int .i64 y85.2 ∧ f 9 = .pointer (some ⟨b88, 0, none⟩) ∧ f 11 = .pointer (some ⟨b90, 0, none⟩) ∧ f 72 = .bool (((!y91) || (y85.2 != y87.2)) || (y85.2 != y89.2))) ?_ ?_
            · intro hJ94
              rcases bcases ((!y91) || (y85.2 != y87.2)) with hc95 | hc95
              · skip
                refine JL.skip (.bool rfl rfl rfl hc95) rfl ?_
                refine JL.skip (.bool rfl rfl rfl hc95) rfl ?_
                refine JL.skip (.bool rfl rfl rfl hc95) rfl ?_
                refine JL.pick_t (b := ((!y91) || (y85.2 != y87.2))) rfl hc95 .none rfl ?_
                exact hJ94 _ ⟨rfl, rfl, rfl, rfl, rfl, or_t hc95 rfl⟩
              · skip
                refine JL.move (.some rfl rfl rfl hc95) rfl ?_
                refine JL.move (.some rfl rfl rfl hc95) rfl ?_
                refine JL.bin rfl rfl rfl (.some rfl rfl rfl hc95) rfl ?_
                refine JL.pick_f (b := ((!y91) || (y85.2 != y87.2))) rfl hc95 .none rfl ?_
                exact hJ94 _ ⟨rfl, rfl, rfl, rfl, rfl, or_f hc95 rfl⟩
            · rintro f ⟨hf2, hf7, hf8, hf9, hf11, hf72⟩
              refine (JL.norm (i := 2) hf2 (JL.norm (i := 7) hf7 (JL.norm (i := 8) hf8 (JL.norm (i := 9) hf9 (JL.norm (i := 11) hf11 (JL.norm (i := 72) hf72 ?_))))))
              refine JL.done hQ ?_
              refine JQ.go ?_
              rcases ite_some hF with ⟨hc96, hF⟩ | ⟨hc96, hF⟩
              · refine JC.cond_t (b := (((!y91) || (y85.2 != y87.2)) || (y85.2 != y89.2))) rfl hc96 ?_
                refine JC.seq ?_
                refine JC.region (by rfl) ?_
                intro hQ
                refine JL.assign .none rfl ?_
                refine JL.done hQ ?_
                refine JQ.go ?_
                refine JC.ret ?_
                refine JQ.ret_then ?_
                obtain rfl := Option.some.inj hF
                exact JQ.outS rfl (.tmp .nil) rfl
              · refine JC.cond_f (b := (((!y91) || (y85.2 != y87.2)) || (y85.2 != y89.2))) rfl hc96 ?_
                refine JC.skip ?_
                refine JQ.go ?_
                refine JC.seq ?_
                refine JC.region (by rfl) ?_
                intro hQ
                refine JL.move .none rfl ?_
                refine JL.bin rfl rfl rfl .none rfl ?_
                refine JL.move .none rfl ?_
                refine JL.cut 29 (fun f => f 104 = .bool ((y85.2 != 0) || (((((w64 (y85.1.Low + y87.1.High)) == t.Stock) && ((w64 (y85.1.High + y87.1.Low)) == t.Stock)) && ((y87.1.Low == y89.1.Low) && (y87.1.High == y89.1.High))) && (decide (0 ≤ y87.1.Low))))) ?_ ?_
                · intro hJ103
                  rcases bcases (y85.2 != 0) with hc104 | hc104
                  · skip
                    refine JL.skip (.bool rfl rfl rfl hc104) rfl ?_
                    refine JL.skip (.bool rfl rfl rfl hc104) rfl ?_
                    refine JL.skip (.bool rfl rfl rfl hc104) rfl ?_
                    refine JL.skip (.bool rfl rfl rfl hc104) rfl ?_
                    refine JL.skip (.bool rfl rfl rfl hc104) rfl ?_
                    refine JL.skip (.bool rfl rfl rfl hc104) rfl ?_
                    refine JL.skip (.bool rfl rfl rfl hc104) rfl ?_
                    refine JL.skip (.bool rfl rfl rfl hc104) rfl ?_
                    refine JL.skip (.bool rfl rfl rfl hc104) rfl ?_
                    refine JL.skip (.no rfl rfl rfl) rfl ?_
                    refine JL.skip (.no rfl rfl rfl) rfl ?_
                    refine JL.skip (.no rfl rfl rfl) rfl ?_
                    refine JL.skip (.no rfl rfl rfl) rfl ?_
                    refine JL.skip (.no rfl rfl rfl) rfl ?_
                    refine JL.skip (.no rfl rfl rfl) rfl ?_
                    refine JL.skip (.no rfl rfl rfl) rfl ?_
                    refine JL.skip (.no rfl rfl rfl) rfl ?_
                    refine JL.skip (.bool rfl rfl rfl hc104) rfl ?_
                    refine JL.skip (.bool rfl rfl rfl hc104) rfl ?_
                    refine JL.skip (.no rfl rfl rfl) rfl ?_
                    refine JL.skip (.no rfl rfl rfl) rfl ?_
                    refine JL.skip (.no rfl rfl rfl) rfl ?_
                    refine JL.skip (.bool rfl rfl rfl hc104) rfl ?_
                    refine JL.skip (.bool rfl rfl rfl hc104) rfl ?_
                    refine JL.skip (.no rfl rfl rfl) rfl ?_
                    refine JL.skip (.no rfl rfl rfl) rfl ?_
                    refine JL.skip (.no rfl rfl rfl) rfl ?_
                    refine JL.skip (.bool rfl rfl rfl hc104) rfl ?_
                    refine JL.pick_t (b := (y85.2 != 0)) rfl hc104 .none rfl ?_
                    exact hJ103 _ (or_t hc104 rfl)
                  · skip
                    refine JL.fieldAddr fo_31_0 rfl (.some rfl rfl rfl hc104) rfl ?_
                    refine JL.loadOwn 2 az_3 rfl rfl rfl (.some rfl rfl rfl hc104) rfl ?_
                    refine JL.fieldAddr fo_31_1 rfl (.some rfl rfl rfl hc104) rfl ?_
                    refine JL.loadOwn 1 az_3 rfl rfl rfl (.some rfl rfl rfl hc104) rfl ?_
                    refine JL.bin rfl rfl rfl (.some rfl rfl rfl hc104) rfl ?_
                    refine JL.fieldAddr fo_25_6 rfl (.some rfl rfl rfl hc104) rfl ?_
                    refine JL.loadOwn 4 az_3 rfl rfl rfl (.some rfl rfl rfl hc104) rfl ?_
                    refine JL.bin rfl rfl rfl (.some rfl rfl rfl hc104) rfl ?_
                    refine JL.move (.some rfl rfl rfl hc104) rfl ?_
                    refine JL.cut 9 (fun f => f 9 = .pointer (some ⟨b88, 0, none⟩) ∧ f 11 = .pointer (some ⟨b90, 0, none⟩) ∧ f 75 = .bool (y85.2 != 0) ∧ f 93 = .bool (((w64 (y85.1.Low + y87.1.High)) == t.Stock) && ((w64 (y85.1.High + y87.1.Low)) == t.Stock))) ?_ ?_
                    · intro hJ105
                      rcases bcases ((w64 (y85.1.Low + y87.1.High)) == t.Stock) with hc106 | hc106
                      · skip
                        refine JL.fieldAddr fo_31_1 rfl (.some rfl rfl rfl hc106) rfl ?_
                        refine JL.loadOwn 2 az_3 rfl rfl rfl (.some rfl rfl rfl hc106) rfl ?_
                        refine JL.fieldAddr fo_31_0 rfl (.some rfl rfl rfl hc106) rfl ?_
                        refine JL.loadOwn 1 az_3 rfl rfl rfl (.some rfl rfl rfl hc106) rfl ?_
                        refine JL.bin rfl rfl rfl (.some rfl rfl rfl hc106) rfl ?_
                        refine JL.fieldAddr fo_25_6 rfl (.some rfl rfl rfl hc106) rfl ?_
                        refine JL.loadOwn 4 az_3 rfl rfl rfl (.some rfl rfl rfl hc106) rfl ?_
                        refine JL.bin rfl rfl rfl (.some rfl rfl rfl hc106) rfl ?_
                        refine JL.pick_t (b := ((w64 (y85.1.Low + y87.1.High)) == t.Stock)) rfl hc106 (.some rfl rfl rfl hc104) rfl ?_
                        exact hJ105 _ ⟨rfl, rfl, rfl, and_t hc106 rfl⟩
                      · skip
                        refine JL.skip (.bool rfl rfl rfl hc106) rfl ?_
                        refine JL.skip (.bool rfl rfl rfl hc106) rfl ?_
                        refine JL.skip (.bool rfl rfl rfl hc106) rfl ?_
                        refine JL.skip (.bool rfl rfl rfl hc106) rfl ?_
                        refine JL.skip (.bool rfl rfl rfl hc106) rfl ?_
                        refine JL.skip (.bool rfl rfl rfl hc106) rfl ?_
                        refine JL.skip (.bool rfl rfl rfl hc106) rfl ?_
                        refine JL.skip (.bool rfl rfl rfl hc106) rfl ?_
                        refine JL.pick_f (b := ((w64 (y85.1.Low + y87.1.High)) == t.Stock)) rfl hc106 (.some rfl rfl rfl hc104) rfl ?_
                        exact hJ105 _ ⟨rfl, rfl, rfl, and_f hc106 rfl⟩
                    · rintro f ⟨hf9, hf11, hf75, hf93⟩
                      refine (JL.norm (i := 9) hf9 (JL.norm (i := 11) hf11 (JL.norm (i := 75) hf75 (JL.norm (i := 93) hf93 ?_))))
                      refine JL.move (.some rfl rfl rfl hc104) rfl ?_
                      refine JL.cut 4 (fun f => f 9 = .pointer (some ⟨b88, 0, none⟩) ∧ f 75 = .bool (y85.2 != 0) ∧ f 98 = .bool ((((w64 (y85.1.Low + y87.1.High)) == t.Stock) && ((w64 (y85.1.High + y87.1.Low)) == t.Stock)) && ((y87.1.Low == y89.1.Low) && (y87.1.High == y89.1.High)))) ?_ ?_
                      · intro hJ107
                        rcases bcases (((w64 (y85.1.Low + y87.1.High)) == t.Stock) && ((w64 (y85.1.High + y87.1.Low)) == t.Stock)) with hc108 | hc108
                        · skip
                          refine JL.loadOwn 1 az_31 rfl rfl rfl (.some rfl rfl rfl hc108) rfl ?_
                          refine JL.loadOwn 0 az_31 rfl rfl rfl (.some rfl rfl rfl hc108) rfl ?_
                          refine JL.eqAgg eqg_31 rfl rfl (fun w => eqa_31 y87.1.Low y87.1.High y89.1.Low y89.1.High w) (.some rfl rfl rfl hc108) rfl ?_
                          refine JL.pick_t (b := (((w64 (y85.1.Low + y87.1.High)) == t.Stock) && ((w64 (y85.1.High + y87.1.Low)) == t.Stock))) rfl hc108 (.some rfl rfl rfl hc104) rfl ?_
                          exact hJ107 _ ⟨rfl, rfl, and_t hc108 rfl⟩
                        · skip
                          refine JL.skip (.bool rfl rfl rfl hc108) rfl ?_
                          refine JL.skip (.bool rfl rfl rfl hc108) rfl ?_
                          refine JL.skip (.bool rfl rfl rfl hc108) rfl ?_
                          refine JL.pick_f (b := (((w64 (y85.1.Low + y87.1.High)) == t.Stock) && ((w64 (y85.1.High + y87.1.Low)) == t.Stock))) rfl hc108 (.some rfl rfl rfl hc104) rfl ?_
                          exact hJ107 _ ⟨rfl, rfl, and_f hc108 rfl⟩
                      · rintro f ⟨hf9, hf75, hf98⟩
                        refine (JL.norm (i := 9) hf9 (JL.norm (i := 75) hf75 (JL.norm (i := 98) hf98 ?_)))
                        refine JL.move (.some rfl rfl rfl hc104) rfl ?_
                        refine JL.cut 4 (fun f => f 75 = .bool (y85.2 != 0) ∧ f 103 = .bool (((((w64 (y85.1.Low + y87.1.High)) == t.Stock) && ((w64 (y85.1.High + y87.1.Low)) == t.Stock)) && ((y87.1.Low == y89.1.Low) && (y87.1.High == y89.1.High))) && (decide (0 ≤ y87.1.Low)))) ?_ ?_
                        · intro hJ109
                          rcases bcases ((((w64 (y85.1.Low + y87.1.High)) == t.Stock) && ((w64 (y85.1.High + y87.1.Low)) == t.Stock)) && ((y87.1.Low == y89.1.Low) && (y87.1.High == y89.1.High))) with hc110 | hc110
                          · skip
                            refine JL.fieldAddr fo_31_0 rfl (.some rfl rfl rfl hc110) rfl ?_
                            refine JL.loadOwn 1 az_3 rfl rfl rfl (.some rfl rfl rfl hc110) rfl ?_
                            refine JL.bin rfl rfl rfl (.some rfl rfl rfl hc110) rfl ?_
                            refine JL.pick_t (b := ((((w64 (y85.1.Low + y87.1.High)) == t.Stock) && ((w64 (y85.1.High + y87.1.Low)) == t.Stock)) && ((y87.1.Low == y89.1.Low) && (y87.1.High == y89.1.High)))) rfl hc110 (.some rfl rfl rfl hc104) rfl ?_
                            exact hJ109 _ ⟨rfl, and_t hc110 rfl⟩
                          · skip
                            refine JL.skip (.bool rfl rfl rfl hc110) rfl ?_
                            refine JL.skip (.bool rfl rfl rfl hc110) rfl ?_
                            refine JL.skip (.bool rfl rfl rfl hc110) rfl ?_
                            refine JL.pick_f (b := ((((w64 (y85.1.Low + y87.1.High)) == t.Stock) && ((w64 (y85.1.High + y87.1.Low)) == t.Stock)) && ((y87.1.Low == y89.1.Low) && (y87.1.High == y89.1.High)))) rfl hc110 (.some rfl rfl rfl hc104) rfl ?_
                            exact hJ109 _ ⟨rfl, and_f hc110 rfl⟩
                        · rintro f ⟨hf75, hf103⟩
                          refine (JL.norm (i := 75) hf75 (JL.norm (i := 103) hf103 ?_))
                          refine JL.pick_f (b := (y85.2 != 0)) rfl hc104 .none rfl ?_
                          exact hJ103 _ (or_f hc104 rfl)
                · rintro f hf104
                  refine (JL.norm (i := 104) hf104 ?_)
                  refine JL.move .none rfl ?_
                  obtain ⟨p112, hp112, hF⟩ := bind_some hF
                  refine JL.cut 2 (fun f => f 107 = .bool p112) ?_ ?_
                  · intro hJ113
                    rcases ite_some hp112 with ⟨hc114, hF⟩ | ⟨hc114, hF⟩
                    · skip
                      obtain ⟨y115, hy115, hF⟩ := bind_some hF
                      refine JL.callS (c_law11_works n H83 y115 hy115) rfl en_13 (.some rfl rfl rfl hc114) rfl ?_
                      refine JL.pick_t (b := ((y85.2 != 0) || (((((w64 (y85.1.Low + y87.1.High)) == t.Stock) && ((w64 (y85.1.High + y87.1.Low)) == t.Stock)) && ((y87.1.Low == y89.1.Low) && (y87.1.High == y89.1.High))) && (decide (0 ≤ y87.1.Low))))) rfl hc114 .none rfl ?_
                      obtain rfl := Option.some.inj hF
                      exact hJ113 _ (rfl)
                    · skip
                      refine JL.skip (.bool rfl rfl rfl hc114) rfl ?_
                      refine JL.pick_f (b := ((y85.2 != 0) || (((((w64 (y85.1.Low + y87.1.High)) == t.Stock) && ((w64 (y85.1.High + y87.1.Low)) == t.Stock)) && ((y87.1.Low == y89.1.Low) && (y87.1.High == y89.1.High))) && (decide (0 ≤ y87.1.Low))))) rfl hc114 .none rfl ?_
                      obtain rfl := Option.some.inj hF
                      exact hJ113 _ (rfl)
                  · rintro f hf107
                    refine (JL.norm (i := 107) hf107 ?_)
                    refine JL.assign .none rfl ?_
                    refine JL.done hQ ?_
                    refine JQ.go ?_
                    refine JC.ret ?_
                    obtain rfl := Option.some.inj hF
                    exact JQ.outS rfl (.tmp .nil) rfl

-- 9 ferrule/ferrulelaw11.RainsLiars
def F_law11_RainsLiars_s1 (n : Nat) (t : Tour) (by_ : Int) : Int × List Rain → Option ((Int × List Rain) ⊕ (List Rain))
  | (i_267, out_268) => if decide (i_267 < (t.Rains.length : Int)) = true then ((nz (t.Rains.length : Int)).bind fun _ => (geti t.Rains ((w64 (i_267 + by_)).tmod (t.Rains.length : Int))).bind fun y280 => (geti out_268 i_267).bind fun y285 => some (Sum.inl ((w64 (i_267 + 1)), (setx out_268 i_267 y280)))) else (some (Sum.inr out_268))
def F_law11_RainsLiars (n : Nat) (t : Tour) (by_ : Int) : Option Bool :=
  (F_law11_ready n t).bind fun y2 => if (((!y2) || (decide (by_ < 0))) || (decide (100 < by_))) = true then ((F_law11_works n).bind fun y8 => some y8) else ((F_rains_Fewest n t).bind fun y9 => (F_rains_Many n t).bind fun y10 => (if (((y9.2 != 0) || (decide (y9.1 < 0))) || (decide ((t.Rains.length : Int) < y9.1))) = true then (some true) else ((F_law11_isKnown n y10.2).bind fun y19 => some (!y19)) : Option Bool).bind fun p16 => if ((p16 || ((y10.2 == 0) != (decide (y9.1 ≤ t.Wrong)))) || ((y10.2 == 0) && (decide (y10.1 < 1)))) = true then (some false) else ((F_ref11_Copy n t).bind fun y29 => (loopO n (F_law11_RainsLiars_s1 n t by_) (0, y29.Rains)).bind fun out_174 => (F_rains_Fewest n (Tour.mk y29.Days y29.Step out_174 y29.Wrong y29.Fairs y29.Reach y29.Stock)).bind fun y318 => (F_rains_Many n (Tour.mk y29.Days y29.Step out_174 y29.Wrong y29.Fairs y29.Reach y29.Stock)).bind fun y319 => (F_rains_Best n t).bind fun y320 => (F_rains_Best n (Tour.mk y29.Days y29.Step out_174 y29.Wrong y29.Fairs y29.Reach y29.Stock)).bind fun y321 => (if ((((((y318.1 == y9.1) && (y318.2 == 0)) && (y319.1 == y10.1)) && (y319.2 == y10.2)) && (y320.1 == y321.1)) && (y320.2 == y321.2)) = true then ((F_law11_works n).bind fun y336 => some y336) else (some false) : Option Bool).bind fun p333 => some p333))
set_option maxRecDepth 100000 in
set_option maxHeartbeats 40000000 in
theorem c_law11_RainsLiars (n : Nat) (H : Hp) (t : Tour) (t_v2 : Value) (ht_2 : SL H 3 R_Rain t_v2 t.Rains) (t_v4 : Value) (ht_4 : SL H 2 R_Fair t_v4 t.Fairs) (by_ : Int) (y : Bool) (hF : F_law11_RainsLiars n t by_ = some y) : SC Try.prog 9 [.agg [.int .i64 t.Days, .int .i64 t.Step, t_v2, .int .i64 t.Wrong, t_v4, .int .i64 t.Reach, .int .i64 t.Stock].toArray, .int .i64 by_] (.bool y) H := by
  rw [F_law11_RainsLiars] at hF
  refine SC.of (N := 150) Try.func9 rfl rfl rfl fun w => ?_
  refine JC.seq ?_
  refine JC.region (by rfl) ?_
  intro hQ
  refine JL.box (cs := [.int .i64 t.Days, .int .i64 t.Step, t_v2, .int .i64 t.Wrong, t_v4, .int .i64 t.Reach, .int .i64 t.Stock]) rfl .none rfl ?_
  intro b1
  refine JL.assign .none rfl ?_
  refine JL.done hQ ?_
  refine JQ.go ?_
  refine JC.seq ?_
  refine JC.seq ?_
  refine JC.region (by rfl) ?_
  intro hQ
  refine JL.loadOwn 0 az_25 rfl rfl rfl .none rfl ?_
  obtain ⟨y2, hy2, hF⟩ := bind_some hF
  refine JL.callS (c_law11_ready n H t t_v2 ht_2 t_v4 ht_4 y2 hy2) rfl en_19 .none rfl ?_
  refine JL.not rfl .none rfl ?_
  refine JL.move .none rfl ?_
  refine JL.cut 3 (fun f => f 1 = .int .i64 by_ ∧ f 2 = .pointer (some ⟨b1, 0, none⟩) ∧ f 25 = .bool ((!y2) || (decide (by_ < 0)))) ?_ ?_
  · intro hJ3
    rcases bcases (!y2) with hc4 | hc4
    · skip
      refine JL.skip (.bool rfl rfl rfl hc4) rfl ?_
      refine JL.skip (.bool rfl rfl rfl hc4) rfl ?_
      refine JL.pick_t (b := (!y2)) rfl hc4 .none rfl ?_
      exact hJ3 _ ⟨rfl, rfl, or_t hc4 rfl⟩
    · skip
      refine JL.move (.some rfl rfl rfl hc4) rfl ?_
      refine JL.bin rfl rfl rfl (.some rfl rfl rfl hc4) rfl ?_
      refine JL.pick_f (b := (!y2)) rfl hc4 .none rfl ?_
      exact hJ3 _ ⟨rfl, rfl, or_f hc4 rfl⟩
  · rintro f ⟨hf1, hf2, hf25⟩
    refine (JL.norm (i := 1) hf1 (JL.norm (i := 2) hf2 (JL.norm (i := 25) hf25 ?_)))
    refine JL.move .none rfl ?_
    refine JL.cut 3 (fun f => f 1 = .int .i64 by_ ∧ f 2 = .pointer (some ⟨b1, 0, none⟩) ∧ f 29 = .bool (((!y2) || (decide (by_ < 0))) || (decide (100 < by_)))) ?_ ?_
    · intro hJ5
      rcases bcases ((!y2) || (decide (by_ < 0))) with hc6 | hc6
      · skip
        refine JL.skip (.bool rfl rfl rfl hc6) rfl ?_
        refine JL.skip (.bool rfl rfl rfl hc6) rfl ?_
        refine JL.pick_t (b := ((!y2) || (decide (by_ < 0)))) rfl hc6 .none rfl ?_
        exact hJ5 _ ⟨rfl, rfl, or_t hc6 rfl⟩
      · skip
        refine JL.move (.some rfl rfl rfl hc6) rfl ?_
        refine JL.bin rfl rfl rfl (.some rfl rfl rfl hc6) rfl ?_
        refine JL.pick_f (b := ((!y2) || (decide (by_ < 0)))) rfl hc6 .none rfl ?_
        exact hJ5 _ ⟨rfl, rfl, or_f hc6 rfl⟩
    · rintro f ⟨hf1, hf2, hf29⟩
      refine (JL.norm (i := 1) hf1 (JL.norm (i := 2) hf2 (JL.norm (i := 29) hf29 ?_)))
      refine JL.done hQ ?_
      refine JQ.go ?_
      rcases ite_some hF with ⟨hc7, hF⟩ | ⟨hc7, hF⟩
      · refine JC.cond_t (b := (((!y2) || (decide (by_ < 0))) || (decide (100 < by_)))) rfl hc7 ?_
        refine JC.seq ?_
        refine JC.region (by rfl) ?_
        intro hQ
        obtain ⟨y8, hy8, hF⟩ := bind_some hF
        refine JL.callS (c_law11_works n H y8 hy8) rfl en_13 .none rfl ?_
        refine JL.assign .none rfl ?_
        refine JL.done hQ ?_
        refine JQ.go ?_
        refine JC.ret ?_
        refine JQ.ret_then ?_
        obtain rfl := Option.some.inj hF
        exact JQ.outS rfl (.tmp .nil) rfl
      · refine JC.cond_f (b := (((!y2) || (decide (by_ < 0))) || (decide (100 < by_)))) rfl hc7 ?_
        refine JC.skip ?_
        refine JQ.go ?_
        refine JC.seq ?_
        refine JC.region (by rfl) ?_
        intro hQ
        refine JL.loadOwn 0 az_25 rfl rfl rfl .none rfl ?_
        obtain ⟨y9, hy9, hF⟩ := bind_some hF
        refine JL.callS (c_rains_Fewest n H t t_v2 ht_2 t_v4 ht_4 y9 hy9) rfl en_28 .none rfl ?_
        refine JL.move .none rfl ?_
        refine JL.extract rfl rfl .none rfl ?_
        refine JL.extract rfl rfl .none rfl ?_
        refine JL.assign .none rfl ?_
        refine JL.assign .none rfl ?_
        refine JL.done hQ ?_
        refine JQ.go ?_
        refine JC.seq ?_
        refine JC.region (by rfl) ?_
        intro hQ
        refine JL.loadOwn 0 az_25 rfl rfl rfl .none rfl ?_
        obtain ⟨y10, hy10, hF⟩ := bind_some hF
        refine JL.callS (c_rains_Many n H t t_v2 ht_2 t_v4 ht_4 y10 hy10) rfl en_29 .none rfl ?_
        refine JL.move .none rfl ?_
        refine JL.extract rfl rfl .none rfl ?_
        refine JL.extract rfl rfl .none rfl ?_
        refine JL.assign .none rfl ?_
        refine JL.assign .none rfl ?_
        refine JL.done hQ ?_
        refine JQ.go ?_
        refine JC.fresh (fun f => f 1 = .int .i64 by_ ∧ f 2 = .pointer (some ⟨b1, 0, none⟩) ∧ f 5 = .int .i64 y9.1 ∧ f 6 = .int .i64 y9.2 ∧ f 7 = .int .i64 y10.1 ∧ f 8 = .int .i64 y10.2) ⟨rfl, rfl, rfl, rfl, rfl, rfl⟩ ?_
        rintro f ⟨hf1, hf2, hf5, hf6, hf7, hf8⟩
        refine (JC.norm (i := 1) hf1 (JC.norm (i := 2) hf2 (JC.norm (i := 5) hf5 (JC.norm (i := 6) hf6 (JC.norm (i := 7) hf7 (JC.norm (i := 8) hf8 ?_))))))
        refine JC.seq ?_
        refine JC.seq ?_
        refine JC.region (by rfl) ?_
        intro hQ
        refine JL.move .none rfl ?_
        refine JL.bin rfl rfl rfl .none rfl ?_
        refine JL.move .none rfl ?_
        refine JL.cut 3 (fun f => f 1 = .int .i64 by_ ∧ f 2 = .pointer (some ⟨b1, 0, none⟩) ∧ f 5 = .int .i64 y9.1 ∧ f 7 = .int .i64 y10.1 ∧ f 8 = .int .i64 y10.2 ∧ f 46 = .bool ((y9.2 != 0) || (decide (y9.1 < 0)))) ?_ ?_
        · intro hJ11
          rcases bcases (y9.2 != 0) with hc12 | hc12
          · skip
            refine JL.skip (.bool rfl rfl rfl hc12) rfl ?_
            refine JL.skip (.bool rfl rfl rfl hc12) rfl ?_
            refine JL.pick_t (b := (y9.2 != 0)) rfl hc12 .none rfl ?_
            exact hJ11 _ ⟨rfl, rfl, rfl, rfl, rfl, or_t hc12 rfl⟩
          · skip
            refine JL.move (.some rfl rfl rfl hc12) rfl ?_
            refine JL.bin rfl rfl rfl (.some rfl rfl rfl hc12) rfl ?_
            refine JL.pick_f (b := (y9.2 != 0)) rfl hc12 .none rfl ?_
            exact hJ11 _ ⟨rfl, rfl, rfl, rfl, rfl, or_f hc12 rfl⟩
        · rintro f ⟨hf1, hf2, hf5, hf7, hf8, hf46⟩
          refine (JL.norm (i := 1) hf1 (JL.norm (i := 2) hf2 (JL.norm (i := 5) hf5 (JL.norm (i := 7) hf7 (JL.norm (i := 8) hf8 (JL.norm (i := 46) hf46 ?_))))))
          refine JL.move .none rfl ?_
          refine JL.cut 6 (fun f => f 1 = .int .i64 by_ ∧ f 2 = .pointer (some ⟨b1, 0, none⟩) ∧ f 5 = .int .i64 y9.1 ∧ f 7 = .int .i64 y10.1 ∧ f 8 = .int .i64 y10.2 ∧ f 53 = .bool (((y9.2 != 0) || (decide (y9.1 < 0))) || (decide ((t.Rains.length : Int) < y9.1)))) ?_ ?_
          · intro hJ13
            rcases bcases ((y9.2 != 0) || (decide (y9.1 < 0))) with hc14 | hc14
            · skip
              refine JL.skip (.bool rfl rfl rfl hc14) rfl ?_
              refine JL.skip (.bool rfl rfl rfl hc14) rfl ?_
              refine JL.skip (.bool rfl rfl rfl hc14) rfl ?_
              refine JL.skip (.bool rfl rfl rfl hc14) rfl ?_
              refine JL.skip (.bool rfl rfl rfl hc14) rfl ?_
              refine JL.pick_t (b := ((y9.2 != 0) || (decide (y9.1 < 0)))) rfl hc14 .none rfl ?_
              exact hJ13 _ ⟨rfl, rfl, rfl, rfl, rfl, or_t hc14 rfl⟩
            · skip
              refine JL.move (.some rfl rfl rfl hc14) rfl ?_
              refine JL.fieldAddr fo_25_2 rfl (.some rfl rfl rfl hc14) rfl ?_
              refine JL.loadOwn 0 az_22 rfl rfl rfl (.some rfl rfl rfl hc14) rfl ?_
              refine JL.lenSL (R := R_Rain) ul_22 ht_2 (.some rfl rfl rfl hc14) rfl ?_
              refine JL.bin rfl rfl rfl (.some rfl rfl rfl hc14) rfl ?_
              refine JL.pick_f (b := ((y9.2 != 0) || (decide (y9.1 < 0)))) rfl hc14 .none rfl ?_
              exact hJ13 _ ⟨rfl, rfl, rfl, rfl, rfl, or_f hc14 rfl⟩
          · rintro f ⟨hf1, hf2, hf5, hf7, hf8, hf53⟩
            refine (JL.norm (i := 1) hf1 (JL.norm (i := 2) hf2 (JL.norm (i := 5) hf5 (JL.norm (i := 7) hf7 (JL.norm (i := 8) hf8 (JL.norm (i := 53) hf53 ?_))))))
            refine JL.move .none rfl ?_
            obtain ⟨p16, hp16, hF⟩ := bind_some hF
            refine JL.cut 4 (fun f => f 1 = .int .i64 by_ ∧ f 2 = .pointer (some ⟨b1, 0, none⟩) ∧ f 5 = .int .i64 y9.1 ∧ f 7 = .int .i64 y10.1 ∧ f 8 = .int .i64 y10.2 ∧ f 58 = .bool p16) ?_ ?_
            · intro hJ17
              rcases ite_some hp16 with ⟨hc18, hF⟩ | ⟨hc18, hF⟩
              · skip
                refine JL.skip (.bool rfl rfl rfl hc18) rfl ?_
                refine JL.skip (.bool rfl rfl rfl hc18) rfl ?_
                refine JL.skip (.bool rfl rfl rfl hc18) rfl ?_
                refine JL.pick_t (b := (((y9.2 != 0) || (decide (y9.1 < 0))) || (decide ((t.Rains.length : Int) < y9.1)))) rfl hc18 .none rfl ?_
                obtain rfl := Option.some.inj hF
                exact hJ17 _ ⟨rfl, rfl, rfl, rfl, rfl, rfl⟩
              · skip
                refine JL.move (.some rfl rfl rfl hc18) rfl ?_
                obtain ⟨y19, hy19, hF⟩ := bind_some hF
                refine JL.callS (c_law11_isKnown n H y10.2 y19 hy19) rfl en_22 (.some rfl rfl rfl hc18) rfl ?_
                refine JL.not rfl (.some rfl rfl rfl hc18) rfl ?_
                refine JL.pick_f (b := (((y9.2 != 0) || (decide (y9.1 < 0))) || (decide ((t.Rains.length : Int) < y9.1)))) rfl hc18 .none rfl ?_
                obtain rfl := Option.some.inj hF
                exact hJ17 _ ⟨rfl, rfl, rfl, rfl, rfl, rfl⟩
            · rintro f ⟨hf1, hf2, hf5, hf7, hf8, hf58⟩
              refine (JL.norm (i := 1) hf1 (JL.norm (i := 2) hf2 (JL.norm (i := 5) hf5 (JL.norm (i := 7) hf7 (JL.norm (i := 8) hf8 (JL.norm (i := 58) hf58 ?_))))))
              refine JL.move .none rfl ?_
              refine JL.cut 8 (fun f => f 1 = .int .i64 by_ ∧ f 2 = .pointer (some ⟨b1, 0, none⟩) ∧ f 5 = .int .i64 y9.1 ∧ f 7 = .int .i64 y10.1 ∧ f 8 = .int .i64 y10.2 ∧ f 67 = .bool (p16 || ((y10.2 == 0) != (decide (y9.1 ≤ t.Wrong))))) ?_ ?_
              · intro hJ20
                rcases bcases p16 with hc21 | hc21
                · skip
                  refine JL.skip (.bool rfl rfl rfl hc21) rfl ?_
                  refine JL.skip (.bool rfl rfl rfl hc21) rfl ?_
                  refine JL.skip (.bool rfl rfl rfl hc21) rfl ?_
                  refine JL.skip (.bool rfl rfl rfl hc21) rfl ?_
                  refine JL.skip (.bool rfl rfl rfl hc21) rfl ?_
                  refine JL.skip (.bool rfl rfl rfl hc21) rfl ?_
                  refine JL.skip (.bool rfl rfl rfl hc21) rfl ?_
                  refine JL.pick_t (b := p16) rfl hc21 .none rfl ?_
                  exact hJ20 _ ⟨rfl, rfl, rfl, rfl, rfl, or_t hc21 rfl⟩
                · skip
                  refine JL.move (.some rfl rfl rfl hc21) rfl ?_
                  refine JL.bin rfl rfl rfl (.some rfl rfl rfl hc21) rfl ?_
                  refine JL.move (.some rfl rfl rfl hc21) rfl ?_
                  refine JL.fieldAddr fo_25_3 rfl (.some rfl rfl rfl hc21) rfl ?_
                  refine JL.loadOwn 0 az_3 rfl rfl rfl (.some rfl rfl rfl hc21) rfl ?_
                  refine JL.bin rfl rfl rfl (.some rfl rfl rfl hc21) rfl ?_
                  refine JL.neBool ub_4 rfl rfl (.some rfl rfl rfl hc21) rfl ?_
                  refine JL.pick_f (b := p16) rfl hc21 .none rfl ?_
                  exact hJ20 _ ⟨rfl, rfl, rfl, rfl, rfl, or_f hc21 rfl⟩
              · rintro f ⟨hf1, hf2, hf5, hf7, hf8, hf67⟩
                refine (JL.norm (i := 1) hf1 (JL.norm (i := 2) hf2 (JL.norm (i := 5) hf5 (JL.norm (i := 7) hf7 (JL.norm (i := 8) hf8 (JL.norm (i := 67) hf67 ?_))))))
                refine JL.move .none rfl ?_
                refine JL.cut 7 (fun f => f 1 = .int .i64 by_ ∧ f 2 = .pointer (some ⟨b1, 0, none⟩) ∧ f 5 = .int .i64 y9.1 ∧ f 7 = .int .i64 y10.1 ∧ f 8 = .int .i64 y10.2 ∧ f 75 = .bool ((p16 || ((y10.2 == 0) != (decide (y9.1 ≤ t.Wrong)))) || ((y10.2 == 0) && (decide (y10.1 < 1))))) ?_ ?_
                · intro hJ24
                  rcases bcases (p16 || ((y10.2 == 0) != (decide (y9.1 ≤ t.Wrong)))) with hc25 | hc25
                  · skip
                    refine JL.skip (.bool rfl rfl rfl hc25) rfl ?_
                    refine JL.skip (.bool rfl rfl rfl hc25) rfl ?_
                    refine JL.skip (.bool rfl rfl rfl hc25) rfl ?_
                    refine JL.skip (.no rfl rfl rfl) rfl ?_
                    refine JL.skip (.no rfl rfl rfl) rfl ?_
                    refine JL.skip (.bool rfl rfl rfl hc25) rfl ?_
                    refine JL.pick_t (b := (p16 || ((y10.2 == 0) != (decide (y9.1 ≤ t.Wrong))))) rfl hc25 .none rfl ?_
                    exact hJ24 _ ⟨rfl, rfl, rfl, rfl, rfl, or_t hc25 rfl⟩
                  · skip
                    refine JL.move (.some rfl rfl rfl hc25) rfl ?_
                    refine JL.bin rfl rfl rfl (.some rfl rfl rfl hc25) rfl ?_
                    refine JL.move (.some rfl rfl rfl hc25) rfl ?_
                    refine JL.cut 3 (fun f => f 1 = .int .i64 by_ ∧ f 2 = .pointer (some ⟨b1, 0, none⟩) ∧ f 5 = .int .i64 y9.1 ∧ f 7 = .int .i64 y10.1 ∧ f 8 = .int .i64 y10.2 ∧ f 68 = .bool (p16 || ((y10.2 == 0) != (decide (y9.1 ≤ t.Wrong)))) ∧ f 74 = .bool ((y10.2 == 0) && (decide (y10.1 < 1)))) ?_ ?_
                    · intro hJ26
                      rcases bcases (y10.2 == 0) with hc27 | hc27
                      · skip
                        refine JL.move (.some rfl rfl rfl hc27) rfl ?_
                        refine JL.bin rfl rfl rfl (.some rfl rfl rfl hc27) rfl ?_
                        refine JL.pick_t (b := (y10.2 == 0)) rfl hc27 (.some rfl rfl rfl hc25) rfl ?_
                        exact hJ26 _ ⟨rfl, rfl, rfl, rfl, rfl, rfl, and_t hc27 rfl⟩
                      · skip
                        refine JL.skip (.bool rfl rfl rfl hc27) rfl ?_
                        refine JL.skip (.bool rfl rfl rfl hc27) rfl ?_
                        refine JL.pick_f (b := (y10.2 == 0)) rfl hc27 (.some rfl rfl rfl hc25) rfl ?_
                        exact hJ26 _ ⟨rfl, rfl, rfl, rfl, rfl, rfl, and_f hc27 rfl⟩
                    · rintro f ⟨hf1, hf2, hf5, hf7, hf8, hf68, hf74⟩
                      refine (JL.norm (i := 1) hf1 (JL.norm (i := 2) hf2 (JL.norm (i := 5) hf5 (JL.norm (i := 7) hf7 (JL.norm (i := 8) hf8 (JL.norm (i := 68) hf68 (JL.norm (i := 74) hf74 ?_)))))))
                      refine JL.pick_f (b := (p16 || ((y10.2 == 0) != (decide (y9.1 ≤ t.Wrong))))) rfl hc25 .none rfl ?_
                      exact hJ24 _ ⟨rfl, rfl, rfl, rfl, rfl, or_f hc25 rfl⟩
                · rintro f ⟨hf1, hf2, hf5, hf7, hf8, hf75⟩
                  refine (JL.norm (i := 1) hf1 (JL.norm (i := 2) hf2 (JL.norm (i := 5) hf5 (JL.norm (i := 7) hf7 (JL.norm (i := 8) hf8 (JL.norm (i := 75) hf75 ?_))))))
                  refine JL.done hQ ?_
                  refine JQ.go ?_
                  rcases ite_some hF with ⟨hc28, hF⟩ | ⟨hc28, hF⟩
                  · refine JC.cond_t (b := ((p16 || ((y10.2 == 0) != (decide (y9.1 ≤ t.Wrong)))) || ((y10.2 == 0) && (decide (y10.1 < 1))))) rfl hc28 ?_
                    refine JC.seq ?_
                    refine JC.region (by rfl) ?_
                    intro hQ
                    refine JL.assign .none rfl ?_
                    refine JL.done hQ ?_
                    refine JQ.go ?_
                    refine JC.ret ?_
                    refine JQ.ret_then ?_
                    obtain rfl := Option.some.inj hF
                    exact JQ.outS rfl (.tmp .nil) rfl
                  · refine JC.cond_f (b := ((p16 || ((y10.2 == 0) != (decide (y9.1 ≤ t.Wrong)))) || ((y10.2 == 0) && (decide (y10.1 < 1))))) rfl hc28 ?_
                    refine JC.skip ?_
                    refine JQ.go ?_
                    refine JC.seq ?_
                    refine JC.region (by rfl) ?_
                    intro hQ
                    refine JL.loadOwn 0 az_25 rfl rfl rfl .none rfl ?_
                    obtain ⟨y29, hy29, hF⟩ := bind_some hF
                    refine JL.callXC (x_ref11_Copy n H t t_v2 ht_2 t_v4 ht_4 y29 hy29) rfl en_14 .none rfl ?_
                    rintro H30 vv31 _ hs30 ⟨y29_v0, y29_xs0, y29_v1, y29_xs1, rfl, rfl, hy29_0, hy29_1⟩
                    refine JL.alloc ze_25 .none rfl ?_
                    intro b34
                    refine JL.oneG 1 rfl (fun ho35 => ?_)
                    refine JL.oneG 0 rfl (fun ho36 => ?_)
                    refine JL.storeOwn 0 (cs := [.int .i64 y29.Days, .int .i64 y29.Step, y29_v0, .int .i64 y29.Wrong, y29_v1, .int .i64 y29.Reach, .int .i64 y29.Stock]) az_25 rfl rfl rfl (one_cons rfl (one_cons rfl (one_cons ho35.1 (one_cons rfl (one_cons ho36.1 (one_cons rfl (one_cons rfl one_nil))))))) rfl rfl .none ?_
                    refine JL.done hQ ?_
                    refine JQ.go ?_
                    refine JC.seq ?_
                    refine JC.seq ?_
                    refine JC.region (by rfl) ?_
                    intro hQ
                    refine JL.assign .none rfl ?_
                    refine JL.done hQ ?_
                    refine JQ.go ?_
                    obtain ⟨r176, hlr176, hKr176⟩ := bind_some hF
                    refine JC.join (fun (out_174 : List Rain) H175 f bs gs => ∃ (vout_174 : Value) (xsout_174 : List Value), f 2 = .pointer (some ⟨b1, 0, none⟩) ∧ f 5 = .int .i64 y9.1 ∧ f 7 = .int .i64 y10.1 ∧ f 8 = .int .i64 y10.2 ∧ f 9 = .pointer (some ⟨b34, 0, none⟩) ∧ bs = [(b34, .cells [.int .i64 y29.Days, .int .i64 y29.Step, vout_174, .int .i64 y29.Wrong, y29_v1, .int .i64 y29.Reach, .int .i64 y29.Stock].toArray 25), (b1, .cells [.int .i64 t.Days, .int .i64 t.Step, t_v2, .int .i64 t.Wrong, t_v4, .int .i64 t.Reach, .int .i64 t.Stock].toArray 25)] ∧ gs = [⟨y29_v1, 41, 2, y29.Fairs.length, y29_xs1⟩, ⟨vout_174, 37, 3, out_174.length, xsout_174⟩] ∧ CH H175 3 R_Rain xsout_174 out_174 ∧ HSub H30 H175 ∧ out_174 = r176) ?_ ?_
                    · skip
                      refine JC.block ?_
                      refine JC.loop hlr176 (fun (x : Int × List Rain) H269 f bs gs => match x with | (i_267, out_268) => ∃ (vout_268 : Value) (xsout_268 : List Value), f 1 = .int .i64 by_ ∧ f 2 = .pointer (some ⟨b1, 0, none⟩) ∧ f 5 = .int .i64 y9.1 ∧ f 7 = .int .i64 y10.1 ∧ f 8 = .int .i64 y10.2 ∧ f 9 = .pointer (some ⟨b34, 0, none⟩) ∧ f 10 = .int .i64 i_267 ∧ bs = [(b34, .cells [.int .i64 y29.Days, .int .i64 y29.Step, vout_268, .int .i64 y29.Wrong, y29_v1, .int .i64 y29.Reach, .int .i64 y29.Stock].toArray 25), (b1, .cells [.int .i64 t.Days, .int .i64 t.Step, t_v2, .int .i64 t.Wrong, t_v4, .int .i64 t.Reach, .int .i64 t.Stock].toArray 25)] ∧ gs = [⟨y29_v1, 41, 2, y29.Fairs.length, y29_xs1⟩, ⟨vout_268, 37, 3, out_268.length, xsout_268⟩] ∧ CH H269 3 R_Rain xsout_268 out_268 ∧ HSub H30 H269) ⟨y29_v0, y29_xs0, rfl, rfl, rfl, rfl, rfl, rfl, rfl, rfl, rfl, hy29_0, (HSub.refl _)⟩ ?_
                      rintro ⟨i_267, out_268⟩ x271 H269 f bs gs ⟨vout_268, xsout_268, hf1, hf2, hf5, hf7, hf8, hf9, hf10, rfl, rfl, hout_268, hs269⟩ hF hr270
                      rw [F_law11_RainsLiars_s1] at hF
                      refine (JC.norm (i := 1) hf1 (JC.norm (i := 2) hf2 (JC.norm (i := 5) hf5 (JC.norm (i := 7) hf7 (JC.norm (i := 8) hf8 (JC.norm (i := 9) hf9 (JC.norm (i := 10) hf10 ?_)))))))
                      refine JC.seq ?_
                      refine JC.seq ?_
                      refine JC.region (by rfl) ?_
                      intro hQ
                      refine JL.move .none rfl ?_
                      refine JL.fieldAddr fo_25_2 rfl .none rfl ?_
                      refine JL.loadOwn 1 az_22 rfl rfl rfl .none rfl ?_
                      refine JL.lenSL (R := R_Rain) ul_22 (SL.mono R_Rain_mono (HSub.trans hs30 hs269) ht_2) .none rfl ?_
                      refine JL.bin rfl rfl rfl .none rfl ?_
                      refine JL.done hQ ?_
                      refine JQ.go ?_
                      rcases ite_some hF with ⟨hc272, hF⟩ | ⟨hc272, hF⟩
                      · refine JC.cond_t (b := decide (i_267 < (t.Rains.length : Int))) rfl hc272 ?_
                        refine JC.skip ?_
                        refine JQ.go ?_
                        refine JC.seq ?_
                        refine JC.block ?_
                        obtain ⟨u279, hu279, hF⟩ := bind_some hF
                        obtain ⟨y280, hy280, hF⟩ := bind_some hF
                        obtain ⟨y285, hy285, hF⟩ := bind_some hF
                        refine JC.mixed 15 16 #[false, false, false, false, false, false, false, false, false, false, false, false, false, false, false, false] [(b34, .cells [.int .i64 y29.Days, .int .i64 y29.Step, vout_268, .int .i64 y29.Wrong, y29_v1, .int .i64 y29.Reach, .int .i64 y29.Stock].toArray 25), (b1, .cells [.int .i64 t.Days, .int .i64 t.Step, t_v2, .int .i64 t.Wrong, t_v4, .int .i64 t.Reach, .int .i64 t.Stock].toArray 25)] (by rfl) mo_ (by kernel_rfl) (by kernel_rfl) ?_
                        intro hQ hE
                        refine JA.take 0 (listed' := #[true, false, false, false, false, false, false, false, false, false, false, false, false, false, false, false]) hQ rfl (by kernel_rfl) (by kernel_rfl) (by kernel_rfl) (by kernel_rfl) (by kernel_rfl) hE (HSub.refl _) (.cons_cons _ (.cons_cons _ (List.nil_sublist _))) ?_
                        refine JL.fieldAddr fo_25_2 rfl .none rfl ?_
                        refine JA.cont ?_
                        refine JA.take 1 (listed' := #[true, true, false, false, false, false, false, false, false, false, false, false, false, false, false, false]) hQ rfl (by kernel_rfl) (by kernel_rfl) (by kernel_rfl) (by kernel_rfl) (by kernel_rfl) hE (HSub.refl _) (.cons_cons _ (.cons_cons _ (List.nil_sublist _))) ?_
                        refine JL.loadOwn 0 az_22 rfl rfl rfl .none rfl ?_
                        refine JA.cont ?_
                        refine JA.take 2 (listed' := #[true, true, true, false, false, false, false, false, false, false, false, false, false, false, false, false]) hQ rfl (by kernel_rfl) (by kernel_rfl) (by kernel_rfl) (by kernel_rfl) (by kernel_rfl) hE (HSub.refl _) (.cons_cons _ (.cons_cons _ (List.nil_sublist _))) ?_
                        refine JL.move .none rfl ?_
                        refine JA.cont ?_
                        refine JA.take 3 (listed' := #[true, true, true, true, false, false, false, false, false, false, false, false, false, false, false, false]) hQ rfl (by kernel_rfl) (by kernel_rfl) (by kernel_rfl) (by kernel_rfl) (by kernel_rfl) hE (HSub.refl _) (.cons_cons _ (.cons_cons _ (List.nil_sublist _))) ?_
                        refine JL.fieldAddr fo_25_2 rfl .none rfl ?_
                        refine JA.cont ?_
                        refine JA.take 4 (listed' := #[true, true, true, true, true, false, false, false, false, false, false, false, false, false, false, false]) hQ rfl (by kernel_rfl) (by kernel_rfl) (by kernel_rfl) (by kernel_rfl) (by kernel_rfl) hE (HSub.refl _) (.cons_cons _ (.cons_cons _ (List.nil_sublist _))) ?_
                        refine JL.loadOwn 1 az_22 rfl rfl rfl .none rfl ?_
                        refine JA.cont ?_
                        refine JA.take 5 (listed' := #[true, true, true, true, true, true, false, false, false, false, false, false, false, false, false, false]) hQ rfl (by kernel_rfl) (by kernel_rfl) (by kernel_rfl) (by kernel_rfl) (by kernel_rfl) hE (HSub.refl _) (.cons_cons _ (.cons_cons _ (List.nil_sublist _))) ?_
                        refine JL.move .none rfl ?_
                        refine JA.cont ?_
                        refine JA.take 6 (listed' := #[true, true, true, true, true, true, true, false, false, false, false, false, false, false, false, false]) hQ rfl (by kernel_rfl) (by kernel_rfl) (by kernel_rfl) (by kernel_rfl) (by kernel_rfl) hE (HSub.refl _) (.cons_cons _ (.cons_cons _ (List.nil_sublist _))) ?_
                        refine JL.move .none rfl ?_
                        refine JA.cont ?_
                        refine JA.take 7 (listed' := #[true, true, true, true, true, true, true, true, false, false, false, false, false, false, false, false]) hQ rfl (by kernel_rfl) (by kernel_rfl) (by kernel_rfl) (by kernel_rfl) (by kernel_rfl) hE (HSub.refl _) (.cons_cons _ (.cons_cons _ (List.nil_sublist _))) ?_
                        refine JL.bin rfl rfl rfl .none rfl ?_
                        refine JA.cont ?_
                        refine JA.take 8 (listed' := #[true, true, true, true, true, true, true, true, true, false, false, false, false, false, false, false]) hQ rfl (by kernel_rfl) (by kernel_rfl) (by kernel_rfl) (by kernel_rfl) (by kernel_rfl) hE (HSub.refl _) (.cons_cons _ (.cons_cons _ (List.nil_sublist _))) ?_
                        refine JL.fieldAddr fo_25_2 rfl .none rfl ?_
                        refine JA.cont ?_
                        refine JA.take 9 (listed' := #[true, true, true, true, true, true, true, true, true, true, false, false, false, false, false, false]) hQ rfl (by kernel_rfl) (by kernel_rfl) (by kernel_rfl) (by kernel_rfl) (by kernel_rfl) hE (HSub.refl _) (.cons_cons _ (.cons_cons _ (List.nil_sublist _))) ?_
                        refine JL.loadOwn 1 az_22 rfl rfl rfl .none rfl ?_
                        refine JA.cont ?_
                        refine JA.take 10 (listed' := #[true, true, true, true, true, true, true, true, true, true, true, false, false, false, false, false]) hQ rfl (by kernel_rfl) (by kernel_rfl) (by kernel_rfl) (by kernel_rfl) (by kernel_rfl) hE (HSub.refl _) (.cons_cons _ (.cons_cons _ (List.nil_sublist _))) ?_
                        refine JL.lenSL (R := R_Rain) ul_22 (SL.mono R_Rain_mono (HSub.trans hs30 hs269) ht_2) .none rfl ?_
                        refine JA.cont ?_
                        refine JA.take 11 (listed' := #[true, true, true, true, true, true, true, true, true, true, true, true, false, false, false, false]) hQ rfl (by kernel_rfl) (by kernel_rfl) (by kernel_rfl) (by kernel_rfl) (by kernel_rfl) hE (HSub.refl _) (.cons_cons _ (.cons_cons _ (List.nil_sublist _))) ?_
                        refine JL.div rfl rfl (nz_some hu279) rfl .none rfl ?_
                        refine JA.cont ?_
                        refine JA.take 12 (listed' := #[true, true, true, true, true, true, true, true, true, true, true, true, true, false, false, false]) hQ rfl (by kernel_rfl) (by kernel_rfl) (by kernel_rfl) (by kernel_rfl) (by kernel_rfl) hE (HSub.refl _) (.cons_cons _ (.cons_cons _ (List.nil_sublist _))) ?_
                        refine JL.indexSL (R := R_Rain) sl_22 (SL.mono R_Rain_mono (HSub.trans hs30 hs269) ht_2) rfl hy280 .none rfl ?_
                        rintro b306 o307 cs308 hc309 - rfl
                        refine JA.cont ?_
                        refine JA.take 13 (listed' := #[true, true, true, true, true, true, true, true, true, true, true, true, true, true, false, false]) hQ rfl (by kernel_rfl) (by kernel_rfl) (by kernel_rfl) (by kernel_rfl) (by kernel_rfl) hE (HSub.refl _) (.cons_cons _ (.cons_cons _ (List.nil_sublist _))) ?_
                        refine JL.loadH 0 az_37 rfl hc309 rfl .none rfl ?_
                        refine JA.cont ?_
                        refine JA.many [14] (by kernel_rfl) (by simp) (all_one ⟨_, #[true, true, true, true, true, true, true, true, true, true, true, true, true, true, true, false], rfl, (by kernel_rfl), ?_⟩)
                        refine JL.indexG 1 (l := out_268) sl_22 rfl rfl rfl rfl hy285 .none rfl ?_
                        intro b310 hb311
                        refine JA.after hE (HSub.refl _) (.cons_cons _ (.cons_cons _ (List.nil_sublist _))) ?_
                        refine JA.many [15] (by kernel_rfl) (by simp) (all_one ⟨_, #[true, true, true, true, true, true, true, true, true, true, true, true, true, true, true, true], rfl, (by kernel_rfl), ?_⟩)
                        refine JL.storeG (R := R_Rain) 1 (i := i_267) (l := out_268) (y := y285) (y' := y280) (off := 0) az_37 rfl rfl rfl rfl (one_cons rfl (one_cons rfl (one_cons rfl one_nil))) rfl hb311 hout_268 rfl hy285 rfl (by rintro cs rfl; rfl) .none ?_
                        intro xs312 hch313
                        refine JA.sink (by kernel_rfl) ?_
                        refine JA.done hQ (by kernel_rfl) ?_
                        refine JQ.normal_block ?_
                        refine JQ.go ?_
                        refine JC.fresh (fun f => f 1 = .int .i64 by_ ∧ f 2 = .pointer (some ⟨b1, 0, none⟩) ∧ f 5 = .int .i64 y9.1 ∧ f 7 = .int .i64 y10.1 ∧ f 8 = .int .i64 y10.2 ∧ f 9 = .pointer (some ⟨b34, 0, none⟩) ∧ f 10 = .int .i64 i_267) ⟨rfl, rfl, rfl, rfl, rfl, rfl, rfl⟩ ?_
                        rintro f ⟨hf1, hf2, hf5, hf7, hf8, hf9, hf10⟩
                        refine (JC.norm (i := 1) hf1 (JC.norm (i := 2) hf2 (JC.norm (i := 5) hf5 (JC.norm (i := 7) hf7 (JC.norm (i := 8) hf8 (JC.norm (i := 9) hf9 (JC.norm (i := 10) hf10 ?_)))))))
                        refine JC.region (by rfl) ?_
                        intro hQ
                        refine JL.move .none rfl ?_
                        refine JL.bin rfl rfl rfl .none rfl ?_
                        refine JL.assign .none rfl ?_
                        refine JL.done hQ ?_
                        obtain rfl := Option.some.inj hF
                        exact JQ.next rfl ⟨vout_268, xs312, rfl, rfl, rfl, rfl, rfl, rfl, rfl, rfl, rfl, hch313, hs269⟩
                      · refine JC.cond_f (b := decide (i_267 < (t.Rains.length : Int))) rfl hc272 ?_
                        refine JC.exit ?_
                        refine JQ.exit_then ?_
                        refine JQ.exit_then ?_
                        refine JQ.exit_block ?_
                        obtain rfl := Option.some.inj hF
                        have ehr270 := hr270 _ rfl
                        subst ehr270
                        exact JQ.join out_268 ⟨vout_268, xsout_268, rfl, rfl, rfl, rfl, rfl, rfl, rfl, hout_268, hs269, rfl⟩
                    · rintro out_174 H175 f bs gs ⟨vout_174, xsout_174, hf2, hf5, hf7, hf8, hf9, rfl, rfl, hout_174, hs175, rfl⟩
                      have hF := hKr176
                      try dsimp only at hF
                      refine (JQ.norm (i := 2) hf2 (JQ.norm (i := 5) hf5 (JQ.norm (i := 7) hf7 (JQ.norm (i := 8) hf8 (JQ.norm (i := 9) hf9 ?_)))))
                      refine JQ.go ?_
                      refine JC.seq ?_
                      refine JC.region (by rfl) ?_
                      intro hQ
                      refine JL.loadOwn 0 az_25 rfl rfl rfl .none rfl ?_
                      refine JL.freezeG 1 (R := R_Rain) rfl R_Rain_mono hout_174 rfl ?_
                      intro H314 hs314 hg315
                      refine JL.freezeG 0 (R := R_Fair) rfl R_Fair_mono (CH.mono R_Fair_mono (HSub.trans hs175 hs314) hy29_1) rfl ?_
                      intro H316 hs316 hg317
                      obtain ⟨y318, hy318, hF⟩ := bind_some hF
                      refine JL.callS (c_rains_Fewest n H316 (Tour.mk y29.Days y29.Step out_174 y29.Wrong y29.Fairs y29.Reach y29.Stock) vout_174 (SL.mono R_Rain_mono hs316 hg315) y29_v1 hg317 y318 hy318) rfl en_28 .none rfl ?_
                      refine JL.move .none rfl ?_
                      refine JL.extract rfl rfl .none rfl ?_
                      refine JL.extract rfl rfl .none rfl ?_
                      refine JL.assign .none rfl ?_
                      refine JL.assign .none rfl ?_
                      refine JL.done hQ ?_
                      refine JQ.go ?_
                      refine JC.seq ?_
                      refine JC.region (by rfl) ?_
                      intro hQ
                      refine JL.loadOwn 0 az_25 rfl rfl rfl .none rfl ?_
                      obtain ⟨y319, hy319, hF⟩ := bind_some hF
                      refine JL.callS (c_rains_Many n H316 (Tour.mk y29.Days y29.Step out_174 y29.Wrong y29.Fairs y29.Reach y29.Stock) vout_174 (SL.mono R_Rain_mono hs316 hg315) y29_v1 hg317 y319 hy319) rfl en_29 .none rfl ?_
                      refine JL.move .none rfl ?_
                      refine JL.extract rfl rfl .none rfl ?_
                      refine JL.extract rfl rfl .none rfl ?_
                      refine JL.assign .none rfl ?_
                      refine JL.assign .none rfl ?_
                      refine JL.done hQ ?_
                      refine JQ.go ?_
                      refine JC.fresh (fun f => f 2 = .pointer (some ⟨b1, 0, none⟩) ∧ f 5 = .int .i64 y9.1 ∧ f 7 = .int .i64 y10.1 ∧ f 8 = .int .i64 y10.2 ∧ f 9 = .pointer (some ⟨b34, 0, none⟩) ∧ f 11 = .int .i64 y318.1 ∧ f 12 = .int .i64 y318.2 ∧ f 13 = .int .i64 y319.1 ∧ f 14 = .int .i64 y319.2) ⟨rfl, rfl, rfl, rfl, rfl, rfl, rfl, rfl, rfl⟩ ?_
                      rintro f ⟨hf2, hf5, hf7, hf8, hf9, hf11, hf12, hf13, hf14⟩
                      refine (JC.norm (i := 2) hf2 (JC.norm (i := 5) hf5 (JC.norm (i := 7) hf7 (JC.norm (i := 8) hf8 (JC.norm (i := 9) hf9 (JC.norm (i := 11) hf11 (JC.norm (i := 12) hf12 (JC.norm (i := 13) hf13 (JC.norm (i := 14) hf14 ?_)))))))))
                      refine JC.seq ?_
                      refine JC.region (by rfl) ?_
                      intro hQ
                      refine JL.loadOwn 1 az_25 rfl rfl rfl .none rfl ?_
                      obtain ⟨y320, hy320, hF⟩ := bind_some hF
                      refine JL.callS (c_rains_Best n H316 t t_v2 (SL.mono R_Rain_mono (HSub.trans hs30 (HSub.trans hs175 (HSub.trans hs314 hs316))) ht_2) t_v4 (SL.mono R_Fair_mono (HSub.trans hs30 (HSub.trans hs175 (HSub.trans hs314 hs316))) ht_4) y320 hy320) rfl en_23 .none rfl ?_
                      refine JL.move .none rfl ?_
                      refine JL.extract rfl rfl .none rfl ?_
                      refine JL.extract rfl rfl .none rfl ?_
                      refine JL.assign .none rfl ?_
                      refine JL.assign .none rfl ?_
                      refine JL.done hQ ?_
                      refine JQ.go ?_
                      refine JC.seq ?_
                      refine JC.region (by rfl) ?_
                      intro hQ
                      refine JL.loadOwn 0 az_25 rfl rfl rfl .none rfl ?_
                      obtain ⟨y321, hy321, hF⟩ := bind_some hF
                      refine JL.callS (c_rains_Best n H316 (Tour.mk y29.Days y29.Step out_174 y29.Wrong y29.Fairs y29.Reach y29.Stock) vout_174 (SL.mono R_Rain_mono hs316 hg315) y29_v1 hg317 y321 hy321) rfl en_23 .none rfl ?_
                      refine JL.move .none rfl ?_
                      refine JL.extract rfl rfl .none rfl ?_
                      refine JL.extract rfl rfl .none rfl ?_
                      refine JL.assign .none rfl ?_
                      refine JL.assign .none rfl ?_
                      refine JL.done hQ ?_
                      refine JQ.go ?_
                      refine JC.fresh (fun f => f 5 = .int .i64 y9.1 ∧ f 7 = .int .i64 y10.1 ∧ f 8 = .int .i64 y10.2 ∧ f 11 = .int .i64 y318.1 ∧ f 12 = .int .i64 y318.2 ∧ f 13 = .int .i64 y319.1 ∧ f 14 = .int .i64 y319.2 ∧ f 15 = .int .i64 y320.1 ∧ f 16 = .int .i64 y320.2 ∧ f 17 = .int .i64 y321.1 ∧ f 18 = .int .i64 y321.2) ⟨rfl, rfl, rfl, rfl, rfl, rfl, rfl, rfl, rfl, rfl, rfl⟩ ?_
                      rintro f ⟨hf5, hf7, hf8, hf11, hf12, hf13, hf14, hf15, hf16, hf17, hf18⟩
                      refine (JC.norm (i := 5) hf5 (JC.norm (i := 7) hf7 (JC.norm (i := 8) hf8 (JC.norm (i := 11) hf11 (JC.norm (i := 12) hf12 (JC.norm (i := 13) hf13 (JC.norm (i := 14) hf14 (JC.norm (i := 15) hf15 (JC.norm (i := 16) hf16 (JC.norm (i := 17) hf17 (JC.norm (i := 18) hf18 ?_)))))))))))
                      refine JC.seq ?_
                      refine JC.region (by rfl) ?_
                      intro hQ
                      refine JL.move .none rfl ?_
                      refine JL.move .none rfl ?_
                      refine JL.bin rfl rfl rfl .none rfl ?_
                      refine JL.move .none rfl ?_
                      refine JL.cut 3 (fun f => f 7 = .int .i64 y10.1 ∧ f 8 = .int .i64 y10.2 ∧ f 13 = .int .i64 y319.1 ∧ f 14 = .int .i64 y319.2 ∧ f 15 = .int .i64 y320.1 ∧ f 16 = .int .i64 y320.2 ∧ f 17 = .int .i64 y321.1 ∧ f 18 = .int .i64 y321.2 ∧ f 126 = .bool ((y318.1 == y9.1) && (y318.2 == 0))) ?_ ?_
                      · intro hJ322
                        rcases bcases (y318.1 == y9.1) with hc323 | hc323
                        · skip
                          refine JL.move (.some rfl rfl rfl hc323) rfl ?_
                          refine JL.bin rfl rfl rfl (.some rfl rfl rfl hc323) rfl ?_
                          refine JL.pick_t (b := (y318.1 == y9.1)) rfl hc323 .none rfl ?_
                          exact hJ322 _ ⟨rfl, rfl, rfl, rfl, rfl, rfl, rfl, rfl, and_t hc323 rfl⟩
                        · skip
                          refine JL.skip (.bool rfl rfl rfl hc323) rfl ?_
                          refine JL.skip (.bool rfl rfl rfl hc323) rfl ?_
                          refine JL.pick_f (b := (y318.1 == y9.1)) rfl hc323 .none rfl ?_
                          exact hJ322 _ ⟨rfl, rfl, rfl, rfl, rfl, rfl, rfl, rfl, and_f hc323 rfl⟩
                      · rintro f ⟨hf7, hf8, hf13, hf14, hf15, hf16, hf17, hf18, hf126⟩
                        refine (JL.norm (i := 7) hf7 (JL.norm (i := 8) hf8 (JL.norm (i := 13) hf13 (JL.norm (i := 14) hf14 (JL.norm (i := 15) hf15 (JL.norm (i := 16) hf16 (JL.norm (i := 17) hf17 (JL.norm (i := 18) hf18 (JL.norm (i := 126) hf126 ?_)))))))))
                        refine JL.move .none rfl ?_
                        refine JL.cut 4 (fun f => f 8 = .int .i64 y10.2 ∧ f 14 = .int .i64 y319.2 ∧ f 15 = .int .i64 y320.1 ∧ f 16 = .int .i64 y320.2 ∧ f 17 = .int .i64 y321.1 ∧ f 18 = .int .i64 y321.2 ∧ f 131 = .bool (((y318.1 == y9.1) && (y318.2 == 0)) && (y319.1 == y10.1))) ?_ ?_
                        · intro hJ324
                          rcases bcases ((y318.1 == y9.1) && (y318.2 == 0)) with hc325 | hc325
                          · skip
                            refine JL.move (.some rfl rfl rfl hc325) rfl ?_
                            refine JL.move (.some rfl rfl rfl hc325) rfl ?_
                            refine JL.bin rfl rfl rfl (.some rfl rfl rfl hc325) rfl ?_
                            refine JL.pick_t (b := ((y318.1 == y9.1) && (y318.2 == 0))) rfl hc325 .none rfl ?_
                            exact hJ324 _ ⟨rfl, rfl, rfl, rfl, rfl, rfl, and_t hc325 rfl⟩
                          · skip
                            refine JL.skip (.bool rfl rfl rfl hc325) rfl ?_
                            refine JL.skip (.bool rfl rfl rfl hc325) rfl ?_
                            refine JL.skip (.bool rfl rfl rfl hc325) rfl ?_
                            refine JL.pick_f (b := ((y318.1 == y9.1) && (y318.2 == 0))) rfl hc325 .none rfl ?_
                            exact hJ324 _ ⟨rfl, rfl, rfl, rfl, rfl, rfl, and_f hc325 rfl⟩
                        · rintro f ⟨hf8, hf14, hf15, hf16, hf17, hf18, hf131⟩
                          refine (JL.norm (i := 8) hf8 (JL.norm (i := 14) hf14 (JL.norm (i := 15) hf15 (JL.norm (i := 16) hf16 (JL.norm (i := 17) hf17 (JL.norm (i := 18) hf18 (JL.norm (i := 131) hf131 ?_)))))))
                          refine JL.move .none rfl ?_
                          refine JL.cut 4 (fun f => f 15 = .int .i64 y320.1 ∧ f 16 = .int .i64 y320.2 ∧ f 17 = .int .i64 y321.1 ∧ f 18 = .int .i64 y321.2 ∧ f 136 = .bool ((((y318.1 == y9.1) && (y318.2 == 0)) && (y319.1 == y10.1)) && (y319.2 == y10.2))) ?_ ?_
                          · intro hJ326
                            rcases bcases (((y318.1 == y9.1) && (y318.2 == 0)) && (y319.1 == y10.1)) with hc327 | hc327
                            · skip
                              refine JL.move (.some rfl rfl rfl hc327) rfl ?_
                              refine JL.move (.some rfl rfl rfl hc327) rfl ?_
                              refine JL.bin rfl rfl rfl (.some rfl rfl rfl hc327) rfl ?_
                              refine JL.pick_t (b := (((y318.1 == y9.1) && (y318.2 == 0)) && (y319.1 == y10.1))) rfl hc327 .none rfl ?_
                              exact hJ326 _ ⟨rfl, rfl, rfl, rfl, and_t hc327 rfl⟩
                            · skip
                              refine JL.skip (.bool rfl rfl rfl hc327) rfl ?_
                              refine JL.skip (.bool rfl rfl rfl hc327) rfl ?_
                              refine JL.skip (.bool rfl rfl rfl hc327) rfl ?_
                              refine JL.pick_f (b := (((y318.1 == y9.1) && (y318.2 == 0)) && (y319.1 == y10.1))) rfl hc327 .none rfl ?_
                              exact hJ326 _ ⟨rfl, rfl, rfl, rfl, and_f hc327 rfl⟩
                          · rintro f ⟨hf15, hf16, hf17, hf18, hf136⟩
                            refine (JL.norm (i := 15) hf15 (JL.norm (i := 16) hf16 (JL.norm (i := 17) hf17 (JL.norm (i := 18) hf18 (JL.norm (i := 136) hf136 ?_)))))
                            refine JL.move .none rfl ?_
                            refine JL.cut 4 (fun f => f 16 = .int .i64 y320.2 ∧ f 18 = .int .i64 y321.2 ∧ f 141 = .bool (((((y318.1 == y9.1) && (y318.2 == 0)) && (y319.1 == y10.1)) && (y319.2 == y10.2)) && (y320.1 == y321.1))) ?_ ?_
                            · intro hJ328
                              rcases bcases ((((y318.1 == y9.1) && (y318.2 == 0)) && (y319.1 == y10.1)) && (y319.2 == y10.2)) with hc329 | hc329
                              · skip
                                refine JL.move (.some rfl rfl rfl hc329) rfl ?_
                                refine JL.move (.some rfl rfl rfl hc329) rfl ?_
                                refine JL.bin rfl rfl rfl (.some rfl rfl rfl hc329) rfl ?_
                                refine JL.pick_t (b := ((((y318.1 == y9.1) && (y318.2 == 0)) && (y319.1 == y10.1)) && (y319.2 == y10.2))) rfl hc329 .none rfl ?_
                                exact hJ328 _ ⟨rfl, rfl, and_t hc329 rfl⟩
                              · skip
                                refine JL.skip (.bool rfl rfl rfl hc329) rfl ?_
                                refine JL.skip (.bool rfl rfl rfl hc329) rfl ?_
                                refine JL.skip (.bool rfl rfl rfl hc329) rfl ?_
                                refine JL.pick_f (b := ((((y318.1 == y9.1) && (y318.2 == 0)) && (y319.1 == y10.1)) && (y319.2 == y10.2))) rfl hc329 .none rfl ?_
                                exact hJ328 _ ⟨rfl, rfl, and_f hc329 rfl⟩
                            · rintro f ⟨hf16, hf18, hf141⟩
                              refine (JL.norm (i := 16) hf16 (JL.norm (i := 18) hf18 (JL.norm (i := 141) hf141 ?_)))
                              refine JL.move .none rfl ?_
                              refine JL.cut 4 (fun f => f 146 = .bool ((((((y318.1 == y9.1) && (y318.2 == 0)) && (y319.1 == y10.1)) && (y319.2 == y10.2)) && (y320.1 == y321.1)) && (y320.2 == y321.2))) ?_ ?_
                              · intro hJ330
                                rcases bcases (((((y318.1 == y9.1) && (y318.2 == 0)) && (y319.1 == y10.1)) && (y319.2 == y10.2)) && (y320.1 == y321.1)) with hc331 | hc331
                                · skip
                                  refine JL.move (.some rfl rfl rfl hc331) rfl ?_
                                  refine JL.move (.some rfl rfl rfl hc331) rfl ?_
                                  refine JL.bin rfl rfl rfl (.some rfl rfl rfl hc331) rfl ?_
                                  refine JL.pick_t (b := (((((y318.1 == y9.1) && (y318.2 == 0)) && (y319.1 == y10.1)) && (y319.2 == y10.2)) && (y320.1 == y321.1))) rfl hc331 .none rfl ?_
                                  exact hJ330 _ (and_t hc331 rfl)
                                · skip
                                  refine JL.skip (.bool rfl rfl rfl hc331) rfl ?_
                                  refine JL.skip (.bool rfl rfl rfl hc331) rfl ?_
                                  refine JL.skip (.bool rfl rfl rfl hc331) rfl ?_
                                  refine JL.pick_f (b := (((((y318.1 == y9.1) && (y318.2 == 0)) && (y319.1 == y10.1)) && (y319.2 == y10.2)) && (y320.1 == y321.1))) rfl hc331 .none rfl ?_
                                  exact hJ330 _ (and_f hc331 rfl)
                              · rintro f hf146
                                refine (JL.norm (i := 146) hf146 ?_)
                                refine JL.move .none rfl ?_
                                obtain ⟨p333, hp333, hF⟩ := bind_some hF
                                refine JL.cut 2 (fun f => f 149 = .bool p333) ?_ ?_
                                · intro hJ334
                                  rcases ite_some hp333 with ⟨hc335, hF⟩ | ⟨hc335, hF⟩
                                  · skip
                                    obtain ⟨y336, hy336, hF⟩ := bind_some hF
                                    refine JL.callS (c_law11_works n H316 y336 hy336) rfl en_13 (.some rfl rfl rfl hc335) rfl ?_
                                    refine JL.pick_t (b := ((((((y318.1 == y9.1) && (y318.2 == 0)) && (y319.1 == y10.1)) && (y319.2 == y10.2)) && (y320.1 == y321.1)) && (y320.2 == y321.2))) rfl hc335 .none rfl ?_
                                    obtain rfl := Option.some.inj hF
                                    exact hJ334 _ (rfl)
                                  · skip
                                    refine JL.skip (.bool rfl rfl rfl hc335) rfl ?_
                                    refine JL.pick_f (b := ((((((y318.1 == y9.1) && (y318.2 == 0)) && (y319.1 == y10.1)) && (y319.2 == y10.2)) && (y320.1 == y321.1)) && (y320.2 == y321.2))) rfl hc335 .none rfl ?_
                                    obtain rfl := Option.some.inj hF
                                    exact hJ334 _ (rfl)
                                · rintro f hf149
                                  refine (JL.norm (i := 149) hf149 ?_)
                                  refine JL.assign .none rfl ?_
                                  refine JL.done hQ ?_
                                  refine JQ.go ?_
                                  refine JC.ret ?_
                                  obtain rfl := Option.some.inj hF
                                  exact JQ.outS rfl (.tmp .nil) rfl

end Go.Proofs.Ytooankffknoomaa
