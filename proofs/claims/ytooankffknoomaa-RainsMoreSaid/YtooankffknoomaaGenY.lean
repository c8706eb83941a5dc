/-
  Printed by a program: results that the caller owns, and functions that turn them.
-/
import Derived.Test.YtooankffknoomaaGenK16
import Derived.Test.YtooankffknoomaaEngS
namespace Go.Proofs.Ytooankffknoomaa
open Go Go.RowKit Go.Dec
set_option linter.unusedVariables false

theorem en_21 : Ent Try.prog 21 := enters_of Try.func21 (by kernel_rfl) rfl
set_option maxRecDepth 100000 in
set_option maxHeartbeats 40000000 in
theorem x_ref11_Copy (n : Nat) (H : Hp) (t : Tour) (t_v2 : Value) (ht_2 : SL H 3 R_Rain t_v2 t.Rains) (t_v4 : Value) (ht_4 : SL H 2 R_Fair t_v4 t.Fairs) (y : Tour) (hF : F_ref11_Copy n t = some y) : XC Try.prog 14 [.agg [.int .i64 t.Days, .int .i64 t.Step, t_v2, .int .i64 t.Wrong, t_v4, .int .i64 t.Reach, .int .i64 t.Stock].toArray] H (fun H' v gs' => ∃ (y_v0 : Value) (y_xs0 : List Value) (y_v1 : Value) (y_xs1 : List Value), v = .agg [.int .i64 y.Days, .int .i64 y.Step, y_v0, .int .i64 y.Wrong, y_v1, .int .i64 y.Reach, .int .i64 y.Stock].toArray ∧ gs' = [⟨y_v1, 41, 2, y.Fairs.length, y_xs1⟩, ⟨y_v0, 37, 3, y.Rains.length, y_xs0⟩] ∧ CH H' 3 R_Rain y_xs0 y.Rains ∧ CH H' 2 R_Fair y_xs1 y.Fairs) := by
  rw [F_ref11_Copy] at hF
  refine XC.of (N := 40) Try.func14 rfl rfl rfl fun w => ?_
  refine JC.seq ?_
  refine JC.region (by rfl) ?_
  intro hQ
  refine JL.box (cs := [.int .i64 t.Days, .int .i64 t.Step, t_v2, .int .i64 t.Wrong, t_v4, .int .i64 t.Reach, .int .i64 t.Stock]) rfl .none rfl ?_
  intro b1
  refine JL.alloc ze_25 .none rfl ?_
  intro b2
  refine JL.done hQ ?_
  refine JQ.go ?_
  refine JC.seq ?_
  refine JC.region (by rfl) ?_
  intro hQ
  refine JL.loadOwn 1 az_25 rfl rfl rfl .none rfl ?_
  refine JL.alloc ze_25 .none rfl ?_
  intro b3
  refine JL.storeOwn 0 (cs := [.int .i64 t.Days, .int .i64 t.Step, t_v2, .int .i64 t.Wrong, t_v4, .int .i64 t.Reach, .int .i64 t.Stock]) az_25 rfl rfl rfl (one_cons rfl (one_cons rfl (one_cons (SL.one ht_2) (one_cons rfl (one_cons (SL.one ht_4) (one_cons rfl (one_cons rfl one_nil))))))) rfl rfl .none ?_
  refine JL.done hQ ?_
  refine JQ.go ?_
  refine JC.seq ?_
  refine JC.region (by rfl) ?_
  intro hQ
  refine JL.emptySlice ap_22 .none rfl ?_
  intro v4
  refine JL.fieldAddr fo_25_2 rfl .none rfl ?_
  refine JL.loadOwn 2 az_22 rfl rfl rfl .none rfl ?_
  obtain ⟨l6, hl6, hF⟩ := bind_some hF
  refine JL.appD (R := R_Rain) 0 (l := ([] : List Rain)) (m := t.Rains) ap_22 rfl ⟨rfl, rfl⟩ rfl CH.nil rfl ht_2 (R_Rain_one _) hl6 .none rfl ?_
  intro v7 xs8 hch9
  refine JL.fieldAddr fo_25_2 rfl .none rfl ?_
  refine JL.oneG 0 rfl (fun ho10 => ?_)
  refine JL.storeOwn 0 (cs := [v7]) az_22 rfl ho10.2 rfl (one_cons ho10.1 one_nil) rfl rfl .none ?_
  refine JL.done hQ ?_
  refine JQ.go ?_
  refine JC.seq ?_
  refine JC.region (by rfl) ?_
  intro hQ
  refine JL.fieldAddr fo_25_4 rfl .none rfl ?_
  refine JL.storeOwn 0 (cs := [.slice none 0 0]) az_23 rfl rfl rfl (one_cons rfl one_nil) rfl rfl .none ?_
  refine JL.done hQ ?_
  refine JQ.go ?_
  refine JC.seq ?_
  refine JC.seq ?_
  refine JC.region (by rfl) ?_
  intro hQ
  refine JL.assign .none rfl ?_
  refine JL.done hQ ?_
  refine JQ.go ?_
  refine JC.newNil (e := 41) (sz := 2) ?_
  obtain ⟨r421, hlr421, hKr421⟩ := bind_some hF
  refine JC.join (fun (out_419 : List Fair) H420 f bs gs => ∃ (vout_419 : Value) (xsout_419 : List Value), f 2 = .pointer (some ⟨b2, 0, none⟩) ∧ f 3 = .pointer (some ⟨b3, 0, none⟩) ∧ bs = [(b3, .cells [.int .i64 t.Days, .int .i64 t.Step, v7, .int .i64 t.Wrong, vout_419, .int .i64 t.Reach, .int .i64 t.Stock].toArray 25), (b2, .cells [.int .i64 0, .int .i64 0, .slice none 0 0, .int .i64 0, .slice none 0 0, .int .i64 0, .int .i64 0].toArray 25)] ∧ gs = [⟨vout_419, 41, 2, out_419.length, xsout_419⟩, ⟨v7, 37, 3, l6.length, xs8⟩] ∧ CH H420 2 R_Fair xsout_419 out_419 ∧ HSub H H420 ∧ out_419 = r421) ?_ ?_
  · skip
    refine JC.block ?_
    refine JC.loop hlr421 (fun (x : Int × List Fair) H626 f bs gs => match x with | (i_624, out_625) => ∃ (vout_625 : Value) (xsout_625 : List Value), f 1 = .pointer (some ⟨b1, 0, none⟩) ∧ f 2 = .pointer (some ⟨b2, 0, none⟩) ∧ f 3 = .pointer (some ⟨b3, 0, none⟩) ∧ f 4 = .int .i64 i_624 ∧ bs = [(b3, .cells [.int .i64 t.Days, .int .i64 t.Step, v7, .int .i64 t.Wrong, vout_625, .int .i64 t.Reach, .int .i64 t.Stock].toArray 25), (b2, .cells [.int .i64 0, .int .i64 0, .slice none 0 0, .int .i64 0, .slice none 0 0, .int .i64 0, .int .i64 0].toArray 25), (b1, .cells [.int .i64 t.Days, .int .i64 t.Step, t_v2, .int .i64 t.Wrong, t_v4, .int .i64 t.Reach, .int .i64 t.Stock].toArray 25)] ∧ gs = [⟨vout_625, 41, 2, out_625.length, xsout_625⟩, ⟨v7, 37, 3, l6.length, xs8⟩] ∧ CH H626 2 R_Fair xsout_625 out_625 ∧ HSub H H626) ⟨(.slice none 0 0), [], rfl, rfl, rfl, rfl, rfl, rfl, CH.nil, (HSub.refl _)⟩ ?_
    rintro ⟨i_624, out_625⟩ x628 H626 f bs gs ⟨vout_625, xsout_625, hf1, hf2, hf3, hf4, rfl, rfl, hout_625, hs626⟩ hF hr627
    rw [F_ref11_Copy_s1] at hF
    refine (JC.norm (i := 1) hf1 (JC.norm (i := 2) hf2 (JC.norm (i := 3) hf3 (JC.norm (i := 4) hf4 ?_))))
    refine JC.seq ?_
    refine JC.seq ?_
    refine JC.region (by rfl) ?_
    intro hQ
    refine JL.move .none rfl ?_
    refine JL.fieldAddr fo_25_4 rfl .none rfl ?_
    refine JL.loadOwn 2 az_23 rfl rfl rfl .none rfl ?_
    refine JL.lenSL (R := R_Fair) ul_23 (SL.mono R_Fair_mono hs626 ht_4) .none rfl ?_
    refine JL.bin rfl rfl rfl .none rfl ?_
    refine JL.done hQ ?_
    refine JQ.go ?_
    rcases ite_some hF with ⟨hc629, hF⟩ | ⟨hc629, hF⟩
    · refine JC.cond_t (b := decide (i_624 < (t.Fairs.length : Int))) rfl hc629 ?_
      refine JC.skip ?_
      refine JQ.go ?_
      refine JC.seq ?_
      refine JC.block ?_
      obtain ⟨y635, hy635, hF⟩ := bind_some hF
      obtain ⟨y642, hy642, hF⟩ := bind_some hF
      obtain ⟨l647, hl647, hF⟩ := bind_some hF
      obtain ⟨l656, hl656, hF⟩ := bind_some hF
      refine JC.mixed 20 21 #[false, false, false, false, false, false, false, false, false, false, false, false, false, false, false, false, false, false, false, false, false] [(b3, .cells [.int .i64 t.Days, .int .i64 t.Step, v7, .int .i64 t.Wrong, vout_625, .int .i64 t.Reach, .int .i64 t.Stock].toArray 25), (b2, .cells [.int .i64 0, .int .i64 0, .slice none 0 0, .int .i64 0, .slice none 0 0, .int .i64 0, .int .i64 0].toArray 25), (b1, .cells [.int .i64 t.Days, .int .i64 t.Step, t_v2, .int .i64 t.Wrong, t_v4, .int .i64 t.Reach, .int .i64 t.Stock].toArray 25)] (by rfl) mo_ (by kernel_rfl) (by kernel_rfl) ?_
      intro hQ hE
      refine JA.take 0 (listed' := #[true, false, false, false, false, false, false, false, false, false, false, false, false, false, false, false, false, false, false, false, false]) hQ rfl (by kernel_rfl) (by kernel_rfl) (by kernel_rfl) (by kernel_rfl) (by kernel_rfl) hE (HSub.refl _) (.cons_cons _ (.cons_cons _ (.cons_cons _ (List.nil_sublist _)))) ?_
      refine JL.fieldAddr fo_25_4 rfl .none rfl ?_
      refine JA.cont ?_
      refine JA.take 1 (listed' := #[true, true, false, false, false, false, false, false, false, false, false, false, false, false, false, false, false, false, false, false, false]) hQ rfl (by kernel_rfl) (by kernel_rfl) (by kernel_rfl) (by kernel_rfl) (by kernel_rfl) hE (HSub.refl _) (.cons_cons _ (.cons_cons _ (.cons_cons _ (List.nil_sublist _)))) ?_
      refine JL.loadOwn 0 az_23 rfl rfl rfl .none rfl ?_
      refine JA.cont ?_
      refine JA.take 2 (listed' := #[true, true, true, false, false, false, false, false, false, false, false, false, false, false, false, false, false, false, false, false, false]) hQ rfl (by kernel_rfl) (by kernel_rfl) (by kernel_rfl) (by kernel_rfl) (by kernel_rfl) hE (HSub.refl _) (.cons_cons _ (.cons_cons _ (.cons_cons _ (List.nil_sublist _)))) ?_
      refine JL.fieldAddr fo_25_4 rfl .none rfl ?_
      refine JA.cont ?_
      refine JA.take 3 (listed' := #[true, true, true, true, false, false, false, false, false, false, false, false, false, false, false, false, false, false, false, false, false]) hQ rfl (by kernel_rfl) (by kernel_rfl) (by kernel_rfl) (by kernel_rfl) (by kernel_rfl) hE (HSub.refl _) (.cons_cons _ (.cons_cons _ (.cons_cons _ (List.nil_sublist _)))) ?_
      refine JL.loadOwn 2 az_23 rfl rfl rfl .none rfl ?_
      refine JA.cont ?_
      refine JA.take 4 (listed' := #[true, true, true, true, true, false, false, false, false, false, false, false, false, false, false, false, false, false, false, false, false]) hQ rfl (by kernel_rfl) (by kernel_rfl) (by kernel_rfl) (by kernel_rfl) (by kernel_rfl) hE (HSub.refl _) (.cons_cons _ (.cons_cons _ (.cons_cons _ (List.nil_sublist _)))) ?_
      refine JL.move .none rfl ?_
      refine JA.cont ?_
      refine JA.take 5 (listed' := #[true, true, true, true, true, true, false, false, false, false, false, false, false, false, false, false, false, false, false, false, false]) hQ rfl (by kernel_rfl) (by kernel_rfl) (by kernel_rfl) (by kernel_rfl) (by kernel_rfl) hE (HSub.refl _) (.cons_cons _ (.cons_cons _ (.cons_cons _ (List.nil_sublist _)))) ?_
      refine JL.indexSL (R := R_Fair) sl_23 (SL.mono R_Fair_mono hs626 ht_4) rfl hy635 .none rfl ?_
      rintro b699 o700 cs701 hc702 - ⟨y635_v1, rfl, hy635_1⟩
      refine JA.cont ?_
      refine JA.take 6 (listed' := #[true, true, true, true, true, true, true, false, false, false, false, false, false, false, false, false, false, false, false, false, false]) hQ rfl (by kernel_rfl) (by kernel_rfl) (by kernel_rfl) (by kernel_rfl) (by kernel_rfl) hE (HSub.refl _) (.cons_cons _ (.cons_cons _ (.cons_cons _ (List.nil_sublist _)))) ?_
      refine JL.fieldAddr fo_41_0 rfl .none rfl ?_
      refine JA.cont ?_
      refine JA.take 7 (listed' := #[true, true, true, true, true, true, true, true, false, false, false, false, false, false, false, false, false, false, false, false, false]) hQ rfl (by kernel_rfl) (by kernel_rfl) (by kernel_rfl) (by kernel_rfl) (by kernel_rfl) hE (HSub.refl _) (.cons_cons _ (.cons_cons _ (.cons_cons _ (List.nil_sublist _)))) ?_
      refine JL.loadH 0 az_3 rfl hc702 rfl .none rfl ?_
      refine JA.cont ?_
      refine JA.take 9 (listed' := #[true, true, true, true, true, true, true, true, false, true, false, false, false, false, false, false, false, false, false, false, false]) hQ rfl (by kernel_rfl) (by kernel_rfl) (by kernel_rfl) (by kernel_rfl) (by kernel_rfl) hE (HSub.refl _) (.cons_cons _ (.cons_cons _ (.cons_cons _ (List.nil_sublist _)))) ?_
      refine JL.fieldAddr fo_25_4 rfl .none rfl ?_
      refine JA.cont ?_
      refine JA.take 10 (listed' := #[true, true, true, true, true, true, true, true, false, true, true, false, false, false, false, false, false, false, false, false, false]) hQ rfl (by kernel_rfl) (by kernel_rfl) (by kernel_rfl) (by kernel_rfl) (by kernel_rfl) hE (HSub.refl _) (.cons_cons _ (.cons_cons _ (.cons_cons _ (List.nil_sublist _)))) ?_
      refine JL.loadOwn 2 az_23 rfl rfl rfl .none rfl ?_
      refine JA.cont ?_
      refine JA.take 11 (listed' := #[true, true, true, true, true, true, true, true, false, true, true, true, false, false, false, false, false, false, false, false, false]) hQ rfl (by kernel_rfl) (by kernel_rfl) (by kernel_rfl) (by kernel_rfl) (by kernel_rfl) hE (HSub.refl _) (.cons_cons _ (.cons_cons _ (.cons_cons _ (List.nil_sublist _)))) ?_
      refine JL.move .none rfl ?_
      refine JA.cont ?_
      refine JA.take 12 (listed' := #[true, true, true, true, true, true, true, true, false, true, true, true, true, false, false, false, false, false, false, false, false]) hQ rfl (by kernel_rfl) (by kernel_rfl) (by kernel_rfl) (by kernel_rfl) (by kernel_rfl) hE (HSub.refl _) (.cons_cons _ (.cons_cons _ (.cons_cons _ (List.nil_sublist _)))) ?_
      refine JL.indexSL (R := R_Fair) sl_23 (SL.mono R_Fair_mono hs626 ht_4) rfl hy642 .none rfl ?_
      rintro b707 o708 cs709 hc710 - ⟨y642_v1, rfl, hy642_1⟩
      refine JA.cont ?_
      refine JA.take 13 (listed' := #[true, true, true, true, true, true, true, true, false, true, true, true, true, true, false, false, false, false, false, false, false]) hQ rfl (by kernel_rfl) (by kernel_rfl) (by kernel_rfl) (by kernel_rfl) (by kernel_rfl) hE (HSub.refl _) (.cons_cons _ (.cons_cons _ (.cons_cons _ (List.nil_sublist _)))) ?_
      refine JL.fieldAddr fo_41_1 rfl .none rfl ?_
      refine JA.cont ?_
      refine JA.take 14 (listed' := #[true, true, true, true, true, true, true, true, false, true, true, true, true, true, true, false, false, false, false, false, false]) hQ rfl (by kernel_rfl) (by kernel_rfl) (by kernel_rfl) (by kernel_rfl) (by kernel_rfl) hE (HSub.refl _) (.cons_cons _ (.cons_cons _ (.cons_cons _ (List.nil_sublist _)))) ?_
      refine JL.loadH 1 az_26 rfl hc710 rfl .none rfl ?_
      refine JA.cont ?_
      refine JA.many [8] (by kernel_rfl) (by simp) (all_one ⟨_, #[true, true, true, true, true, true, true, true, true, true, true, true, true, true, true, false, false, false, false, false, false], rfl, (by kernel_rfl), ?_⟩)
      refine JL.emptySlice ap_26 .none rfl ?_
      intro v711
      refine JA.after hE (HSub.refl _) (.cons_cons _ (.cons_cons _ (.cons_cons _ (List.nil_sublist _)))) ?_
      refine JA.many [15] (by kernel_rfl) (by simp) (all_one ⟨_, #[true, true, true, true, true, true, true, true, true, true, true, true, true, true, true, true, false, false, false, false, false], rfl, (by kernel_rfl), ?_⟩)
      refine JL.appD (R := RInt) 0 (l := ([] : List Int)) (m := y642.Sells) ap_26 rfl ⟨rfl, rfl⟩ rfl CH.nil rfl hy642_1 (RInt.one _) hl647 .none rfl ?_
      intro v713 xs714 hch715
      refine JA.after hE (HSub.refl _) (.cons_cons _ (.cons_cons _ (.cons_cons _ (List.nil_sublist _)))) ?_
      refine JA.many [16] (by kernel_rfl) (by simp) (all_one ⟨_, #[true, true, true, true, true, true, true, true, true, true, true, true, true, true, true, true, true, false, false, false, false], rfl, (by kernel_rfl), ?_⟩)
      refine JL.formG 0 rfl (fun a716 n717 c718 hh719 => ?_)
      dsimp only at hh719
      subst hh719
      refine JL.build (l := [.int .i64 y635.Price, (.slice a716 n717 c718)]) (by kernel_rfl) .none rfl ?_
      refine JA.after hE (HSub.refl _) (.cons_cons _ (.cons_cons _ (.cons_cons _ (List.nil_sublist _)))) ?_
      refine JA.many [17] (by kernel_rfl) (by simp) (all_one ⟨_, #[true, true, true, true, true, true, true, true, true, true, true, true, true, true, true, true, true, true, false, false, false], rfl, (by kernel_rfl), ?_⟩)
      refine JL.buildSlice (e := 41) (l := [.int .i64 y635.Price, (.slice a716 n717 c718)]) (by kernel_rfl) .none rfl ?_
      intro b720
      refine JA.after hE (HSub.refl _) (.cons _ (.cons_cons _ (.cons_cons _ (.cons_cons _ (List.nil_sublist _))))) ?_
      refine JA.many [18] (by kernel_rfl) (by simp) (all_one ⟨_, #[true, true, true, true, true, true, true, true, true, true, true, true, true, true, true, true, true, true, true, false, false], rfl, (by kernel_rfl), ?_⟩)
      refine JL.freezeG 0 (R := RInt) rfl RInt.mono hch715 rfl ?_
      intro H721 hs721 hg722
      refine JL.appO (R := R_Fair) 0 0 (l := out_625) (m := [(Fair.mk y635.Price l647)]) ap_23 rfl ⟨rfl, rfl⟩ rfl (CH.mono R_Fair_mono hs721 hout_625) rfl rfl rfl (CH.cons (cs := [.int .i64 y635.Price, (.slice a716 n717 c718)]) rfl ⟨(.slice a716 n717 c718), rfl, hg722⟩ CH.nil) rfl (one_cons rfl (one_cons (SL.one hg722) one_nil)) hl656 .none rfl ?_
      intro v723 xs724 hch725
      refine JA.after hE hs721 (.cons _ (.cons_cons _ (.cons_cons _ (.cons_cons _ (List.nil_sublist _))))) ?_
      refine JA.take 19 (listed' := #[true, true, true, true, true, true, true, true, true, true, true, true, true, true, true, true, true, true, true, true, false]) hQ rfl (by kernel_rfl) (by kernel_rfl) (by kernel_rfl) (by kernel_rfl) (by kernel_rfl) hE hs721 (.cons _ (.cons_cons _ (.cons_cons _ (.cons_cons _ (List.nil_sublist _))))) ?_
      refine JL.fieldAddr fo_25_4 rfl .none rfl ?_
      refine JA.cont ?_
      refine JA.many [20] (by kernel_rfl) (by simp) (all_one ⟨_, #[true, true, true, true, true, true, true, true, true, true, true, true, true, true, true, true, true, true, true, true, true], rfl, (by kernel_rfl), ?_⟩)
      refine JL.oneG 0 rfl (fun ho726 => ?_)
      refine JL.storeOwn 1 (cs := [v723]) az_23 rfl ho726.2 rfl (one_cons ho726.1 one_nil) rfl rfl .none ?_
      refine JA.sink (by kernel_rfl) ?_
      refine JA.done hQ (by kernel_rfl) ?_
      refine JQ.normal_block ?_
      refine JQ.go ?_
      refine JC.fresh (fun f => f 1 = .pointer (some ⟨b1, 0, none⟩) ∧ f 2 = .pointer (some ⟨b2, 0, none⟩) ∧ f 3 = .pointer (some ⟨b3, 0, none⟩) ∧ f 4 = .int .i64 i_624) ⟨rfl, rfl, rfl, rfl⟩ ?_
      rintro f ⟨hf1, hf2, hf3, hf4⟩
      refine (JC.norm (i := 1) hf1 (JC.norm (i := 2) hf2 (JC.norm (i := 3) hf3 (JC.norm (i := 4) hf4 ?_))))
      refine JC.region (by rfl) ?_
      intro hQ
      refine JL.move .none rfl ?_
      refine JL.bin rfl rfl rfl .none rfl ?_
      refine JL.assign .none rfl ?_
      refine JL.done hQ ?_
      obtain rfl := Option.some.inj hF
      refine JQ.mask [false, true, true, true] [true, true] ?_
      exact JQ.next rfl ⟨v723, xs724, rfl, rfl, rfl, rfl, rfl, rfl, hch725, (HSub.trans hs626 hs721)⟩
    · refine JC.cond_f (b := decide (i_624 < (t.Fairs.length : Int))) rfl hc629 ?_
      refine JC.exit ?_
      refine JQ.exit_then ?_
      refine JQ.exit_then ?_
      refine JQ.exit_block ?_
      obtain rfl := Option.some.inj hF
      have ehr627 := hr627 _ rfl
      subst ehr627
      refine JQ.mask [true, true, false] [true, true] ?_
      exact JQ.join out_625 ⟨vout_625, xsout_625, rfl, rfl, rfl, rfl, hout_625, hs626, rfl⟩
  · rintro out_419 H420 f bs gs ⟨vout_419, xsout_419, hf2, hf3, rfl, rfl, hout_419, hs420, rfl⟩
    have hF := hKr421
    try dsimp only at hF
    refine (JQ.norm (i := 2) hf2 (JQ.norm (i := 3) hf3 ?_))
    refine JQ.go ?_
    refine JC.seq ?_
    refine JC.region (by rfl) ?_
    intro hQ
    refine JL.loadOwn 0 az_25 rfl rfl rfl .none rfl ?_
    refine JL.oneG 1 rfl (fun ho727 => ?_)
    refine JL.oneG 0 rfl (fun ho728 => ?_)
    refine JL.storeOwn 1 (cs := [.int .i64 t.Days, .int .i64 t.Step, v7, .int .i64 t.Wrong, vout_419, .int .i64 t.Reach, .int .i64 t.Stock]) az_25 rfl rfl rfl (one_cons rfl (one_cons rfl (one_cons ho727.1 (one_cons rfl (one_cons ho728.1 (one_cons rfl (one_cons rfl one_nil))))))) rfl rfl .none ?_
    refine JL.done hQ ?_
    refine JQ.go ?_
    refine JC.ret ?_
    obtain rfl := Option.some.inj hF
    exact JQ.outX rfl (.cell 1 az_25 rfl rfl rfl .nil) ⟨v7, xs8, vout_419, xsout_419, rfl, rfl, (CH.mono R_Rain_mono hs420 hch9), hout_419⟩

-- 4 ferrule/ferrulelaw11.RainsMore
def F_law11_RainsMore (n : Nat) (t : Tour) (x_ : Rain) (route : List Int) : Option Bool :=
  (F_law11_ready n t).bind fun y3 => (if (((!y3) || (decide (10 ≤ (t.Rains.length : Int)))) || (decide (20 < (route.length : Int)))) = true then (some true) else ((F_ref11_IsRoute n t route).bind fun y12 => some (!y12)) : Option Bool).bind fun p9 => if p9 = true then ((F_law11_works n).bind fun y14 => some y14) else ((F_ref11_Copy n t).bind fun y16 => (F_ref11_Copy n t).bind fun y21 => (F_ref11_Copy n t).bind fun y26 => (lim (y16.Rains ++ [x_])).bind fun l204 => (F_law11_ready n (Tour.mk y16.Days y16.Step l204 y16.Wrong y16.Fairs y16.Reach y16.Stock)).bind fun y214 => if (!y214) = true then ((F_law11_works n).bind fun y216 => some y216) else ((F_law11_inside n (Tour.mk y16.Days y16.Step l204 y16.Wrong y16.Fairs y16.Reach y16.Stock) t route).bind fun y217 => (if y217 = true then ((F_law11_inside n t (Tour.mk y21.Days y21.Step y21.Rains (min 10 (w64 (t.Wrong + 1))) y21.Fairs y21.Reach y21.Stock) route).bind fun y231 => some y231) else (some false) : Option Bool).bind fun p223 => (if p223 = true then ((F_law11_inside n t (Tour.mk y26.Days (min 3 (w64 (t.Step + 1))) y26.Rains y26.Wrong y26.Fairs y26.Reach y26.Stock) route).bind fun y245 => some y245) else (some false) : Option Bool).bind fun p237 => (if p237 = true then ((F_law11_works n).bind fun y250 => some y250) else (some false) : Option Bool).bind fun p247 => some p247))
set_option maxRecDepth 100000 in
set_option maxHeartbeats 40000000 in
theorem c_law11_RainsMore (n : Nat) (H : Hp) (t : Tour) (t_v2 : Value) (ht_2 : SL H 3 R_Rain t_v2 t.Rains) (t_v4 : Value) (ht_4 : SL H 2 R_Fair t_v4 t.Fairs) (x_ : Rain) (route : List Int) (route_v0 : Value) (hroute_0 : SL H 1 RInt route_v0 route) (y : Bool) (hF : F_law11_RainsMore n t x_ route = some y) : SC Try.prog 4 [.agg [.int .i64 t.Days, .int .i64 t.Step, t_v2, .int .i64 t.Wrong, t_v4, .int .i64 t.Reach, .int .i64 t.Stock].toArray, .agg [.int .i64 x_.Day, .int .i64 x_.Level.Low, .int .i64 x_.Level.High].toArray, route_v0] (.bool y) H := by
  rw [F_law11_RainsMore] at hF
  refine SC.of (N := 76) Try.func4 rfl rfl rfl fun w => ?_
  refine JC.seq ?_
  refine JC.region (by rfl) ?_
  intro hQ
  refine JL.box (cs := [.int .i64 t.Days, .int .i64 t.Step, t_v2, .int .i64 t.Wrong, t_v4, .int .i64 t.Reach, .int .i64 t.Stock]) rfl .none rfl ?_
  intro b1
  refine JL.box (cs := [.int .i64 x_.Day, .int .i64 x_.Level.Low, .int .i64 x_.Level.High]) rfl .none rfl ?_
  intro b2
  refine JL.assign .none rfl ?_
  refine JL.done hQ ?_
  refine JQ.go ?_
  refine JC.seq ?_
  refine JC.seq ?_
  refine JC.region (by rfl) ?_
  intro hQ
  refine JL.loadOwn 1 az_25 rfl rfl rfl .none rfl ?_
  obtain ⟨y3, hy3, hF⟩ := bind_some hF
  refine JL.callS (c_law11_ready n H t t_v2 ht_2 t_v4 ht_4 y3 hy3) rfl en_19 .none rfl ?_
  refine JL.not rfl .none rfl ?_
  refine JL.move .none rfl ?_
  refine JL.cut 5 (fun f => f 2 = route_v0 ∧ f 3 = .pointer (some ⟨b1, 0, none⟩) ∧ f 4 = .pointer (some ⟨b2, 0, none⟩) ∧ f 18 = .bool ((!y3) || (decide (10 ≤ (t.Rains.length : Int))))) ?_ ?_
  · intro hJ4
    rcases bcases (!y3) with hc5 | hc5
    · skip
      refine JL.skip (.bool rfl rfl rfl hc5) rfl ?_
      refine JL.skip (.bool rfl rfl rfl hc5) rfl ?_
      refine JL.skip (.bool rfl rfl rfl hc5) rfl ?_
      refine JL.skip (.bool rfl rfl rfl hc5) rfl ?_
      refine JL.pick_t (b := (!y3)) rfl hc5 .none rfl ?_
      exact hJ4 _ ⟨rfl, rfl, rfl, or_t hc5 rfl⟩
    · skip
      refine JL.fieldAddr fo_25_2 rfl (.some rfl rfl rfl hc5) rfl ?_
      refine JL.loadOwn 1 az_22 rfl rfl rfl (.some rfl rfl rfl hc5) rfl ?_
      refine JL.lenSL (R := R_Rain) ul_22 ht_2 (.some rfl rfl rfl hc5) rfl ?_
      refine JL.bin rfl rfl rfl (.some rfl rfl rfl hc5) rfl ?_
      refine JL.pick_f (b := (!y3)) rfl hc5 .none rfl ?_
      exact hJ4 _ ⟨rfl, rfl, rfl, or_f hc5 rfl⟩
  · rintro f ⟨hf2, hf3, hf4, hf18⟩
    refine (JL.norm (i := 2) hf2 (JL.norm (i := 3) hf3 (JL.norm (i := 4) hf4 (JL.norm (i := 18) hf18 ?_))))
    refine JL.move .none rfl ?_
    refine JL.cut 4 (fun f => f 2 = route_v0 ∧ f 3 = .pointer (some ⟨b1, 0, none⟩) ∧ f 4 = .pointer (some ⟨b2, 0, none⟩) ∧ f 23 = .bool (((!y3) || (decide (10 ≤ (t.Rains.length : Int)))) || (decide (20 < (route.length : Int))))) ?_ ?_
    · intro hJ6
      rcases bcases ((!y3) || (decide (10 ≤ (t.Rains.length : Int)))) with hc7 | hc7
      · skip
        refine JL.skip (.bool rfl rfl rfl hc7) rfl ?_
        refine JL.skip (.bool rfl rfl rfl hc7) rfl ?_
        refine JL.skip (.bool rfl rfl rfl hc7) rfl ?_
        refine JL.pick_t (b := ((!y3) || (decide (10 ≤ (t.Rains.length : Int))))) rfl hc7 .none rfl ?_
        exact hJ6 _ ⟨rfl, rfl, rfl, or_t hc7 rfl⟩
      · skip
        refine JL.move (.some rfl rfl rfl hc7) rfl ?_
        refine JL.lenSL (R := RInt) ul_26 hroute_0 (.some rfl rfl rfl hc7) rfl ?_
        refine JL.bin rfl rfl rfl (.some rfl rfl rfl hc7) rfl ?_
        refine JL.pick_f (b := ((!y3) || (decide (10 ≤ (t.Rains.length : Int))))) rfl hc7 .none rfl ?_
        exact hJ6 _ ⟨rfl, rfl, rfl, or_f hc7 rfl⟩
    · rintro f ⟨hf2, hf3, hf4, hf23⟩
      refine (JL.norm (i := 2) hf2 (JL.norm (i := 3) hf3 (JL.norm (i := 4) hf4 (JL.norm (i := 23) hf23 ?_))))
      refine JL.move .none rfl ?_
      obtain ⟨p9, hp9, hF⟩ := bind_some hF
      refine JL.cut 5 (fun f => f 2 = route_v0 ∧ f 3 = .pointer (some ⟨b1, 0, none⟩) ∧ f 4 = .pointer (some ⟨b2, 0, none⟩) ∧ f 29 = .bool p9) ?_ ?_
      · intro hJ10
        rcases ite_some hp9 with ⟨hc11, hF⟩ | ⟨hc11, hF⟩
        · skip
          refine JL.skip (.bool rfl rfl rfl hc11) rfl ?_
          refine JL.skip (.bool rfl rfl rfl hc11) rfl ?_
          refine JL.skip (.bool rfl rfl rfl hc11) rfl ?_
          refine JL.skip (.bool rfl rfl rfl hc11) rfl ?_
          refine JL.pick_t (b := (((!y3) || (decide (10 ≤ (t.Rains.length : Int)))) || (decide (20 < (route.length : Int))))) rfl hc11 .none rfl ?_
          obtain rfl := Option.some.inj hF
          exact hJ10 _ ⟨rfl, rfl, rfl, rfl⟩
        · skip
          refine JL.loadOwn 1 az_25 rfl rfl rfl (.some rfl rfl rfl hc11) rfl ?_
          refine JL.move (.some rfl rfl rfl hc11) rfl ?_
          obtain ⟨y12, hy12, hF⟩ := bind_some hF
          refine JL.callS (c_ref11_IsRoute n H t t_v2 ht_2 t_v4 ht_4 route route_v0 hroute_0 y12 hy12) rfl en_20 (.some rfl rfl rfl hc11) rfl ?_
          refine JL.not rfl (.some rfl rfl rfl hc11) rfl ?_
          refine JL.pick_f (b := (((!y3) || (decide (10 ≤ (t.Rains.length : Int)))) || (decide (20 < (route.length : Int))))) rfl hc11 .none rfl ?_
          obtain rfl := Option.some.inj hF
          exact hJ10 _ ⟨rfl, rfl, rfl, rfl⟩
      · rintro f ⟨hf2, hf3, hf4, hf29⟩
        refine (JL.norm (i := 2) hf2 (JL.norm (i := 3) hf3 (JL.norm (i := 4) hf4 (JL.norm (i := 29) hf29 ?_))))
        refine JL.done hQ ?_
        refine JQ.go ?_
        rcases ite_some hF with ⟨hc13, hF⟩ | ⟨hc13, hF⟩
        · refine JC.cond_t (b := p9) rfl hc13 ?_
          refine JC.seq ?_
          refine JC.region (by rfl) ?_
          intro hQ
          obtain ⟨y14, hy14, hF⟩ := bind_some hF
          refine JL.callS (c_law11_works n H y14 hy14) rfl en_13 .none rfl ?_
          refine JL.assign .none rfl ?_
          refine JL.done hQ ?_
          refine JQ.go ?_
          refine JC.ret ?_
          refine JQ.ret_then ?_
          obtain rfl := Option.some.inj hF
          exact JQ.outS rfl (.tmp .nil) rfl
        · refine JC.cond_f (b := p9) rfl hc13 ?_
          refine JC.skip ?_
          refine JQ.go ?_
          refine JC.seq ?_
          obtain ⟨y16, hy16, hF⟩ := bind_some hF
          obtain ⟨y21, hy21, hF⟩ := bind_some hF
          obtain ⟨y26, hy26, hF⟩ := bind_some hF
          refine JC.mixed 12 12 #[false, false, false, false, false, false, false, false, false, false, false, false] [(b2, .cells [.int .i64 x_.Day, .int .i64 x_.Level.Low, .int .i64 x_.Level.High].toArray 37), (b1, .cells [.int .i64 t.Days, .int .i64 t.Step, t_v2, .int .i64 t.Wrong, t_v4, .int .i64 t.Reach, .int .i64 t.Stock].toArray 25)] (by rfl) mo_ (by kernel_rfl) (by kernel_rfl) ?_
          intro hQ hE
          refine JA.cut 3 #[true, true, true, true, true, true, true, true, true, false, false, false] (fun H190 f bs gs => ∃ (b177 : Nat) (b152 : Nat) (b112 : Nat) (y26_v1 : Value) (y26_xs1 : List Value) (y26_v0 : Value) (y26_xs0 : List Value) (y21_v1 : Value) (y21_xs1 : List Value) (y21_v0 : Value) (y21_xs0 : List Value) (y16_v1 : Value) (y16_xs1 : List Value) (y16_v0 : Value) (y16_xs0 : List Value), f 2 = route_v0 ∧ f 3 = .pointer (some ⟨b1, 0, none⟩) ∧ f 4 = .pointer (some ⟨b2, 0, none⟩) ∧ f 7 = .pointer (some ⟨b112, 0, none⟩) ∧ f 8 = .pointer (some ⟨b152, 0, none⟩) ∧ f 9 = .pointer (some ⟨b177, 0, none⟩) ∧ f 32 = .agg [.int .i64 y16.Days, .int .i64 y16.Step, y16_v0, .int .i64 y16.Wrong, y16_v1, .int .i64 y16.Reach, .int .i64 y16.Stock].toArray ∧ f 34 = .agg [.int .i64 y21.Days, .int .i64 y21.Step, y21_v0, .int .i64 y21.Wrong, y21_v1, .int .i64 y21.Reach, .int .i64 y21.Stock].toArray ∧ f 36 = .agg [.int .i64 y26.Days, .int .i64 y26.Step, y26_v0, .int .i64 y26.Wrong, y26_v1, .int .i64 y26.Reach, .int .i64 y26.Stock].toArray ∧ bs = [(b177, .cells [.int .i64 0, .int .i64 0, .slice none 0 0, .int .i64 0, .slice none 0 0, .int .i64 0, .int .i64 0].toArray 25), (b152, .cells [.int .i64 0, .int .i64 0, .slice none 0 0, .int .i64 0, .slice none 0 0, .int .i64 0, .int .i64 0].toArray 25), (b112, .cells [.int .i64 0, .int .i64 0, .slice none 0 0, .int .i64 0, .slice none 0 0, .int .i64 0, .int .i64 0].toArray 25), (b2, .cells [.int .i64 x_.Day, .int .i64 x_.Level.Low, .int .i64 x_.Level.High].toArray 37), (b1, .cells [.int .i64 t.Days, .int .i64 t.Step, t_v2, .int .i64 t.Wrong, t_v4, .int .i64 t.Reach, .int .i64 t.Stock].toArray 25)] ∧ gs = [⟨y26_v1, 41, 2, y26.Fairs.length, y26_xs1⟩, ⟨y26_v0, 37, 3, y26.Rains.length, y26_xs0⟩, ⟨y21_v1, 41, 2, y21.Fairs.length, y21_xs1⟩, ⟨y21_v0, 37, 3, y21.Rains.length, y21_xs0⟩, ⟨y16_v1, 41, 2, y16.Fairs.length, y16_xs1⟩, ⟨y16_v0, 37, 3, y16.Rains.length, y16_xs0⟩] ∧ CH H190 2 R_Fair y26_xs1 y26.Fairs ∧ CH H190 3 R_Rain y26_xs0 y26.Rains ∧ CH H190 2 R_Fair y21_xs1 y21.Fairs ∧ CH H190 3 R_Rain y21_xs0 y21.Rains ∧ CH H190 2 R_Fair y16_xs1 y16.Fairs ∧ CH H190 3 R_Rain y16_xs0 y16.Rains ∧ HSub H H190) ?_ ?_
          · rintro H190 f bs gs ⟨b177, b152, b112, y26_v1, y26_xs1, y26_v0, y26_xs0, y21_v1, y21_xs1, y21_v0, y21_xs0, y16_v1, y16_xs1, y16_v0, y16_xs0, hf2, hf3, hf4, hf7, hf8, hf9, hf32, hf34, hf36, rfl, rfl, hm191, hm192, hm193, hm194, hm195, hm196, hs190⟩
            refine (JA.norm (i := 2) hf2 (JA.norm (i := 3) hf3 (JA.norm (i := 4) hf4 (JA.norm (i := 7) hf7 (JA.norm (i := 8) hf8 (JA.norm (i := 9) hf9 (JA.norm (i := 32) hf32 (JA.norm (i := 34) hf34 (JA.norm (i := 36) hf36 ?_)))))))))
            refine JA.many [9] (by kernel_rfl) (by simp) (all_one ⟨_, #[true, true, true, true, true, true, true, true, true, true, false, false], rfl, (by kernel_rfl), ?_⟩)
            refine JL.oneG 5 rfl (fun ho197 => ?_)
            refine JL.oneG 4 rfl (fun ho198 => ?_)
            refine JL.storeOwn 2 (cs := [.int .i64 y16.Days, .int .i64 y16.Step, y16_v0, .int .i64 y16.Wrong, y16_v1, .int .i64 y16.Reach, .int .i64 y16.Stock]) az_25 rfl rfl rfl (one_cons rfl (one_cons rfl (one_cons ho197.1 (one_cons rfl (one_cons ho198.1 (one_cons rfl (one_cons rfl one_nil))))))) rfl rfl .none ?_
            refine JA.after hE hs190 (.cons _ (.cons _ (.cons _ (.cons_cons _ (.cons_cons _ (List.nil_sublist _)))))) ?_
            refine JA.many [10] (by kernel_rfl) (by simp) (all_one ⟨_, #[true, true, true, true, true, true, true, true, true, true, true, false], rfl, (by kernel_rfl), ?_⟩)
            refine JL.oneG 3 rfl (fun ho199 => ?_)
            refine JL.oneG 2 rfl (fun ho200 => ?_)
            refine JL.storeOwn 1 (cs := [.int .i64 y21.Days, .int .i64 y21.Step, y21_v0, .int .i64 y21.Wrong, y21_v1, .int .i64 y21.Reach, .int .i64 y21.Stock]) az_25 rfl rfl rfl (one_cons rfl (one_cons rfl (one_cons ho199.1 (one_cons rfl (one_cons ho200.1 (one_cons rfl (one_cons rfl one_nil))))))) rfl rfl .none ?_
            refine JA.after hE hs190 (.cons _ (.cons _ (.cons _ (.cons_cons _ (.cons_cons _ (List.nil_sublist _)))))) ?_
            refine JA.many [11] (by kernel_rfl) (by simp) (all_one ⟨_, #[true, true, true, true, true, true, true, true, true, true, true, true], rfl, (by kernel_rfl), ?_⟩)
            refine JL.oneG 1 rfl (fun ho201 => ?_)
            refine JL.oneG 0 rfl (fun ho202 => ?_)
            refine JL.storeOwn 0 (cs := [.int .i64 y26.Days, .int .i64 y26.Step, y26_v0, .int .i64 y26.Wrong, y26_v1, .int .i64 y26.Reach, .int .i64 y26.Stock]) az_25 rfl rfl rfl (one_cons rfl (one_cons rfl (one_cons ho201.1 (one_cons rfl (one_cons ho202.1 (one_cons rfl (one_cons rfl one_nil))))))) rfl rfl .none ?_
            refine JA.after hE hs190 (.cons _ (.cons _ (.cons _ (.cons_cons _ (.cons_cons _ (List.nil_sublist _)))))) ?_
            refine JA.done hQ (by kernel_rfl) ?_
            refine JQ.go ?_
            refine JC.seq ?_
            refine JC.region (by rfl) ?_
            intro hQ
            refine JL.fieldAddr fo_25_2 rfl .none rfl ?_
            refine JL.loadOwn 2 az_22 rfl rfl rfl .none rfl ?_
            refine JL.loadOwn 3 az_37 rfl rfl rfl .none rfl ?_
            refine JL.buildSlice (e := 37) (l := [.int .i64 x_.Day, .int .i64 x_.Level.Low, .int .i64 x_.Level.High]) (by kernel_rfl) .none rfl ?_
            intro b203
            obtain ⟨l204, hl204, hF⟩ := bind_some hF
            refine JL.appO (R := R_Rain) 5 0 (l := y16.Rains) (m := [x_]) ap_22 rfl ⟨rfl, rfl⟩ rfl hm196 rfl rfl rfl (CH.cons (cs := [.int .i64 x_.Day, .int .i64 x_.Level.Low, .int .i64 x_.Level.High]) rfl rfl CH.nil) rfl (one_cons rfl (one_cons rfl (one_cons rfl one_nil))) hl204 .none rfl ?_
            intro v205 xs206 hch207
            refine JL.fieldAddr fo_25_2 rfl .none rfl ?_
            refine JL.oneG 5 rfl (fun ho208 => ?_)
            refine JL.storeOwn 3 (cs := [v205]) az_22 rfl ho208.2 rfl (one_cons ho208.1 one_nil) rfl rfl .none ?_
            refine JL.done hQ ?_
            refine JQ.go ?_
            refine JC.fresh (fun f => f 2 = route_v0 ∧ f 3 = .pointer (some ⟨b1, 0, none⟩) ∧ f 7 = .pointer (some ⟨b112, 0, none⟩) ∧ f 8 = .pointer (some ⟨b152, 0, none⟩) ∧ f 9 = .pointer (some ⟨b177, 0, none⟩)) ⟨rfl, rfl, rfl, rfl, rfl⟩ ?_
            rintro f ⟨hf2, hf3, hf7, hf8, hf9⟩
            refine (JC.norm (i := 2) hf2 (JC.norm (i := 3) hf3 (JC.norm (i := 7) hf7 (JC.norm (i := 8) hf8 (JC.norm (i := 9) hf9 ?_)))))
            refine JC.seq ?_
            refine JC.mixed 9 12 #[false, false, false, false, false, false, false, false, false, false, false, false] [(b203, .cells [.int .i64 x_.Day, .int .i64 x_.Level.Low, .int .i64 x_.Level.High].toArray 37), (b177, .cells [.int .i64 y26.Days, .int .i64 y26.Step, y26_v0, .int .i64 y26.Wrong, y26_v1, .int .i64 y26.Reach, .int .i64 y26.Stock].toArray 25), (b152, .cells [.int .i64 y21.Days, .int .i64 y21.Step, y21_v0, .int .i64 y21.Wrong, y21_v1, .int .i64 y21.Reach, .int .i64 y21.Stock].toArray 25), (b112, .cells [.int .i64 y16.Days, .int .i64 y16.Step, v205, .int .i64 y16.Wrong, y16_v1, .int .i64 y16.Reach, .int .i64 y16.Stock].toArray 25), (b2, .cells [.int .i64 x_.Day, .int .i64 x_.Level.Low, .int .i64 x_.Level.High].toArray 37), (b1, .cells [.int .i64 t.Days, .int .i64 t.Step, t_v2, .int .i64 t.Wrong, t_v4, .int .i64 t.Reach, .int .i64 t.Stock].toArray 25)] (by rfl) mo_ (by kernel_rfl) (by kernel_rfl) ?_
            intro hQ hE
            refine JA.cut 2 #[true, true, true, true, true, true, true, true, true, true, false, false] (fun H209 f bs gs => f 2 = route_v0 ∧ f 3 = .pointer (some ⟨b1, 0, none⟩) ∧ f 7 = .pointer (some ⟨b112, 0, none⟩) ∧ f 8 = .pointer (some ⟨b152, 0, none⟩) ∧ f 9 = .pointer (some ⟨b177, 0, none⟩) ∧ f 50 = .int .i64 (min 3 (w64 (t.Step + 1))) ∧ bs = [(b203, .cells [.int .i64 x_.Day, .int .i64 x_.Level.Low, .int .i64 x_.Level.High].toArray 37), (b177, .cells [.int .i64 y26.Days, .int .i64 y26.Step, y26_v0, .int .i64 y26.Wrong, y26_v1, .int .i64 y26.Reach, .int .i64 y26.Stock].toArray 25), (b152, .cells [.int .i64 y21.Days, .int .i64 y21.Step, y21_v0, .int .i64 (min 10 (w64 (t.Wrong + 1))), y21_v1, .int .i64 y21.Reach, .int .i64 y21.Stock].toArray 25), (b112, .cells [.int .i64 y16.Days, .int .i64 y16.Step, v205, .int .i64 y16.Wrong, y16_v1, .int .i64 y16.Reach, .int .i64 y16.Stock].toArray 25), (b2, .cells [.int .i64 x_.Day, .int .i64 x_.Level.Low, .int .i64 x_.Level.High].toArray 37), (b1, .cells [.int .i64 t.Days, .int .i64 t.Step, t_v2, .int .i64 t.Wrong, t_v4, .int .i64 t.Reach, .int .i64 t.Stock].toArray 25)] ∧ gs = [⟨y26_v1, 41, 2, y26.Fairs.length, y26_xs1⟩, ⟨y26_v0, 37, 3, y26.Rains.length, y26_xs0⟩, ⟨y21_v1, 41, 2, y21.Fairs.length, y21_xs1⟩, ⟨y21_v0, 37, 3, y21.Rains.length, y21_xs0⟩, ⟨y16_v1, 41, 2, y16.Fairs.length, y16_xs1⟩, ⟨v205, 37, 3, l204.length, xs206⟩] ∧ HSub H190 H209) ?_ ?_
            · rintro H209 f bs gs ⟨hf2, hf3, hf7, hf8, hf9, hf50, rfl, rfl, hs209⟩
              refine (JA.norm (i := 2) hf2 (JA.norm (i := 3) hf3 (JA.norm (i := 7) hf7 (JA.norm (i := 8) hf8 (JA.norm (i := 9) hf9 (JA.norm (i := 50) hf50 ?_))))))
              refine JA.many [10] (by kernel_rfl) (by simp) (all_one ⟨_, #[true, true, true, true, true, true, true, true, true, true, true, false], rfl, (by kernel_rfl), ?_⟩)
              refine JL.fieldAddr fo_25_1 rfl .none rfl ?_
              refine JA.sink (by kernel_rfl) ?_
              refine JA.many [11] (by kernel_rfl) (by simp) (all_one ⟨_, #[true, true, true, true, true, true, true, true, true, true, true, true], rfl, (by kernel_rfl), ?_⟩)
              refine JL.storeOwn 1 (cs := [.int .i64 (min 3 (w64 (t.Step + 1)))]) az_3 rfl rfl rfl (one_cons rfl one_nil) rfl rfl .none ?_
              refine JA.sink (by kernel_rfl) ?_
              refine JA.done hQ (by kernel_rfl) ?_
              refine JQ.go ?_
              refine JC.seq ?_
              refine JC.seq ?_
              refine JC.region (by rfl) ?_
              intro hQ
              refine JL.loadOwn 3 az_25 rfl rfl rfl .none rfl ?_
              refine JL.freezeG 5 (R := R_Rain) rfl R_Rain_mono (CH.mono R_Rain_mono hs209 hch207) rfl ?_
              intro H210 hs210 hg211
              refine JL.freezeG 4 (R := R_Fair) rfl R_Fair_mono (CH.mono R_Fair_mono (HSub.trans hs209 hs210) hm195) rfl ?_
              intro H212 hs212 hg213
              obtain ⟨y214, hy214, hF⟩ := bind_some hF
              refine JL.callS (c_law11_ready n H212 (Tour.mk y16.Days y16.Step l204 y16.Wrong y16.Fairs y16.Reach y16.Stock) v205 (SL.mono R_Rain_mono hs212 hg211) y16_v1 hg213 y214 hy214) rfl en_19 .none rfl ?_
              refine JL.not rfl .none rfl ?_
              refine JL.done hQ ?_
              refine JQ.go ?_
              rcases ite_some hF with ⟨hc215, hF⟩ | ⟨hc215, hF⟩
              · refine JC.cond_t (b := (!y214)) rfl hc215 ?_
                refine JC.seq ?_
                refine JC.region (by rfl) ?_
                intro hQ
                obtain ⟨y216, hy216, hF⟩ := bind_some hF
                refine JL.callS (c_law11_works n H212 y216 hy216) rfl en_13 .none rfl ?_
                refine JL.assign .none rfl ?_
                refine JL.done hQ ?_
                refine JQ.go ?_
                refine JC.ret ?_
                refine JQ.ret_then ?_
                obtain rfl := Option.some.inj hF
                exact JQ.outS rfl (.tmp .nil) rfl
              · refine JC.cond_f (b := (!y214)) rfl hc215 ?_
                refine JC.skip ?_
                refine JQ.go ?_
                refine JC.seq ?_
                refine JC.region (by rfl) ?_
                intro hQ
                refine JL.loadOwn 3 az_25 rfl rfl rfl .none rfl ?_
                refine JL.loadOwn 5 az_25 rfl rfl rfl .none rfl ?_
                refine JL.move .none rfl ?_
                obtain ⟨y217, hy217, hF⟩ := bind_some hF
                refine JL.callS (c_law11_inside n H212 (Tour.mk y16.Days y16.Step l204 y16.Wrong y16.Fairs y16.Reach y16.Stock) v205 (SL.mono R_Rain_mono hs212 hg211) y16_v1 hg213 t t_v2 (SL.mono R_Rain_mono (HSub.trans hs190 (HSub.trans hs209 (HSub.trans hs210 hs212))) ht_2) t_v4 (SL.mono R_Fair_mono (HSub.trans hs190 (HSub.trans hs209 (HSub.trans hs210 hs212))) ht_4) route route_v0 (SL.mono RInt.mono (HSub.trans hs190 (HSub.trans hs209 (HSub.trans hs210 hs212))) hroute_0) y217 hy217) rfl en_21 .none rfl ?_
                refine JL.move .none rfl ?_
                obtain ⟨p223, hp223, hF⟩ := bind_some hF
                refine JL.cutW 5 (fun H224 f bs gs => f 2 = route_v0 ∧ f 3 = .pointer (some ⟨b1, 0, none⟩) ∧ f 9 = .pointer (some ⟨b177, 0, none⟩) ∧ f 66 = .bool p223 ∧ bs = [(b177, .cells [.int .i64 y26.Days, .int .i64 (min 3 (w64 (t.Step + 1))), y26_v0, .int .i64 y26.Wrong, y26_v1, .int .i64 y26.Reach, .int .i64 y26.Stock].toArray 25), (b1, .cells [.int .i64 t.Days, .int .i64 t.Step, t_v2, .int .i64 t.Wrong, t_v4, .int .i64 t.Reach, .int .i64 t.Stock].toArray 25)] ∧ gs = [⟨y26_v1, 41, 2, y26.Fairs.length, y26_xs1⟩, ⟨y26_v0, 37, 3, y26.Rains.length, y26_xs0⟩] ∧ HSub H212 H224) ?_ ?_
                · intro hJ225
                  rcases ite_some hp223 with ⟨hc226, hF⟩ | ⟨hc226, hF⟩
                  · skip
                    refine JL.loadOwn 5 az_25 rfl rfl rfl (.some rfl rfl rfl hc226) rfl ?_
                    refine JL.loadOwn 2 az_25 rfl rfl rfl (.some rfl rfl rfl hc226) rfl ?_
                    refine JL.move (.some rfl rfl rfl hc226) rfl ?_
                    refine JL.freezeG 3 (R := R_Rain) rfl R_Rain_mono (CH.mono R_Rain_mono (HSub.trans hs209 (HSub.trans hs210 hs212)) hm194) rfl ?_
                    intro H227 hs227 hg228
                    refine JL.freezeG 2 (R := R_Fair) rfl R_Fair_mono (CH.mono R_Fair_mono (HSub.trans hs209 (HSub.trans hs210 (HSub.trans hs212 hs227))) hm193) rfl ?_
                    intro H229 hs229 hg230
                    obtain ⟨y231, hy231, hF⟩ := bind_some hF
                    refine JL.callS (c_law11_inside n H229 t t_v2 (SL.mono R_Rain_mono (HSub.trans hs190 (HSub.trans hs209 (HSub.trans hs210 (HSub.trans hs212 (HSub.trans hs227 hs229))))) ht_2) t_v4 (SL.mono R_Fair_mono (HSub.trans hs190 (HSub.trans hs209 (HSub.trans hs210 (HSub.trans hs212 (HSub.trans hs227 hs229))))) ht_4) (Tour.mk y21.Days y21.Step y21.Rains (min 10 (w64 (t.Wrong + 1))) y21.Fairs y21.Reach y21.Stock) y21_v0 (SL.mono R_Rain_mono hs229 hg228) y21_v1 hg230 route route_v0 (SL.mono RInt.mono (HSub.trans hs190 (HSub.trans hs209 (HSub.trans hs210 (HSub.trans hs212 (HSub.trans hs227 hs229))))) hroute_0) y231 hy231) rfl en_21 (.some rfl rfl rfl hc226) rfl ?_
                    refine JL.pick_t (b := y217) rfl hc226 .none rfl ?_
                    obtain rfl := Option.some.inj hF
                    refine JL.mask [false, true, false, false, false, true] [true, true] ?_
                    exact hJ225 _ _ _ _ ⟨rfl, rfl, rfl, rfl, rfl, rfl, (HSub.trans hs227 hs229)⟩
                  · skip
                    refine JL.skip (.bool rfl rfl rfl hc226) rfl ?_
                    refine JL.skip (.bool rfl rfl rfl hc226) rfl ?_
                    refine JL.skip (.bool rfl rfl rfl hc226) rfl ?_
                    refine JL.skip (.bool rfl rfl rfl hc226) rfl ?_
                    refine JL.pick_f (b := y217) rfl hc226 .none rfl ?_
                    obtain rfl := Option.some.inj hF
                    refine JL.mask [false, true, false, false, false, true] [true, true, false, false] ?_
                    exact hJ225 _ _ _ _ ⟨rfl, rfl, rfl, rfl, rfl, rfl, (HSub.refl _)⟩
                · rintro H224 f bs gs ⟨hf2, hf3, hf9, hf66, rfl, rfl, hs224⟩
                  refine (JL.norm (i := 2) hf2 (JL.norm (i := 3) hf3 (JL.norm (i := 9) hf9 (JL.norm (i := 66) hf66 ?_))))
                  refine JL.move .none rfl ?_
                  obtain ⟨p237, hp237, hF⟩ := bind_some hF
                  refine JL.cutW 5 (fun H238 f bs gs => f 72 = .bool p237 ∧ bs = [] ∧ gs = [] ∧ HSub H224 H238) ?_ ?_
                  · intro hJ239
                    rcases ite_some hp237 with ⟨hc240, hF⟩ | ⟨hc240, hF⟩
                    · skip
                      refine JL.loadOwn 1 az_25 rfl rfl rfl (.some rfl rfl rfl hc240) rfl ?_
                      refine JL.loadOwn 0 az_25 rfl rfl rfl (.some rfl rfl rfl hc240) rfl ?_
                      refine JL.move (.some rfl rfl rfl hc240) rfl ?_
                      refine JL.freezeG 1 (R := R_Rain) rfl R_Rain_mono (CH.mono R_Rain_mono (HSub.trans hs209 (HSub.trans hs210 (HSub.trans hs212 hs224))) hm192) rfl ?_
                      intro H241 hs241 hg242
                      refine JL.freezeG 0 (R := R_Fair) rfl R_Fair_mono (CH.mono R_Fair_mono (HSub.trans hs209 (HSub.trans hs210 (HSub.trans hs212 (HSub.trans hs224 hs241)))) hm191) rfl ?_
                      intro H243 hs243 hg244
                      obtain ⟨y245, hy245, hF⟩ := bind_some hF
                      refine JL.callS (c_law11_inside n H243 t t_v2 (SL.mono R_Rain_mono (HSub.trans hs190 (HSub.trans hs209 (HSub.trans hs210 (HSub.trans hs212 (HSub.trans hs224 (HSub.trans hs241 hs243)))))) ht_2) t_v4 (SL.mono R_Fair_mono (HSub.trans hs190 (HSub.trans hs209 (HSub.trans hs210 (HSub.trans hs212 (HSub.trans hs224 (HSub.trans hs241 hs243)))))) ht_4) (Tour.mk y26.Days (min 3 (w64 (t.Step + 1))) y26.Rains y26.Wrong y26.Fairs y26.Reach y26.Stock) y26_v0 (SL.mono R_Rain_mono hs243 hg242) y26_v1 hg244 route route_v0 (SL.mono RInt.mono (HSub.trans hs190 (HSub.trans hs209 (HSub.trans hs210 (HSub.trans hs212 (HSub.trans hs224 (HSub.trans hs241 hs243)))))) hroute_0) y245 hy245) rfl en_21 (.some rfl rfl rfl hc240) rfl ?_
                      refine JL.pick_t (b := p223) rfl hc240 .none rfl ?_
                      obtain rfl := Option.some.inj hF
                      refine JL.mask [false, false] [] ?_
                      exact hJ239 _ _ _ _ ⟨rfl, rfl, rfl, (HSub.trans hs241 hs243)⟩
                    · skip
                      refine JL.skip (.bool rfl rfl rfl hc240) rfl ?_
                      refine JL.skip (.bool rfl rfl rfl hc240) rfl ?_
                      refine JL.skip (.bool rfl rfl rfl hc240) rfl ?_
                      refine JL.skip (.bool rfl rfl rfl hc240) rfl ?_
                      refine JL.pick_f (b := p223) rfl hc240 .none rfl ?_
                      obtain rfl := Option.some.inj hF
                      refine JL.mask [false, false] [false, false] ?_
                      exact hJ239 _ _ _ _ ⟨rfl, rfl, rfl, (HSub.refl _)⟩
                  · rintro H238 f bs gs ⟨hf72, rfl, rfl, hs238⟩
                    refine (JL.norm (i := 72) hf72 ?_)
                    refine JL.move .none rfl ?_
                    obtain ⟨p247, hp247, hF⟩ := bind_some hF
                    refine JL.cut 2 (fun f => f 75 = .bool p247) ?_ ?_
                    · intro hJ248
                      rcases ite_some hp247 with ⟨hc249, hF⟩ | ⟨hc249, hF⟩
                      · skip
                        obtain ⟨y250, hy250, hF⟩ := bind_some hF
                        refine JL.callS (c_law11_works n H238 y250 hy250) rfl en_13 (.some rfl rfl rfl hc249) rfl ?_
                        refine JL.pick_t (b := p237) rfl hc249 .none rfl ?_
                        obtain rfl := Option.some.inj hF
                        exact hJ248 _ (rfl)
                      · skip
                        refine JL.skip (.bool rfl rfl rfl hc249) rfl ?_
                        refine JL.pick_f (b := p237) rfl hc249 .none rfl ?_
                        obtain rfl := Option.some.inj hF
                        exact hJ248 _ (rfl)
                    · rintro f hf75
                      refine (JL.norm (i := 75) hf75 ?_)
                      refine JL.assign .none rfl ?_
                      refine JL.done hQ ?_
                      refine JQ.go ?_
                      refine JC.ret ?_
                      obtain rfl := Option.some.inj hF
                      exact JQ.outS rfl (.tmp .nil) rfl
            intro nd208_0
            refine JA.cut 3 #[true, true, true, true, true, true, true, false, true, true, false, false] (fun H251 f bs gs => f 2 = route_v0 ∧ f 3 = .pointer (some ⟨b1, 0, none⟩) ∧ f 7 = .pointer (some ⟨b112, 0, none⟩) ∧ f 8 = .pointer (some ⟨b152, 0, none⟩) ∧ f 9 = .pointer (some ⟨b177, 0, none⟩) ∧ f 49 = .int .i64 (w64 (t.Step + 1)) ∧ bs = [(b203, .cells [.int .i64 x_.Day, .int .i64 x_.Level.Low, .int .i64 x_.Level.High].toArray 37), (b177, .cells [.int .i64 y26.Days, .int .i64 y26.Step, y26_v0, .int .i64 y26.Wrong, y26_v1, .int .i64 y26.Reach, .int .i64 y26.Stock].toArray 25), (b152, .cells [.int .i64 y21.Days, .int .i64 y21.Step, y21_v0, .int .i64 (min 10 (w64 (t.Wrong + 1))), y21_v1, .int .i64 y21.Reach, .int .i64 y21.Stock].toArray 25), (b112, .cells [.int .i64 y16.Days, .int .i64 y16.Step, v205, .int .i64 y16.Wrong, y16_v1, .int .i64 y16.Reach, .int .i64 y16.Stock].toArray 25), (b2, .cells [.int .i64 x_.Day, .int .i64 x_.Level.Low, .int .i64 x_.Level.High].toArray 37), (b1, .cells [.int .i64 t.Days, .int .i64 t.Step, t_v2, .int .i64 t.Wrong, t_v4, .int .i64 t.Reach, .int .i64 t.Stock].toArray 25)] ∧ gs = [⟨y26_v1, 41, 2, y26.Fairs.length, y26_xs1⟩, ⟨y26_v0, 37, 3, y26.Rains.length, y26_xs0⟩, ⟨y21_v1, 41, 2, y21.Fairs.length, y21_xs1⟩, ⟨y21_v0, 37, 3, y21.Rains.length, y21_xs0⟩, ⟨y16_v1, 41, 2, y16.Fairs.length, y16_xs1⟩, ⟨v205, 37, 3, l204.length, xs206⟩] ∧ HSub H190 H251) ?_ ?_
            · rintro H251 f bs gs ⟨hf2, hf3, hf7, hf8, hf9, hf49, rfl, rfl, hs251⟩
              refine (JA.norm (i := 2) hf2 (JA.norm (i := 3) hf3 (JA.norm (i := 7) hf7 (JA.norm (i := 8) hf8 (JA.norm (i := 9) hf9 (JA.norm (i := 49) hf49 ?_))))))
              refine JA.many [7] (by kernel_rfl) (by simp) (all_one ⟨_, #[true, true, true, true, true, true, true, true, true, true, false, false], rfl, (by kernel_rfl), ?_⟩)
              refine JL.min rfl rfl .none rfl ?_
              refine JA.sink (by kernel_rfl) ?_
              exact nd208_0 _ _ _ _ ⟨rfl, rfl, rfl, rfl, rfl, rfl, rfl, rfl, hs251⟩
            intro nd208_1
            refine JA.cut 4 #[true, true, true, true, true, true, false, false, true, true, false, false] (fun H252 f bs gs => f 2 = route_v0 ∧ f 3 = .pointer (some ⟨b1, 0, none⟩) ∧ f 7 = .pointer (some ⟨b112, 0, none⟩) ∧ f 8 = .pointer (some ⟨b152, 0, none⟩) ∧ f 9 = .pointer (some ⟨b177, 0, none⟩) ∧ f 48 = .int .i64 t.Step ∧ bs = [(b203, .cells [.int .i64 x_.Day, .int .i64 x_.Level.Low, .int .i64 x_.Level.High].toArray 37), (b177, .cells [.int .i64 y26.Days, .int .i64 y26.Step, y26_v0, .int .i64 y26.Wrong, y26_v1, .int .i64 y26.Reach, .int .i64 y26.Stock].toArray 25), (b152, .cells [.int .i64 y21.Days, .int .i64 y21.Step, y21_v0, .int .i64 (min 10 (w64 (t.Wrong + 1))), y21_v1, .int .i64 y21.Reach, .int .i64 y21.Stock].toArray 25), (b112, .cells [.int .i64 y16.Days, .int .i64 y16.Step, v205, .int .i64 y16.Wrong, y16_v1, .int .i64 y16.Reach, .int .i64 y16.Stock].toArray 25), (b2, .cells [.int .i64 x_.Day, .int .i64 x_.Level.Low, .int .i64 x_.Level.High].toArray 37), (b1, .cells [.int .i64 t.Days, .int .i64 t.Step, t_v2, .int .i64 t.Wrong, t_v4, .int .i64 t.Reach, .int .i64 t.Stock].toArray 25)] ∧ gs = [⟨y26_v1, 41, 2, y26.Fairs.length, y26_xs1⟩, ⟨y26_v0, 37, 3, y26.Rains.length, y26_xs0⟩, ⟨y21_v1, 41, 2, y21.Fairs.length, y21_xs1⟩, ⟨y21_v0, 37, 3, y21.Rains.length, y21_xs0⟩, ⟨y16_v1, 41, 2, y16.Fairs.length, y16_xs1⟩, ⟨v205, 37, 3, l204.length, xs206⟩] ∧ HSub H190 H252) ?_ ?_
            · rintro H252 f bs gs ⟨hf2, hf3, hf7, hf8, hf9, hf48, rfl, rfl, hs252⟩
              refine (JA.norm (i := 2) hf2 (JA.norm (i := 3) hf3 (JA.norm (i := 7) hf7 (JA.norm (i := 8) hf8 (JA.norm (i := 9) hf9 (JA.norm (i := 48) hf48 ?_))))))
              refine JA.many [6] (by kernel_rfl) (by simp) (all_one ⟨_, #[true, true, true, true, true, true, true, false, true, true, false, false], rfl, (by kernel_rfl), ?_⟩)
              refine JL.bin rfl rfl rfl .none rfl ?_
              refine JA.sink (by kernel_rfl) ?_
              exact nd208_1 _ _ _ _ ⟨rfl, rfl, rfl, rfl, rfl, rfl, rfl, rfl, hs252⟩
            intro nd208_2
            refine JA.cut 5 #[true, true, true, true, true, false, false, false, true, true, false, false] (fun H253 f bs gs => f 2 = route_v0 ∧ f 3 = .pointer (some ⟨b1, 0, none⟩) ∧ f 7 = .pointer (some ⟨b112, 0, none⟩) ∧ f 8 = .pointer (some ⟨b152, 0, none⟩) ∧ f 9 = .pointer (some ⟨b177, 0, none⟩) ∧ f 47 = .pointer (some ⟨b1, 1, none⟩) ∧ bs = [(b203, .cells [.int .i64 x_.Day, .int .i64 x_.Level.Low, .int .i64 x_.Level.High].toArray 37), (b177, .cells [.int .i64 y26.Days, .int .i64 y26.Step, y26_v0, .int .i64 y26.Wrong, y26_v1, .int .i64 y26.Reach, .int .i64 y26.Stock].toArray 25), (b152, .cells [.int .i64 y21.Days, .int .i64 y21.Step, y21_v0, .int .i64 (min 10 (w64 (t.Wrong + 1))), y21_v1, .int .i64 y21.Reach, .int .i64 y21.Stock].toArray 25), (b112, .cells [.int .i64 y16.Days, .int .i64 y16.Step, v205, .int .i64 y16.Wrong, y16_v1, .int .i64 y16.Reach, .int .i64 y16.Stock].toArray 25), (b2, .cells [.int .i64 x_.Day, .int .i64 x_.Level.Low, .int .i64 x_.Level.High].toArray 37), (b1, .cells [.int .i64 t.Days, .int .i64 t.Step, t_v2, .int .i64 t.Wrong, t_v4, .int .i64 t.Reach, .int .i64 t.Stock].toArray 25)] ∧ gs = [⟨y26_v1, 41, 2, y26.Fairs.length, y26_xs1⟩, ⟨y26_v0, 37, 3, y26.Rains.length, y26_xs0⟩, ⟨y21_v1, 41, 2, y21.Fairs.length, y21_xs1⟩, ⟨y21_v0, 37, 3, y21.Rains.length, y21_xs0⟩, ⟨y16_v1, 41, 2, y16.Fairs.length, y16_xs1⟩, ⟨v205, 37, 3, l204.length, xs206⟩] ∧ HSub H190 H253) ?_ ?_
            · rintro H253 f bs gs ⟨hf2, hf3, hf7, hf8, hf9, hf47, rfl, rfl, hs253⟩
              refine (JA.norm (i := 2) hf2 (JA.norm (i := 3) hf3 (JA.norm (i := 7) hf7 (JA.norm (i := 8) hf8 (JA.norm (i := 9) hf9 (JA.norm (i := 47) hf47 ?_))))))
              refine JA.many [5] (by kernel_rfl) (by simp) (all_one ⟨_, #[true, true, true, true, true, true, false, false, true, true, false, false], rfl, (by kernel_rfl), ?_⟩)
              refine JL.loadOwn 5 az_3 rfl rfl rfl .none rfl ?_
              refine JA.sink (by kernel_rfl) ?_
              exact nd208_2 _ _ _ _ ⟨rfl, rfl, rfl, rfl, rfl, rfl, rfl, rfl, hs253⟩
            intro nd208_3
            refine JA.take 0 (listed' := #[true, false, false, false, false, false, false, false, false, false, false, false]) hQ rfl (by kernel_rfl) (by kernel_rfl) (by kernel_rfl) (by kernel_rfl) (by kernel_rfl) hE (HSub.refl _) (.cons_cons _ (.cons_cons _ (.cons_cons _ (.cons_cons _ (.cons_cons _ (.cons_cons _ (List.nil_sublist _))))))) ?_
            refine JL.fieldAddr fo_25_3 rfl .none rfl ?_
            refine JA.cont ?_
            refine JA.take 1 (listed' := #[true, true, false, false, false, false, false, false, false, false, false, false]) hQ rfl (by kernel_rfl) (by kernel_rfl) (by kernel_rfl) (by kernel_rfl) (by kernel_rfl) hE (HSub.refl _) (.cons_cons _ (.cons_cons _ (.cons_cons _ (.cons_cons _ (.cons_cons _ (.cons_cons _ (List.nil_sublist _))))))) ?_
            refine JL.loadOwn 5 az_3 rfl rfl rfl .none rfl ?_
            refine JA.cont ?_
            refine JA.take 2 (listed' := #[true, true, true, false, false, false, false, false, false, false, false, false]) hQ rfl (by kernel_rfl) (by kernel_rfl) (by kernel_rfl) (by kernel_rfl) (by kernel_rfl) hE (HSub.refl _) (.cons_cons _ (.cons_cons _ (.cons_cons _ (.cons_cons _ (.cons_cons _ (.cons_cons _ (List.nil_sublist _))))))) ?_
            refine JL.bin rfl rfl rfl .none rfl ?_
            refine JA.cont ?_
            refine JA.take 3 (listed' := #[true, true, true, true, false, false, false, false, false, false, false, false]) hQ rfl (by kernel_rfl) (by kernel_rfl) (by kernel_rfl) (by kernel_rfl) (by kernel_rfl) hE (HSub.refl _) (.cons_cons _ (.cons_cons _ (.cons_cons _ (.cons_cons _ (.cons_cons _ (.cons_cons _ (List.nil_sublist _))))))) ?_
            refine JL.min rfl rfl .none rfl ?_
            refine JA.cont ?_
            refine JA.take 8 (listed' := #[true, true, true, true, false, false, false, false, true, false, false, false]) hQ rfl (by kernel_rfl) (by kernel_rfl) (by kernel_rfl) (by kernel_rfl) (by kernel_rfl) hE (HSub.refl _) (.cons_cons _ (.cons_cons _ (.cons_cons _ (.cons_cons _ (.cons_cons _ (.cons_cons _ (List.nil_sublist _))))))) ?_
            refine JL.fieldAddr fo_25_3 rfl .none rfl ?_
            refine JA.cont ?_
            refine JA.many [4, 9] (by kernel_rfl) (by simp) (all_cons ⟨_, #[true, true, true, true, true, false, false, false, true, false, false, false], rfl, (by kernel_rfl), ?_⟩ (all_one ⟨_, #[true, true, true, true, false, false, false, false, true, true, false, false], rfl, (by kernel_rfl), ?_⟩))
            · skip
              refine JL.fieldAddr fo_25_1 rfl .none rfl ?_
              refine JA.after hE (HSub.refl _) (.cons_cons _ (.cons_cons _ (.cons_cons _ (.cons_cons _ (.cons_cons _ (.cons_cons _ (List.nil_sublist _))))))) ?_
              refine JA.many [5, 9] (by kernel_rfl) (by simp) (all_cons ⟨_, #[true, true, true, true, true, true, false, false, true, false, false, false], rfl, (by kernel_rfl), ?_⟩ (all_one ⟨_, #[true, true, true, true, true, false, false, false, true, true, false, false], rfl, (by kernel_rfl), ?_⟩))
              · skip
                refine JL.loadOwn 5 az_3 rfl rfl rfl .none rfl ?_
                refine JA.after hE (HSub.refl _) (.cons_cons _ (.cons_cons _ (.cons_cons _ (.cons_cons _ (.cons_cons _ (.cons_cons _ (List.nil_sublist _))))))) ?_
                refine JA.many [6, 9] (by kernel_rfl) (by simp) (all_cons ⟨_, #[true, true, true, true, true, true, true, false, true, false, false, false], rfl, (by kernel_rfl), ?_⟩ (all_one ⟨_, #[true, true, true, true, true, true, false, false, true, true, false, false], rfl, (by kernel_rfl), ?_⟩))
                · skip
                  refine JL.bin rfl rfl rfl .none rfl ?_
                  refine JA.after hE (HSub.refl _) (.cons_cons _ (.cons_cons _ (.cons_cons _ (.cons_cons _ (.cons_cons _ (.cons_cons _ (List.nil_sublist _))))))) ?_
                  refine JA.many [7, 9] (by kernel_rfl) (by simp) (all_cons ⟨_, #[true, true, true, true, true, true, true, true, true, false, false, false], rfl, (by kernel_rfl), ?_⟩ (all_one ⟨_, #[true, true, true, true, true, true, true, false, true, true, false, false], rfl, (by kernel_rfl), ?_⟩))
                  · skip
                    refine JL.min rfl rfl .none rfl ?_
                    refine JA.after hE (HSub.refl _) (.cons_cons _ (.cons_cons _ (.cons_cons _ (.cons_cons _ (.cons_cons _ (.cons_cons _ (List.nil_sublist _))))))) ?_
                    refine JA.many [9] (by kernel_rfl) (by simp) (all_one ⟨_, #[true, true, true, true, true, true, true, true, true, true, false, false], rfl, (by kernel_rfl), ?_⟩)
                    refine JL.storeOwn 2 (cs := [.int .i64 (min 10 (w64 (t.Wrong + 1)))]) az_3 rfl rfl rfl (one_cons rfl one_nil) rfl rfl .none ?_
                    refine JA.sink (by kernel_rfl) ?_
                    exact nd208_0 _ _ _ _ ⟨rfl, rfl, rfl, rfl, rfl, rfl, rfl, rfl, (HSub.refl _)⟩
                  · skip
                    refine JL.storeOwn 2 (cs := [.int .i64 (min 10 (w64 (t.Wrong + 1)))]) az_3 rfl rfl rfl (one_cons rfl one_nil) rfl rfl .none ?_
                    refine JA.sink (by kernel_rfl) ?_
                    exact nd208_1 _ _ _ _ ⟨rfl, rfl, rfl, rfl, rfl, rfl, rfl, rfl, (HSub.refl _)⟩
                · skip
                  refine JL.storeOwn 2 (cs := [.int .i64 (min 10 (w64 (t.Wrong + 1)))]) az_3 rfl rfl rfl (one_cons rfl one_nil) rfl rfl .none ?_
                  refine JA.sink (by kernel_rfl) ?_
                  exact nd208_2 _ _ _ _ ⟨rfl, rfl, rfl, rfl, rfl, rfl, rfl, rfl, (HSub.refl _)⟩
              · skip
                refine JL.storeOwn 2 (cs := [.int .i64 (min 10 (w64 (t.Wrong + 1)))]) az_3 rfl rfl rfl (one_cons rfl one_nil) rfl rfl .none ?_
                refine JA.sink (by kernel_rfl) ?_
                exact nd208_3 _ _ _ _ ⟨rfl, rfl, rfl, rfl, rfl, rfl, rfl, rfl, (HSub.refl _)⟩
            · skip
              refine JL.storeOwn 2 (cs := [.int .i64 (min 10 (w64 (t.Wrong + 1)))]) az_3 rfl rfl rfl (one_cons rfl one_nil) rfl rfl .none ?_
              refine JA.sink (by kernel_rfl) ?_
              refine JA.many [4] (by kernel_rfl) (by simp) (all_one ⟨_, #[true, true, true, true, true, false, false, false, true, true, false, false], rfl, (by kernel_rfl), ?_⟩)
              refine JL.fieldAddr fo_25_1 rfl .none rfl ?_
              refine JA.sink (by kernel_rfl) ?_
              exact nd208_3 _ _ _ _ ⟨rfl, rfl, rfl, rfl, rfl, rfl, rfl, rfl, (HSub.refl _)⟩
          intro nd189_0
          refine JA.cut 4 #[true, true, true, true, true, true, true, true, false, false, false, false] (fun H254 f bs gs => ∃ (b152 : Nat) (b112 : Nat) (y26_v1 : Value) (y26_xs1 : List Value) (y26_v0 : Value) (y26_xs0 : List Value) (y21_v1 : Value) (y21_xs1 : List Value) (y21_v0 : Value) (y21_xs0 : List Value) (y16_v1 : Value) (y16_xs1 : List Value) (y16_v0 : Value) (y16_xs0 : List Value), f 2 = route_v0 ∧ f 3 = .pointer (some ⟨b1, 0, none⟩) ∧ f 4 = .pointer (some ⟨b2, 0, none⟩) ∧ f 7 = .pointer (some ⟨b112, 0, none⟩) ∧ f 8 = .pointer (some ⟨b152, 0, none⟩) ∧ f 32 = .agg [.int .i64 y16.Days, .int .i64 y16.Step, y16_v0, .int .i64 y16.Wrong, y16_v1, .int .i64 y16.Reach, .int .i64 y16.Stock].toArray ∧ f 34 = .agg [.int .i64 y21.Days, .int .i64 y21.Step, y21_v0, .int .i64 y21.Wrong, y21_v1, .int .i64 y21.Reach, .int .i64 y21.Stock].toArray ∧ f 36 = .agg [.int .i64 y26.Days, .int .i64 y26.Step, y26_v0, .int .i64 y26.Wrong, y26_v1, .int .i64 y26.Reach, .int .i64 y26.Stock].toArray ∧ bs = [(b152, .cells [.int .i64 0, .int .i64 0, .slice none 0 0, .int .i64 0, .slice none 0 0, .int .i64 0, .int .i64 0].toArray 25), (b112, .cells [.int .i64 0, .int .i64 0, .slice none 0 0, .int .i64 0, .slice none 0 0, .int .i64 0, .int .i64 0].toArray 25), (b2, .cells [.int .i64 x_.Day, .int .i64 x_.Level.Low, .int .i64 x_.Level.High].toArray 37), (b1, .cells [.int .i64 t.Days, .int .i64 t.Step, t_v2, .int .i64 t.Wrong, t_v4, .int .i64 t.Reach, .int .i64 t.Stock].toArray 25)] ∧ gs = [⟨y26_v1, 41, 2, y26.Fairs.length, y26_xs1⟩, ⟨y26_v0, 37, 3, y26.Rains.length, y26_xs0⟩, ⟨y21_v1, 41, 2, y21.Fairs.length, y21_xs1⟩, ⟨y21_v0, 37, 3, y21.Rains.length, y21_xs0⟩, ⟨y16_v1, 41, 2, y16.Fairs.length, y16_xs1⟩, ⟨y16_v0, 37, 3, y16.Rains.length, y16_xs0⟩] ∧ CH H254 2 R_Fair y26_xs1 y26.Fairs ∧ CH H254 3 R_Rain y26_xs0 y26.Rains ∧ CH H254 2 R_Fair y21_xs1 y21.Fairs ∧ CH H254 3 R_Rain y21_xs0 y21.Rains ∧ CH H254 2 R_Fair y16_xs1 y16.Fairs ∧ CH H254 3 R_Rain y16_xs0 y16.Rains ∧ HSub H H254) ?_ ?_
          · rintro H254 f bs gs ⟨b152, b112, y26_v1, y26_xs1, y26_v0, y26_xs0, y21_v1, y21_xs1, y21_v0, y21_xs0, y16_v1, y16_xs1, y16_v0, y16_xs0, hf2, hf3, hf4, hf7, hf8, hf32, hf34, hf36, rfl, rfl, hm255, hm256, hm257, hm258, hm259, hm260, hs254⟩
            refine (JA.norm (i := 2) hf2 (JA.norm (i := 3) hf3 (JA.norm (i := 4) hf4 (JA.norm (i := 7) hf7 (JA.norm (i := 8) hf8 (JA.norm (i := 32) hf32 (JA.norm (i := 34) hf34 (JA.norm (i := 36) hf36 ?_))))))))
            refine JA.many [8] (by kernel_rfl) (by simp) (all_one ⟨_, #[true, true, true, true, true, true, true, true, true, false, false, false], rfl, (by kernel_rfl), ?_⟩)
            refine JL.alloc ze_25 .none rfl ?_
            intro b261
            refine JA.after hE hs254 (.cons _ (.cons _ (.cons _ (.cons_cons _ (.cons_cons _ (List.nil_sublist _)))))) ?_
            exact nd189_0 _ _ _ _ ⟨b261, b152, b112, y26_v1, y26_xs1, y26_v0, y26_xs0, y21_v1, y21_xs1, y21_v0, y21_xs0, y16_v1, y16_xs1, y16_v0, y16_xs0, rfl, rfl, rfl, rfl, rfl, rfl, rfl, rfl, rfl, rfl, rfl, hm255, hm256, hm257, hm258, hm259, hm260, hs254⟩
          intro nd189_1
          refine JA.cut 4 #[true, true, true, true, true, true, true, false, true, false, false, false] (fun H262 f bs gs => ∃ (b153 : Nat) (b112 : Nat) (y26_v1 : Value) (y26_xs1 : List Value) (y26_v0 : Value) (y26_xs0 : List Value) (y21_v1 : Value) (y21_xs1 : List Value) (y21_v0 : Value) (y21_xs0 : List Value) (y16_v1 : Value) (y16_xs1 : List Value) (y16_v0 : Value) (y16_xs0 : List Value), f 2 = route_v0 ∧ f 3 = .pointer (some ⟨b1, 0, none⟩) ∧ f 4 = .pointer (some ⟨b2, 0, none⟩) ∧ f 7 = .pointer (some ⟨b112, 0, none⟩) ∧ f 9 = .pointer (some ⟨b153, 0, none⟩) ∧ f 32 = .agg [.int .i64 y16.Days, .int .i64 y16.Step, y16_v0, .int .i64 y16.Wrong, y16_v1, .int .i64 y16.Reach, .int .i64 y16.Stock].toArray ∧ f 34 = .agg [.int .i64 y21.Days, .int .i64 y21.Step, y21_v0, .int .i64 y21.Wrong, y21_v1, .int .i64 y21.Reach, .int .i64 y21.Stock].toArray ∧ f 36 = .agg [.int .i64 y26.Days, .int .i64 y26.Step, y26_v0, .int .i64 y26.Wrong, y26_v1, .int .i64 y26.Reach, .int .i64 y26.Stock].toArray ∧ bs = [(b153, .cells [.int .i64 0, .int .i64 0, .slice none 0 0, .int .i64 0, .slice none 0 0, .int .i64 0, .int .i64 0].toArray 25), (b112, .cells [.int .i64 0, .int .i64 0, .slice none 0 0, .int .i64 0, .slice none 0 0, .int .i64 0, .int .i64 0].toArray 25), (b2, .cells [.int .i64 x_.Day, .int .i64 x_.Level.Low, .int .i64 x_.Level.High].toArray 37), (b1, .cells [.int .i64 t.Days, .int .i64 t.Step, t_v2, .int .i64 t.Wrong, t_v4, .int .i64 t.Reach, .int .i64 t.Stock].toArray 25)] ∧ gs = [⟨y26_v1, 41, 2, y26.Fairs.length, y26_xs1⟩, ⟨y26_v0, 37, 3, y26.Rains.length, y26_xs0⟩, ⟨y21_v1, 41, 2, y21.Fairs.length, y21_xs1⟩, ⟨y21_v0, 37, 3, y21.Rains.length, y21_xs0⟩, ⟨y16_v1, 41, 2, y16.Fairs.length, y16_xs1⟩, ⟨y16_v0, 37, 3, y16.Rains.length, y16_xs0⟩] ∧ CH H262 2 R_Fair y26_xs1 y26.Fairs ∧ CH H262 3 R_Rain y26_xs0 y26.Rains ∧ CH H262 2 R_Fair y21_xs1 y21.Fairs ∧ CH H262 3 R_Rain y21_xs0 y21.Rains ∧ CH H262 2 R_Fair y16_xs1 y16.Fairs ∧ CH H262 3 R_Rain y16_xs0 y16.Rains ∧ HSub H H262) ?_ ?_
          · rintro H262 f bs gs ⟨b153, b112, y26_v1, y26_xs1, y26_v0, y26_xs0, y21_v1, y21_xs1, y21_v0, y21_xs0, y16_v1, y16_xs1, y16_v0, y16_xs0, hf2, hf3, hf4, hf7, hf9, hf32, hf34, hf36, rfl, rfl, hm263, hm264, hm265, hm266, hm267, hm268, hs262⟩
            refine (JA.norm (i := 2) hf2 (JA.norm (i := 3) hf3 (JA.norm (i := 4) hf4 (JA.norm (i := 7) hf7 (JA.norm (i := 9) hf9 (JA.norm (i := 32) hf32 (JA.norm (i := 34) hf34 (JA.norm (i := 36) hf36 ?_))))))))
            refine JA.many [7] (by kernel_rfl) (by simp) (all_one ⟨_, #[true, true, true, true, true, true, true, true, true, false, false, false], rfl, (by kernel_rfl), ?_⟩)
            refine JL.alloc ze_25 .none rfl ?_
            intro b269
            refine JA.after hE hs262 (.cons _ (.cons _ (.cons _ (.cons_cons _ (.cons_cons _ (List.nil_sublist _)))))) ?_
            refine JA.perm (swapAt_perm 0 _) ?_
            exact nd189_0 _ _ _ _ ⟨b153, b269, b112, y26_v1, y26_xs1, y26_v0, y26_xs0, y21_v1, y21_xs1, y21_v0, y21_xs0, y16_v1, y16_xs1, y16_v0, y16_xs0, rfl, rfl, rfl, rfl, rfl, rfl, rfl, rfl, rfl, rfl, rfl, hm263, hm264, hm265, hm266, hm267, hm268, hs262⟩
          intro nd189_2
          refine JA.cut 4 #[true, true, true, true, true, true, false, true, true, false, false, false] (fun H270 f bs gs => ∃ (b155 : Nat) (b113 : Nat) (y26_v1 : Value) (y26_xs1 : List Value) (y26_v0 : Value) (y26_xs0 : List Value) (y21_v1 : Value) (y21_xs1 : List Value) (y21_v0 : Value) (y21_xs0 : List Value) (y16_v1 : Value) (y16_xs1 : List Value) (y16_v0 : Value) (y16_xs0 : List Value), f 2 = route_v0 ∧ f 3 = .pointer (some ⟨b1, 0, none⟩) ∧ f 4 = .pointer (some ⟨b2, 0, none⟩) ∧ f 8 = .pointer (some ⟨b113, 0, none⟩) ∧ f 9 = .pointer (some ⟨b155, 0, none⟩) ∧ f 32 = .agg [.int .i64 y16.Days, .int .i64 y16.Step, y16_v0, .int .i64 y16.Wrong, y16_v1, .int .i64 y16.Reach, .int .i64 y16.Stock].toArray ∧ f 34 = .agg [.int .i64 y21.Days, .int .i64 y21.Step, y21_v0, .int .i64 y21.Wrong, y21_v1, .int .i64 y21.Reach, .int .i64 y21.Stock].toArray ∧ f 36 = .agg [.int .i64 y26.Days, .int .i64 y26.Step, y26_v0, .int .i64 y26.Wrong, y26_v1, .int .i64 y26.Reach, .int .i64 y26.Stock].toArray ∧ bs = [(b155, .cells [.int .i64 0, .int .i64 0, .slice none 0 0, .int .i64 0, .slice none 0 0, .int .i64 0, .int .i64 0].toArray 25), (b113, .cells [.int .i64 0, .int .i64 0, .slice none 0 0, .int .i64 0, .slice none 0 0, .int .i64 0, .int .i64 0].toArray 25), (b2, .cells [.int .i64 x_.Day, .int .i64 x_.Level.Low, .int .i64 x_.Level.High].toArray 37), (b1, .cells [.int .i64 t.Days, .int .i64 t.Step, t_v2, .int .i64 t.Wrong, t_v4, .int .i64 t.Reach, .int .i64 t.Stock].toArray 25)] ∧ gs = [⟨y26_v1, 41, 2, y26.Fairs.length, y26_xs1⟩, ⟨y26_v0, 37, 3, y26.Rains.length, y26_xs0⟩, ⟨y21_v1, 41, 2, y21.Fairs.length, y21_xs1⟩, ⟨y21_v0, 37, 3, y21.Rains.length, y21_xs0⟩, ⟨y16_v1, 41, 2, y16.Fairs.length, y16_xs1⟩, ⟨y16_v0, 37, 3, y16.Rains.length, y16_xs0⟩] ∧ CH H270 2 R_Fair y26_xs1 y26.Fairs ∧ CH H270 3 R_Rain y26_xs0 y26.Rains ∧ CH H270 2 R_Fair y21_xs1 y21.Fairs ∧ CH H270 3 R_Rain y21_xs0 y21.Rains ∧ CH H270 2 R_Fair y16_xs1 y16.Fairs ∧ CH H270 3 R_Rain y16_xs0 y16.Rains ∧ HSub H H270) ?_ ?_
          · rintro H270 f bs gs ⟨b155, b113, y26_v1, y26_xs1, y26_v0, y26_xs0, y21_v1, y21_xs1, y21_v0, y21_xs0, y16_v1, y16_xs1, y16_v0, y16_xs0, hf2, hf3, hf4, hf8, hf9, hf32, hf34, hf36, rfl, rfl, hm271, hm272, hm273, hm274, hm275, hm276, hs270⟩
            refine (JA.norm (i := 2) hf2 (JA.norm (i := 3) hf3 (JA.norm (i := 4) hf4 (JA.norm (i := 8) hf8 (JA.norm (i := 9) hf9 (JA.norm (i := 32) hf32 (JA.norm (i := 34) hf34 (JA.norm (i := 36) hf36 ?_))))))))
            refine JA.many [6] (by kernel_rfl) (by simp) (all_one ⟨_, #[true, true, true, true, true, true, true, true, true, false, false, false], rfl, (by kernel_rfl), ?_⟩)
            refine JL.alloc ze_25 .none rfl ?_
            intro b277
            refine JA.after hE hs270 (.cons _ (.cons _ (.cons _ (.cons_cons _ (.cons_cons _ (List.nil_sublist _)))))) ?_
            refine JA.perm (swapAt_perm 0 _) ?_
            refine JA.perm (swapAt_perm 1 _) ?_
            exact nd189_0 _ _ _ _ ⟨b155, b113, b277, y26_v1, y26_xs1, y26_v0, y26_xs0, y21_v1, y21_xs1, y21_v0, y21_xs0, y16_v1, y16_xs1, y16_v0, y16_xs0, rfl, rfl, rfl, rfl, rfl, rfl, rfl, rfl, rfl, rfl, rfl, hm271, hm272, hm273, hm274, hm275, hm276, hs270⟩
          intro nd189_3
          refine JA.cut 4 #[true, true, true, true, true, false, true, true, true, false, false, false] (fun H278 f bs gs => ∃ (b162 : Nat) (b119 : Nat) (b76 : Nat) (y21_v1 : Value) (y21_xs1 : List Value) (y21_v0 : Value) (y21_xs0 : List Value) (y16_v1 : Value) (y16_xs1 : List Value) (y16_v0 : Value) (y16_xs0 : List Value), f 2 = route_v0 ∧ f 3 = .pointer (some ⟨b1, 0, none⟩) ∧ f 4 = .pointer (some ⟨b2, 0, none⟩) ∧ f 7 = .pointer (some ⟨b76, 0, none⟩) ∧ f 8 = .pointer (some ⟨b119, 0, none⟩) ∧ f 9 = .pointer (some ⟨b162, 0, none⟩) ∧ f 32 = .agg [.int .i64 y16.Days, .int .i64 y16.Step, y16_v0, .int .i64 y16.Wrong, y16_v1, .int .i64 y16.Reach, .int .i64 y16.Stock].toArray ∧ f 34 = .agg [.int .i64 y21.Days, .int .i64 y21.Step, y21_v0, .int .i64 y21.Wrong, y21_v1, .int .i64 y21.Reach, .int .i64 y21.Stock].toArray ∧ f 35 = .agg [.int .i64 t.Days, .int .i64 t.Step, t_v2, .int .i64 t.Wrong, t_v4, .int .i64 t.Reach, .int .i64 t.Stock].toArray ∧ bs = [(b162, .cells [.int .i64 0, .int .i64 0, .slice none 0 0, .int .i64 0, .slice none 0 0, .int .i64 0, .int .i64 0].toArray 25), (b119, .cells [.int .i64 0, .int .i64 0, .slice none 0 0, .int .i64 0, .slice none 0 0, .int .i64 0, .int .i64 0].toArray 25), (b76, .cells [.int .i64 0, .int .i64 0, .slice none 0 0, .int .i64 0, .slice none 0 0, .int .i64 0, .int .i64 0].toArray 25), (b2, .cells [.int .i64 x_.Day, .int .i64 x_.Level.Low, .int .i64 x_.Level.High].toArray 37), (b1, .cells [.int .i64 t.Days, .int .i64 t.Step, t_v2, .int .i64 t.Wrong, t_v4, .int .i64 t.Reach, .int .i64 t.Stock].toArray 25)] ∧ gs = [⟨y21_v1, 41, 2, y21.Fairs.length, y21_xs1⟩, ⟨y21_v0, 37, 3, y21.Rains.length, y21_xs0⟩, ⟨y16_v1, 41, 2, y16.Fairs.length, y16_xs1⟩, ⟨y16_v0, 37, 3, y16.Rains.length, y16_xs0⟩] ∧ CH H278 2 R_Fair y21_xs1 y21.Fairs ∧ CH H278 3 R_Rain y21_xs0 y21.Rains ∧ CH H278 2 R_Fair y16_xs1 y16.Fairs ∧ CH H278 3 R_Rain y16_xs0 y16.Rains ∧ HSub H H278) ?_ ?_
          · rintro H278 f bs gs ⟨b162, b119, b76, y21_v1, y21_xs1, y21_v0, y21_xs0, y16_v1, y16_xs1, y16_v0, y16_xs0, hf2, hf3, hf4, hf7, hf8, hf9, hf32, hf34, hf35, rfl, rfl, hm279, hm280, hm281, hm282, hs278⟩
            refine (JA.norm (i := 2) hf2 (JA.norm (i := 3) hf3 (JA.norm (i := 4) hf4 (JA.norm (i := 7) hf7 (JA.norm (i := 8) hf8 (JA.norm (i := 9) hf9 (JA.norm (i := 32) hf32 (JA.norm (i := 34) hf34 (JA.norm (i := 35) hf35 ?_)))))))))
            refine JA.many [5] (by kernel_rfl) (by simp) (all_one ⟨_, #[true, true, true, true, true, true, true, true, true, false, false, false], rfl, (by kernel_rfl), ?_⟩)
            refine JL.callXC (x_ref11_Copy n H278 t t_v2 (SL.mono R_Rain_mono hs278 ht_2) t_v4 (SL.mono R_Fair_mono hs278 ht_4) y26 hy26) rfl en_14 .none rfl ?_
            rintro H283 vv284 _ hs283 ⟨y26_v0, y26_xs0, y26_v1, y26_xs1, rfl, rfl, hy26_0, hy26_1⟩
            refine JA.after hE (HSub.trans hs278 hs283) (.cons _ (.cons _ (.cons _ (.cons_cons _ (.cons_cons _ (List.nil_sublist _)))))) ?_
            exact nd189_0 _ _ _ _ ⟨b162, b119, b76, y26_v1, y26_xs1, y26_v0, y26_xs0, y21_v1, y21_xs1, y21_v0, y21_xs0, y16_v1, y16_xs1, y16_v0, y16_xs0, rfl, rfl, rfl, rfl, rfl, rfl, rfl, rfl, rfl, rfl, rfl, hy26_1, hy26_0, (CH.mono R_Fair_mono hs283 hm279), (CH.mono R_Rain_mono hs283 hm280), (CH.mono R_Fair_mono hs283 hm281), (CH.mono R_Rain_mono hs283 hm282), (HSub.trans hs278 hs283)⟩
          intro nd189_4
          refine JA.cut 5 #[true, true, true, true, true, true, true, false, false, false, false, false] (fun H287 f bs gs => ∃ (b112 : Nat) (y26_v1 : Value) (y26_xs1 : List Value) (y26_v0 : Value) (y26_xs0 : List Value) (y21_v1 : Value) (y21_xs1 : List Value) (y21_v0 : Value) (y21_xs0 : List Value) (y16_v1 : Value) (y16_xs1 : List Value) (y16_v0 : Value) (y16_xs0 : List Value), f 2 = route_v0 ∧ f 3 = .pointer (some ⟨b1, 0, none⟩) ∧ f 4 = .pointer (some ⟨b2, 0, none⟩) ∧ f 7 = .pointer (some ⟨b112, 0, none⟩) ∧ f 32 = .agg [.int .i64 y16.Days, .int .i64 y16.Step, y16_v0, .int .i64 y16.Wrong, y16_v1, .int .i64 y16.Reach, .int .i64 y16.Stock].toArray ∧ f 34 = .agg [.int .i64 y21.Days, .int .i64 y21.Step, y21_v0, .int .i64 y21.Wrong, y21_v1, .int .i64 y21.Reach, .int .i64 y21.Stock].toArray ∧ f 36 = .agg [.int .i64 y26.Days, .int .i64 y26.Step, y26_v0, .int .i64 y26.Wrong, y26_v1, .int .i64 y26.Reach, .int .i64 y26.Stock].toArray ∧ bs = [(b112, .cells [.int .i64 0, .int .i64 0, .slice none 0 0, .int .i64 0, .slice none 0 0, .int .i64 0, .int .i64 0].toArray 25), (b2, .cells [.int .i64 x_.Day, .int .i64 x_.Level.Low, .int .i64 x_.Level.High].toArray 37), (b1, .cells [.int .i64 t.Days, .int .i64 t.Step, t_v2, .int .i64 t.Wrong, t_v4, .int .i64 t.Reach, .int .i64 t.Stock].toArray 25)] ∧ gs = [⟨y26_v1, 41, 2, y26.Fairs.length, y26_xs1⟩, ⟨y26_v0, 37, 3, y26.Rains.length, y26_xs0⟩, ⟨y21_v1, 41, 2, y21.Fairs.length, y21_xs1⟩, ⟨y21_v0, 37, 3, y21.Rains.length, y21_xs0⟩, ⟨y16_v1, 41, 2, y16.Fairs.length, y16_xs1⟩, ⟨y16_v0, 37, 3, y16.Rains.length, y16_xs0⟩] ∧ CH H287 2 R_Fair y26_xs1 y26.Fairs ∧ CH H287 3 R_Rain y26_xs0 y26.Rains ∧ CH H287 2 R_Fair y21_xs1 y21.Fairs ∧ CH H287 3 R_Rain y21_xs0 y21.Rains ∧ CH H287 2 R_Fair y16_xs1 y16.Fairs ∧ CH H287 3 R_Rain y16_xs0 y16.Rains ∧ HSub H H287) ?_ ?_
          · rintro H287 f bs gs ⟨b112, y26_v1, y26_xs1, y26_v0, y26_xs0, y21_v1, y21_xs1, y21_v0, y21_xs0, y16_v1, y16_xs1, y16_v0, y16_xs0, hf2, hf3, hf4, hf7, hf32, hf34, hf36, rfl, rfl, hm288, hm289, hm290, hm291, hm292, hm293, hs287⟩
            refine (JA.norm (i := 2) hf2 (JA.norm (i := 3) hf3 (JA.norm (i := 4) hf4 (JA.norm (i := 7) hf7 (JA.norm (i := 32) hf32 (JA.norm (i := 34) hf34 (JA.norm (i := 36) hf36 ?_)))))))
            refine JA.many [7, 8] (by kernel_rfl) (by simp) (all_cons ⟨_, #[true, true, true, true, true, true, true, true, false, false, false, false], rfl, (by kernel_rfl), ?_⟩ (all_one ⟨_, #[true, true, true, true, true, true, true, false, true, false, false, false], rfl, (by kernel_rfl), ?_⟩))
            · skip
              refine JL.alloc ze_25 .none rfl ?_
              intro b294
              refine JA.after hE hs287 (.cons _ (.cons _ (.cons_cons _ (.cons_cons _ (List.nil_sublist _))))) ?_
              exact nd189_1 _ _ _ _ ⟨b294, b112, y26_v1, y26_xs1, y26_v0, y26_xs0, y21_v1, y21_xs1, y21_v0, y21_xs0, y16_v1, y16_xs1, y16_v0, y16_xs0, rfl, rfl, rfl, rfl, rfl, rfl, rfl, rfl, rfl, rfl, hm288, hm289, hm290, hm291, hm292, hm293, hs287⟩
            · skip
              refine JL.alloc ze_25 .none rfl ?_
              intro b295
              refine JA.after hE hs287 (.cons _ (.cons _ (.cons_cons _ (.cons_cons _ (List.nil_sublist _))))) ?_
              exact nd189_2 _ _ _ _ ⟨b295, b112, y26_v1, y26_xs1, y26_v0, y26_xs0, y21_v1, y21_xs1, y21_v0, y21_xs0, y16_v1, y16_xs1, y16_v0, y16_xs0, rfl, rfl, rfl, rfl, rfl, rfl, rfl, rfl, rfl, rfl, hm288, hm289, hm290, hm291, hm292, hm293, hs287⟩
          intro nd189_5
          refine JA.cut 5 #[true, true, true, true, true, true, false, true, false, false, false, false] (fun H296 f bs gs => ∃ (b113 : Nat) (y26_v1 : Value) (y26_xs1 : List Value) (y26_v0 : Value) (y26_xs0 : List Value) (y21_v1 : Value) (y21_xs1 : List Value) (y21_v0 : Value) (y21_xs0 : List Value) (y16_v1 : Value) (y16_xs1 : List Value) (y16_v0 : Value) (y16_xs0 : List Value), f 2 = route_v0 ∧ f 3 = .pointer (some ⟨b1, 0, none⟩) ∧ f 4 = .pointer (some ⟨b2, 0, none⟩) ∧ f 8 = .pointer (some ⟨b113, 0, none⟩) ∧ f 32 = .agg [.int .i64 y16.Days, .int .i64 y16.Step, y16_v0, .int .i64 y16.Wrong, y16_v1, .int .i64 y16.Reach, .int .i64 y16.Stock].toArray ∧ f 34 = .agg [.int .i64 y21.Days, .int .i64 y21.Step, y21_v0, .int .i64 y21.Wrong, y21_v1, .int .i64 y21.Reach, .int .i64 y21.Stock].toArray ∧ f 36 = .agg [.int .i64 y26.Days, .int .i64 y26.Step, y26_v0, .int .i64 y26.Wrong, y26_v1, .int .i64 y26.Reach, .int .i64 y26.Stock].toArray ∧ bs = [(b113, .cells [.int .i64 0, .int .i64 0, .slice none 0 0, .int .i64 0, .slice none 0 0, .int .i64 0, .int .i64 0].toArray 25), (b2, .cells [.int .i64 x_.Day, .int .i64 x_.Level.Low, .int .i64 x_.Level.High].toArray 37), (b1, .cells [.int .i64 t.Days, .int .i64 t.Step, t_v2, .int .i64 t.Wrong, t_v4, .int .i64 t.Reach, .int .i64 t.Stock].toArray 25)] ∧ gs = [⟨y26_v1, 41, 2, y26.Fairs.length, y26_xs1⟩, ⟨y26_v0, 37, 3, y26.Rains.length, y26_xs0⟩, ⟨y21_v1, 41, 2, y21.Fairs.length, y21_xs1⟩, ⟨y21_v0, 37, 3, y21.Rains.length, y21_xs0⟩, ⟨y16_v1, 41, 2, y16.Fairs.length, y16_xs1⟩, ⟨y16_v0, 37, 3, y16.Rains.length, y16_xs0⟩] ∧ CH H296 2 R_Fair y26_xs1 y26.Fairs ∧ CH H296 3 R_Rain y26_xs0 y26.Rains ∧ CH H296 2 R_Fair y21_xs1 y21.Fairs ∧ CH H296 3 R_Rain y21_xs0 y21.Rains ∧ CH H296 2 R_Fair y16_xs1 y16.Fairs ∧ CH H296 3 R_Rain y16_xs0 y16.Rains ∧ HSub H H296) ?_ ?_
          · rintro H296 f bs gs ⟨b113, y26_v1, y26_xs1, y26_v0, y26_xs0, y21_v1, y21_xs1, y21_v0, y21_xs0, y16_v1, y16_xs1, y16_v0, y16_xs0, hf2, hf3, hf4, hf8, hf32, hf34, hf36, rfl, rfl, hm297, hm298, hm299, hm300, hm301, hm302, hs296⟩
            refine (JA.norm (i := 2) hf2 (JA.norm (i := 3) hf3 (JA.norm (i := 4) hf4 (JA.norm (i := 8) hf8 (JA.norm (i := 32) hf32 (JA.norm (i := 34) hf34 (JA.norm (i := 36) hf36 ?_)))))))
            refine JA.many [6, 8] (by kernel_rfl) (by simp) (all_cons ⟨_, #[true, true, true, true, true, true, true, true, false, false, false, false], rfl, (by kernel_rfl), ?_⟩ (all_one ⟨_, #[true, true, true, true, true, true, false, true, true, false, false, false], rfl, (by kernel_rfl), ?_⟩))
            · skip
              refine JL.alloc ze_25 .none rfl ?_
              intro b303
              refine JA.after hE hs296 (.cons _ (.cons _ (.cons_cons _ (.cons_cons _ (List.nil_sublist _))))) ?_
              refine JA.perm (swapAt_perm 0 _) ?_
              exact nd189_1 _ _ _ _ ⟨b113, b303, y26_v1, y26_xs1, y26_v0, y26_xs0, y21_v1, y21_xs1, y21_v0, y21_xs0, y16_v1, y16_xs1, y16_v0, y16_xs0, rfl, rfl, rfl, rfl, rfl, rfl, rfl, rfl, rfl, rfl, hm297, hm298, hm299, hm300, hm301, hm302, hs296⟩
            · skip
              refine JL.alloc ze_25 .none rfl ?_
              intro b304
              refine JA.after hE hs296 (.cons _ (.cons _ (.cons_cons _ (.cons_cons _ (List.nil_sublist _))))) ?_
              exact nd189_3 _ _ _ _ ⟨b304, b113, y26_v1, y26_xs1, y26_v0, y26_xs0, y21_v1, y21_xs1, y21_v0, y21_xs0, y16_v1, y16_xs1, y16_v0, y16_xs0, rfl, rfl, rfl, rfl, rfl, rfl, rfl, rfl, rfl, rfl, hm297, hm298, hm299, hm300, hm301, hm302, hs296⟩
          intro nd189_6
          refine JA.cut 5 #[true, true, true, true, true, true, false, false, true, false, false, false] (fun H305 f bs gs => ∃ (b114 : Nat) (y26_v1 : Value) (y26_xs1 : List Value) (y26_v0 : Value) (y26_xs0 : List Value) (y21_v1 : Value) (y21_xs1 : List Value) (y21_v0 : Value) (y21_xs0 : List Value) (y16_v1 : Value) (y16_xs1 : List Value) (y16_v0 : Value) (y16_xs0 : List Value), f 2 = route_v0 ∧ f 3 = .pointer (some ⟨b1, 0, none⟩) ∧ f 4 = .pointer (some ⟨b2, 0, none⟩) ∧ f 9 = .pointer (some ⟨b114, 0, none⟩) ∧ f 32 = .agg [.int .i64 y16.Days, .int .i64 y16.Step, y16_v0, .int .i64 y16.Wrong, y16_v1, .int .i64 y16.Reach, .int .i64 y16.Stock].toArray ∧ f 34 = .agg [.int .i64 y21.Days, .int .i64 y21.Step, y21_v0, .int .i64 y21.Wrong, y21_v1, .int .i64 y21.Reach, .int .i64 y21.Stock].toArray ∧ f 36 = .agg [.int .i64 y26.Days, .int .i64 y26.Step, y26_v0, .int .i64 y26.Wrong, y26_v1, .int .i64 y26.Reach, .int .i64 y26.Stock].toArray ∧ bs = [(b114, .cells [.int .i64 0, .int .i64 0, .slice none 0 0, .int .i64 0, .slice none 0 0, .int .i64 0, .int .i64 0].toArray 25), (b2, .cells [.int .i64 x_.Day, .int .i64 x_.Level.Low, .int .i64 x_.Level.High].toArray 37), (b1, .cells [.int .i64 t.Days, .int .i64 t.Step, t_v2, .int .i64 t.Wrong, t_v4, .int .i64 t.Reach, .int .i64 t.Stock].toArray 25)] ∧ gs = [⟨y26_v1, 41, 2, y26.Fairs.length, y26_xs1⟩, ⟨y26_v0, 37, 3, y26.Rains.length, y26_xs0⟩, ⟨y21_v1, 41, 2, y21.Fairs.length, y21_xs1⟩, ⟨y21_v0, 37, 3, y21.Rains.length, y21_xs0⟩, ⟨y16_v1, 41, 2, y16.Fairs.length, y16_xs1⟩, ⟨y16_v0, 37, 3, y16.Rains.length, y16_xs0⟩] ∧ CH H305 2 R_Fair y26_xs1 y26.Fairs ∧ CH H305 3 R_Rain y26_xs0 y26.Rains ∧ CH H305 2 R_Fair y21_xs1 y21.Fairs ∧ CH H305 3 R_Rain y21_xs0 y21.Rains ∧ CH H305 2 R_Fair y16_xs1 y16.Fairs ∧ CH H305 3 R_Rain y16_xs0 y16.Rains ∧ HSub H H305) ?_ ?_
          · rintro H305 f bs gs ⟨b114, y26_v1, y26_xs1, y26_v0, y26_xs0, y21_v1, y21_xs1, y21_v0, y21_xs0, y16_v1, y16_xs1, y16_v0, y16_xs0, hf2, hf3, hf4, hf9, hf32, hf34, hf36, rfl, rfl, hm306, hm307, hm308, hm309, hm310, hm311, hs305⟩
            refine (JA.norm (i := 2) hf2 (JA.norm (i := 3) hf3 (JA.norm (i := 4) hf4 (JA.norm (i := 9) hf9 (JA.norm (i := 32) hf32 (JA.norm (i := 34) hf34 (JA.norm (i := 36) hf36 ?_)))))))
            refine JA.many [6, 7] (by kernel_rfl) (by simp) (all_cons ⟨_, #[true, true, true, true, true, true, true, false, true, false, false, false], rfl, (by kernel_rfl), ?_⟩ (all_one ⟨_, #[true, true, true, true, true, true, false, true, true, false, false, false], rfl, (by kernel_rfl), ?_⟩))
            · skip
              refine JL.alloc ze_25 .none rfl ?_
              intro b312
              refine JA.after hE hs305 (.cons _ (.cons _ (.cons_cons _ (.cons_cons _ (List.nil_sublist _))))) ?_
              refine JA.perm (swapAt_perm 0 _) ?_
              exact nd189_2 _ _ _ _ ⟨b114, b312, y26_v1, y26_xs1, y26_v0, y26_xs0, y21_v1, y21_xs1, y21_v0, y21_xs0, y16_v1, y16_xs1, y16_v0, y16_xs0, rfl, rfl, rfl, rfl, rfl, rfl, rfl, rfl, rfl, rfl, hm306, hm307, hm308, hm309, hm310, hm311, hs305⟩
            · skip
              refine JL.alloc ze_25 .none rfl ?_
              intro b313
              refine JA.after hE hs305 (.cons _ (.cons _ (.cons_cons _ (.cons_cons _ (List.nil_sublist _))))) ?_
              refine JA.perm (swapAt_perm 0 _) ?_
              exact nd189_3 _ _ _ _ ⟨b114, b313, y26_v1, y26_xs1, y26_v0, y26_xs0, y21_v1, y21_xs1, y21_v0, y21_xs0, y16_v1, y16_xs1, y16_v0, y16_xs0, rfl, rfl, rfl, rfl, rfl, rfl, rfl, rfl, rfl, rfl, hm306, hm307, hm308, hm309, hm310, hm311, hs305⟩
          intro nd189_7
          refine JA.cut 5 #[true, true, true, true, true, false, true, true, false, false, false, false] (fun H314 f bs gs => ∃ (b119 : Nat) (b76 : Nat) (y21_v1 : Value) (y21_xs1 : List Value) (y21_v0 : Value) (y21_xs0 : List Value) (y16_v1 : Value) (y16_xs1 : List Value) (y16_v0 : Value) (y16_xs0 : List Value), f 2 = route_v0 ∧ f 3 = .pointer (some ⟨b1, 0, none⟩) ∧ f 4 = .pointer (some ⟨b2, 0, none⟩) ∧ f 7 = .pointer (some ⟨b76, 0, none⟩) ∧ f 8 = .pointer (some ⟨b119, 0, none⟩) ∧ f 32 = .agg [.int .i64 y16.Days, .int .i64 y16.Step, y16_v0, .int .i64 y16.Wrong, y16_v1, .int .i64 y16.Reach, .int .i64 y16.Stock].toArray ∧ f 34 = .agg [.int .i64 y21.Days, .int .i64 y21.Step, y21_v0, .int .i64 y21.Wrong, y21_v1, .int .i64 y21.Reach, .int .i64 y21.Stock].toArray ∧ f 35 = .agg [.int .i64 t.Days, .int .i64 t.Step, t_v2, .int .i64 t.Wrong, t_v4, .int .i64 t.Reach, .int .i64 t.Stock].toArray ∧ bs = [(b119, .cells [.int .i64 0, .int .i64 0, .slice none 0 0, .int .i64 0, .slice none 0 0, .int .i64 0, .int .i64 0].toArray 25), (b76, .cells [.int .i64 0, .int .i64 0, .slice none 0 0, .int .i64 0, .slice none 0 0, .int .i64 0, .int .i64 0].toArray 25), (b2, .cells [.int .i64 x_.Day, .int .i64 x_.Level.Low, .int .i64 x_.Level.High].toArray 37), (b1, .cells [.int .i64 t.Days, .int .i64 t.Step, t_v2, .int .i64 t.Wrong, t_v4, .int .i64 t.Reach, .int .i64 t.Stock].toArray 25)] ∧ gs = [⟨y21_v1, 41, 2, y21.Fairs.length, y21_xs1⟩, ⟨y21_v0, 37, 3, y21.Rains.length, y21_xs0⟩, ⟨y16_v1, 41, 2, y16.Fairs.length, y16_xs1⟩, ⟨y16_v0, 37, 3, y16.Rains.length, y16_xs0⟩] ∧ CH H314 2 R_Fair y21_xs1 y21.Fairs ∧ CH H314 3 R_Rain y21_xs0 y21.Rains ∧ CH H314 2 R_Fair y16_xs1 y16.Fairs ∧ CH H314 3 R_Rain y16_xs0 y16.Rains ∧ HSub H H314) ?_ ?_
          · rintro H314 f bs gs ⟨b119, b76, y21_v1, y21_xs1, y21_v0, y21_xs0, y16_v1, y16_xs1, y16_v0, y16_xs0, hf2, hf3, hf4, hf7, hf8, hf32, hf34, hf35, rfl, rfl, hm315, hm316, hm317, hm318, hs314⟩
            refine (JA.norm (i := 2) hf2 (JA.norm (i := 3) hf3 (JA.norm (i := 4) hf4 (JA.norm (i := 7) hf7 (JA.norm (i := 8) hf8 (JA.norm (i := 32) hf32 (JA.norm (i := 34) hf34 (JA.norm (i := 35) hf35 ?_))))))))
            refine JA.many [5, 8] (by kernel_rfl) (by simp) (all_cons ⟨_, #[true, true, true, true, true, true, true, true, false, false, false, false], rfl, (by kernel_rfl), ?_⟩ (all_one ⟨_, #[true, true, true, true, true, false, true, true, true, false, false, false], rfl, (by kernel_rfl), ?_⟩))
            · skip
              refine JL.callXC (x_ref11_Copy n H314 t t_v2 (SL.mono R_Rain_mono hs314 ht_2) t_v4 (SL.mono R_Fair_mono hs314 ht_4) y26 hy26) rfl en_14 .none rfl ?_
              rintro H319 vv320 _ hs319 ⟨y26_v0, y26_xs0, y26_v1, y26_xs1, rfl, rfl, hy26_0, hy26_1⟩
              refine JA.after hE (HSub.trans hs314 hs319) (.cons _ (.cons _ (.cons_cons _ (.cons_cons _ (List.nil_sublist _))))) ?_
              exact nd189_1 _ _ _ _ ⟨b119, b76, y26_v1, y26_xs1, y26_v0, y26_xs0, y21_v1, y21_xs1, y21_v0, y21_xs0, y16_v1, y16_xs1, y16_v0, y16_xs0, rfl, rfl, rfl, rfl, rfl, rfl, rfl, rfl, rfl, rfl, hy26_1, hy26_0, (CH.mono R_Fair_mono hs319 hm315), (CH.mono R_Rain_mono hs319 hm316), (CH.mono R_Fair_mono hs319 hm317), (CH.mono R_Rain_mono hs319 hm318), (HSub.trans hs314 hs319)⟩
            · skip
              refine JL.alloc ze_25 .none rfl ?_
              intro b323
              refine JA.after hE hs314 (.cons _ (.cons _ (.cons _ (.cons_cons _ (.cons_cons _ (List.nil_sublist _)))))) ?_
              exact nd189_4 _ _ _ _ ⟨b323, b119, b76, y21_v1, y21_xs1, y21_v0, y21_xs0, y16_v1, y16_xs1, y16_v0, y16_xs0, rfl, rfl, rfl, rfl, rfl, rfl, rfl, rfl, rfl, rfl, rfl, hm315, hm316, hm317, hm318, hs314⟩
          intro nd189_8
          refine JA.cut 5 #[true, true, true, true, true, false, true, false, true, false, false, false] (fun H324 f bs gs => ∃ (b120 : Nat) (b76 : Nat) (y21_v1 : Value) (y21_xs1 : List Value) (y21_v0 : Value) (y21_xs0 : List Value) (y16_v1 : Value) (y16_xs1 : List Value) (y16_v0 : Value) (y16_xs0 : List Value), f 2 = route_v0 ∧ f 3 = .pointer (some ⟨b1, 0, none⟩) ∧ f 4 = .pointer (some ⟨b2, 0, none⟩) ∧ f 7 = .pointer (some ⟨b76, 0, none⟩) ∧ f 9 = .pointer (some ⟨b120, 0, none⟩) ∧ f 32 = .agg [.int .i64 y16.Days, .int .i64 y16.Step, y16_v0, .int .i64 y16.Wrong, y16_v1, .int .i64 y16.Reach, .int .i64 y16.Stock].toArray ∧ f 34 = .agg [.int .i64 y21.Days, .int .i64 y21.Step, y21_v0, .int .i64 y21.Wrong, y21_v1, .int .i64 y21.Reach, .int .i64 y21.Stock].toArray ∧ f 35 = .agg [.int .i64 t.Days, .int .i64 t.Step, t_v2, .int .i64 t.Wrong, t_v4, .int .i64 t.Reach, .int .i64 t.Stock].toArray ∧ bs = [(b120, .cells [.int .i64 0, .int .i64 0, .slice none 0 0, .int .i64 0, .slice none 0 0, .int .i64 0, .int .i64 0].toArray 25), (b76, .cells [.int .i64 0, .int .i64 0, .slice none 0 0, .int .i64 0, .slice none 0 0, .int .i64 0, .int .i64 0].toArray 25), (b2, .cells [.int .i64 x_.Day, .int .i64 x_.Level.Low, .int .i64 x_.Level.High].toArray 37), (b1, .cells [.int .i64 t.Days, .int .i64 t.Step, t_v2, .int .i64 t.Wrong, t_v4, .int .i64 t.Reach, .int .i64 t.Stock].toArray 25)] ∧ gs = [⟨y21_v1, 41, 2, y21.Fairs.length, y21_xs1⟩, ⟨y21_v0, 37, 3, y21.Rains.length, y21_xs0⟩, ⟨y16_v1, 41, 2, y16.Fairs.length, y16_xs1⟩, ⟨y16_v0, 37, 3, y16.Rains.length, y16_xs0⟩] ∧ CH H324 2 R_Fair y21_xs1 y21.Fairs ∧ CH H324 3 R_Rain y21_xs0 y21.Rains ∧ CH H324 2 R_Fair y16_xs1 y16.Fairs ∧ CH H324 3 R_Rain y16_xs0 y16.Rains ∧ HSub H H324) ?_ ?_
          · rintro H324 f bs gs ⟨b120, b76, y21_v1, y21_xs1, y21_v0, y21_xs0, y16_v1, y16_xs1, y16_v0, y16_xs0, hf2, hf3, hf4, hf7, hf9, hf32, hf34, hf35, rfl, rfl, hm325, hm326, hm327, hm328, hs324⟩
            refine (JA.norm (i := 2) hf2 (JA.norm (i := 3) hf3 (JA.norm (i := 4) hf4 (JA.norm (i := 7) hf7 (JA.norm (i := 9) hf9 (JA.norm (i := 32) hf32 (JA.norm (i := 34) hf34 (JA.norm (i := 35) hf35 ?_))))))))
            refine JA.many [5, 7] (by kernel_rfl) (by simp) (all_cons ⟨_, #[true, true, true, true, true, true, true, false, true, false, false, false], rfl, (by kernel_rfl), ?_⟩ (all_one ⟨_, #[true, true, true, true, true, false, true, true, true, false, false, false], rfl, (by kernel_rfl), ?_⟩))
            · skip
              refine JL.callXC (x_ref11_Copy n H324 t t_v2 (SL.mono R_Rain_mono hs324 ht_2) t_v4 (SL.mono R_Fair_mono hs324 ht_4) y26 hy26) rfl en_14 .none rfl ?_
              rintro H329 vv330 _ hs329 ⟨y26_v0, y26_xs0, y26_v1, y26_xs1, rfl, rfl, hy26_0, hy26_1⟩
              refine JA.after hE (HSub.trans hs324 hs329) (.cons _ (.cons _ (.cons_cons _ (.cons_cons _ (List.nil_sublist _))))) ?_
              exact nd189_2 _ _ _ _ ⟨b120, b76, y26_v1, y26_xs1, y26_v0, y26_xs0, y21_v1, y21_xs1, y21_v0, y21_xs0, y16_v1, y16_xs1, y16_v0, y16_xs0, rfl, rfl, rfl, rfl, rfl, rfl, rfl, rfl, rfl, rfl, hy26_1, hy26_0, (CH.mono R_Fair_mono hs329 hm325), (CH.mono R_Rain_mono hs329 hm326), (CH.mono R_Fair_mono hs329 hm327), (CH.mono R_Rain_mono hs329 hm328), (HSub.trans hs324 hs329)⟩
            · skip
              refine JL.alloc ze_25 .none rfl ?_
              intro b333
              refine JA.after hE hs324 (.cons _ (.cons _ (.cons _ (.cons_cons _ (.cons_cons _ (List.nil_sublist _)))))) ?_
              refine JA.perm (swapAt_perm 0 _) ?_
              exact nd189_4 _ _ _ _ ⟨b120, b333, b76, y21_v1, y21_xs1, y21_v0, y21_xs0, y16_v1, y16_xs1, y16_v0, y16_xs0, rfl, rfl, rfl, rfl, rfl, rfl, rfl, rfl, rfl, rfl, rfl, hm325, hm326, hm327, hm328, hs324⟩
          intro nd189_9
          refine JA.cut 5 #[true, true, true, true, true, false, false, true, true, false, false, false] (fun H334 f bs gs => ∃ (b126 : Nat) (b77 : Nat) (y21_v1 : Value) (y21_xs1 : List Value) (y21_v0 : Value) (y21_xs0 : List Value) (y16_v1 : Value) (y16_xs1 : List Value) (y16_v0 : Value) (y16_xs0 : List Value), f 2 = route_v0 ∧ f 3 = .pointer (some ⟨b1, 0, none⟩) ∧ f 4 = .pointer (some ⟨b2, 0, none⟩) ∧ f 8 = .pointer (some ⟨b77, 0, none⟩) ∧ f 9 = .pointer (some ⟨b126, 0, none⟩) ∧ f 32 = .agg [.int .i64 y16.Days, .int .i64 y16.Step, y16_v0, .int .i64 y16.Wrong, y16_v1, .int .i64 y16.Reach, .int .i64 y16.Stock].toArray ∧ f 34 = .agg [.int .i64 y21.Days, .int .i64 y21.Step, y21_v0, .int .i64 y21.Wrong, y21_v1, .int .i64 y21.Reach, .int .i64 y21.Stock].toArray ∧ f 35 = .agg [.int .i64 t.Days, .int .i64 t.Step, t_v2, .int .i64 t.Wrong, t_v4, .int .i64 t.Reach, .int .i64 t.Stock].toArray ∧ bs = [(b126, .cells [.int .i64 0, .int .i64 0, .slice none 0 0, .int .i64 0, .slice none 0 0, .int .i64 0, .int .i64 0].toArray 25), (b77, .cells [.int .i64 0, .int .i64 0, .slice none 0 0, .int .i64 0, .slice none 0 0, .int .i64 0, .int .i64 0].toArray 25), (b2, .cells [.int .i64 x_.Day, .int .i64 x_.Level.Low, .int .i64 x_.Level.High].toArray 37), (b1, .cells [.int .i64 t.Days, .int .i64 t.Step, t_v2, .int .i64 t.Wrong, t_v4, .int .i64 t.Reach, .int .i64 t.Stock].toArray 25)] ∧ gs = [⟨y21_v1, 41, 2, y21.Fairs.length, y21_xs1⟩, ⟨y21_v0, 37, 3, y21.Rains.length, y21_xs0⟩, ⟨y16_v1, 41, 2, y16.Fairs.length, y16_xs1⟩, ⟨y16_v0, 37, 3, y16.Rains.length, y16_xs0⟩] ∧ CH H334 2 R_Fair y21_xs1 y21.Fairs ∧ CH H334 3 R_Rain y21_xs0 y21.Rains ∧ CH H334 2 R_Fair y16_xs1 y16.Fairs ∧ CH H334 3 R_Rain y16_xs0 y16.Rains ∧ HSub H H334) ?_ ?_
          · rintro H334 f bs gs ⟨b126, b77, y21_v1, y21_xs1, y21_v0, y21_xs0, y16_v1, y16_xs1, y16_v0, y16_xs0, hf2, hf3, hf4, hf8, hf9, hf32, hf34, hf35, rfl, rfl, hm335, hm336, hm337, hm338, hs334⟩
            refine (JA.norm (i := 2) hf2 (JA.norm (i := 3) hf3 (JA.norm (i := 4) hf4 (JA.norm (i := 8) hf8 (JA.norm (i := 9) hf9 (JA.norm (i := 32) hf32 (JA.norm (i := 34) hf34 (JA.norm (i := 35) hf35 ?_))))))))
            refine JA.many [5, 6] (by kernel_rfl) (by simp) (all_cons ⟨_, #[true, true, true, true, true, true, false, true, true, false, false, false], rfl, (by kernel_rfl), ?_⟩ (all_one ⟨_, #[true, true, true, true, true, false, true, true, true, false, false, false], rfl, (by kernel_rfl), ?_⟩))
            · skip
              refine JL.callXC (x_ref11_Copy n H334 t t_v2 (SL.mono R_Rain_mono hs334 ht_2) t_v4 (SL.mono R_Fair_mono hs334 ht_4) y26 hy26) rfl en_14 .none rfl ?_
              rintro H339 vv340 _ hs339 ⟨y26_v0, y26_xs0, y26_v1, y26_xs1, rfl, rfl, hy26_0, hy26_1⟩
              refine JA.after hE (HSub.trans hs334 hs339) (.cons _ (.cons _ (.cons_cons _ (.cons_cons _ (List.nil_sublist _))))) ?_
              exact nd189_3 _ _ _ _ ⟨b126, b77, y26_v1, y26_xs1, y26_v0, y26_xs0, y21_v1, y21_xs1, y21_v0, y21_xs0, y16_v1, y16_xs1, y16_v0, y16_xs0, rfl, rfl, rfl, rfl, rfl, rfl, rfl, rfl, rfl, rfl, hy26_1, hy26_0, (CH.mono R_Fair_mono hs339 hm335), (CH.mono R_Rain_mono hs339 hm336), (CH.mono R_Fair_mono hs339 hm337), (CH.mono R_Rain_mono hs339 hm338), (HSub.trans hs334 hs339)⟩
            · skip
              refine JL.alloc ze_25 .none rfl ?_
              intro b343
              refine JA.after hE hs334 (.cons _ (.cons _ (.cons _ (.cons_cons _ (.cons_cons _ (List.nil_sublist _)))))) ?_
              refine JA.perm (swapAt_perm 0 _) ?_
              refine JA.perm (swapAt_perm 1 _) ?_
              exact nd189_4 _ _ _ _ ⟨b126, b77, b343, y21_v1, y21_xs1, y21_v0, y21_xs0, y16_v1, y16_xs1, y16_v0, y16_xs0, rfl, rfl, rfl, rfl, rfl, rfl, rfl, rfl, rfl, rfl, rfl, hm335, hm336, hm337, hm338, hs334⟩
          intro nd189_10
          refine JA.cut 5 #[true, true, true, false, true, false, true, true, true, false, false, false] (fun H344 f bs gs => ∃ (b137 : Nat) (b83 : Nat) (b51 : Nat) (y16_v1 : Value) (y16_xs1 : List Value) (y16_v0 : Value) (y16_xs0 : List Value), f 2 = route_v0 ∧ f 3 = .pointer (some ⟨b1, 0, none⟩) ∧ f 4 = .pointer (some ⟨b2, 0, none⟩) ∧ f 7 = .pointer (some ⟨b51, 0, none⟩) ∧ f 8 = .pointer (some ⟨b83, 0, none⟩) ∧ f 9 = .pointer (some ⟨b137, 0, none⟩) ∧ f 32 = .agg [.int .i64 y16.Days, .int .i64 y16.Step, y16_v0, .int .i64 y16.Wrong, y16_v1, .int .i64 y16.Reach, .int .i64 y16.Stock].toArray ∧ f 33 = .agg [.int .i64 t.Days, .int .i64 t.Step, t_v2, .int .i64 t.Wrong, t_v4, .int .i64 t.Reach, .int .i64 t.Stock].toArray ∧ f 35 = .agg [.int .i64 t.Days, .int .i64 t.Step, t_v2, .int .i64 t.Wrong, t_v4, .int .i64 t.Reach, .int .i64 t.Stock].toArray ∧ bs = [(b137, .cells [.int .i64 0, .int .i64 0, .slice none 0 0, .int .i64 0, .slice none 0 0, .int .i64 0, .int .i64 0].toArray 25), (b83, .cells [.int .i64 0, .int .i64 0, .slice none 0 0, .int .i64 0, .slice none 0 0, .int .i64 0, .int .i64 0].toArray 25), (b51, .cells [.int .i64 0, .int .i64 0, .slice none 0 0, .int .i64 0, .slice none 0 0, .int .i64 0, .int .i64 0].toArray 25), (b2, .cells [.int .i64 x_.Day, .int .i64 x_.Level.Low, .int .i64 x_.Level.High].toArray 37), (b1, .cells [.int .i64 t.Days, .int .i64 t.Step, t_v2, .int .i64 t.Wrong, t_v4, .int .i64 t.Reach, .int .i64 t.Stock].toArray 25)] ∧ gs = [⟨y16_v1, 41, 2, y16.Fairs.length, y16_xs1⟩, ⟨y16_v0, 37, 3, y16.Rains.length, y16_xs0⟩] ∧ CH H344 2 R_Fair y16_xs1 y16.Fairs ∧ CH H344 3 R_Rain y16_xs0 y16.Rains ∧ HSub H H344) ?_ ?_
          · rintro H344 f bs gs ⟨b137, b83, b51, y16_v1, y16_xs1, y16_v0, y16_xs0, hf2, hf3, hf4, hf7, hf8, hf9, hf32, hf33, hf35, rfl, rfl, hm345, hm346, hs344⟩
            refine (JA.norm (i := 2) hf2 (JA.norm (i := 3) hf3 (JA.norm (i := 4) hf4 (JA.norm (i := 7) hf7 (JA.norm (i := 8) hf8 (JA.norm (i := 9) hf9 (JA.norm (i := 32) hf32 (JA.norm (i := 33) hf33 (JA.norm (i := 35) hf35 ?_)))))))))
            refine JA.many [3] (by kernel_rfl) (by simp) (all_one ⟨_, #[true, true, true, true, true, false, true, true, true, false, false, false], rfl, (by kernel_rfl), ?_⟩)
            refine JL.callXC (x_ref11_Copy n H344 t t_v2 (SL.mono R_Rain_mono hs344 ht_2) t_v4 (SL.mono R_Fair_mono hs344 ht_4) y21 hy21) rfl en_14 .none rfl ?_
            rintro H347 vv348 _ hs347 ⟨y21_v0, y21_xs0, y21_v1, y21_xs1, rfl, rfl, hy21_0, hy21_1⟩
            refine JA.after hE (HSub.trans hs344 hs347) (.cons _ (.cons _ (.cons _ (.cons_cons _ (.cons_cons _ (List.nil_sublist _)))))) ?_
            exact nd189_4 _ _ _ _ ⟨b137, b83, b51, y21_v1, y21_xs1, y21_v0, y21_xs0, y16_v1, y16_xs1, y16_v0, y16_xs0, rfl, rfl, rfl, rfl, rfl, rfl, rfl, rfl, rfl, rfl, rfl, hy21_1, hy21_0, (CH.mono R_Fair_mono hs347 hm345), (CH.mono R_Rain_mono hs347 hm346), (HSub.trans hs344 hs347)⟩
          intro nd189_11
          refine JA.cut 6 #[true, true, true, true, true, false, true, false, false, false, false, false] (fun H351 f bs gs => ∃ (b76 : Nat) (y21_v1 : Value) (y21_xs1 : List Value) (y21_v0 : Value) (y21_xs0 : List Value) (y16_v1 : Value) (y16_xs1 : List Value) (y16_v0 : Value) (y16_xs0 : List Value), f 2 = route_v0 ∧ f 3 = .pointer (some ⟨b1, 0, none⟩) ∧ f 4 = .pointer (some ⟨b2, 0, none⟩) ∧ f 7 = .pointer (some ⟨b76, 0, none⟩) ∧ f 32 = .agg [.int .i64 y16.Days, .int .i64 y16.Step, y16_v0, .int .i64 y16.Wrong, y16_v1, .int .i64 y16.Reach, .int .i64 y16.Stock].toArray ∧ f 34 = .agg [.int .i64 y21.Days, .int .i64 y21.Step, y21_v0, .int .i64 y21.Wrong, y21_v1, .int .i64 y21.Reach, .int .i64 y21.Stock].toArray ∧ f 35 = .agg [.int .i64 t.Days, .int .i64 t.Step, t_v2, .int .i64 t.Wrong, t_v4, .int .i64 t.Reach, .int .i64 t.Stock].toArray ∧ bs = [(b76, .cells [.int .i64 0, .int .i64 0, .slice none 0 0, .int .i64 0, .slice none 0 0, .int .i64 0, .int .i64 0].toArray 25), (b2, .cells [.int .i64 x_.Day, .int .i64 x_.Level.Low, .int .i64 x_.Level.High].toArray 37), (b1, .cells [.int .i64 t.Days, .int .i64 t.Step, t_v2, .int .i64 t.Wrong, t_v4, .int .i64 t.Reach, .int .i64 t.Stock].toArray 25)] ∧ gs = [⟨y21_v1, 41, 2, y21.Fairs.length, y21_xs1⟩, ⟨y21_v0, 37, 3, y21.Rains.length, y21_xs0⟩, ⟨y16_v1, 41, 2, y16.Fairs.length, y16_xs1⟩, ⟨y16_v0, 37, 3, y16.Rains.length, y16_xs0⟩] ∧ CH H351 2 R_Fair y21_xs1 y21.Fairs ∧ CH H351 3 R_Rain y21_xs0 y21.Rains ∧ CH H351 2 R_Fair y16_xs1 y16.Fairs ∧ CH H351 3 R_Rain y16_xs0 y16.Rains ∧ HSub H H351) ?_ ?_
          · rintro H351 f bs gs ⟨b76, y21_v1, y21_xs1, y21_v0, y21_xs0, y16_v1, y16_xs1, y16_v0, y16_xs0, hf2, hf3, hf4, hf7, hf32, hf34, hf35, rfl, rfl, hm352, hm353, hm354, hm355, hs351⟩
            refine (JA.norm (i := 2) hf2 (JA.norm (i := 3) hf3 (JA.norm (i := 4) hf4 (JA.norm (i := 7) hf7 (JA.norm (i := 32) hf32 (JA.norm (i := 34) hf34 (JA.norm (i := 35) hf35 ?_)))))))
            refine JA.many [5, 7, 8] (by kernel_rfl) (by simp) (all_cons ⟨_, #[true, true, true, true, true, true, true, false, false, false, false, false], rfl, (by kernel_rfl), ?_⟩ (all_cons ⟨_, #[true, true, true, true, true, false, true, true, false, false, false, false], rfl, (by kernel_rfl), ?_⟩ (all_one ⟨_, #[true, true, true, true, true, false, true, false, true, false, false, false], rfl, (by kernel_rfl), ?_⟩)))
            · skip
              refine JL.callXC (x_ref11_Copy n H351 t t_v2 (SL.mono R_Rain_mono hs351 ht_2) t_v4 (SL.mono R_Fair_mono hs351 ht_4) y26 hy26) rfl en_14 .none rfl ?_
              rintro H356 vv357 _ hs356 ⟨y26_v0, y26_xs0, y26_v1, y26_xs1, rfl, rfl, hy26_0, hy26_1⟩
              refine JA.after hE (HSub.trans hs351 hs356) (.cons _ (.cons_cons _ (.cons_cons _ (List.nil_sublist _)))) ?_
              exact nd189_5 _ _ _ _ ⟨b76, y26_v1, y26_xs1, y26_v0, y26_xs0, y21_v1, y21_xs1, y21_v0, y21_xs0, y16_v1, y16_xs1, y16_v0, y16_xs0, rfl, rfl, rfl, rfl, rfl, rfl, rfl, rfl, rfl, hy26_1, hy26_0, (CH.mono R_Fair_mono hs356 hm352), (CH.mono R_Rain_mono hs356 hm353), (CH.mono R_Fair_mono hs356 hm354), (CH.mono R_Rain_mono hs356 hm355), (HSub.trans hs351 hs356)⟩
            · skip
              refine JL.alloc ze_25 .none rfl ?_
              intro b360
              refine JA.after hE hs351 (.cons _ (.cons _ (.cons_cons _ (.cons_cons _ (List.nil_sublist _))))) ?_
              exact nd189_8 _ _ _ _ ⟨b360, b76, y21_v1, y21_xs1, y21_v0, y21_xs0, y16_v1, y16_xs1, y16_v0, y16_xs0, rfl, rfl, rfl, rfl, rfl, rfl, rfl, rfl, rfl, rfl, hm352, hm353, hm354, hm355, hs351⟩
            · skip
              refine JL.alloc ze_25 .none rfl ?_
              intro b361
              refine JA.after hE hs351 (.cons _ (.cons _ (.cons_cons _ (.cons_cons _ (List.nil_sublist _))))) ?_
              exact nd189_9 _ _ _ _ ⟨b361, b76, y21_v1, y21_xs1, y21_v0, y21_xs0, y16_v1, y16_xs1, y16_v0, y16_xs0, rfl, rfl, rfl, rfl, rfl, rfl, rfl, rfl, rfl, rfl, hm352, hm353, hm354, hm355, hs351⟩
          intro nd189_12
          refine JA.cut 6 #[true, true, true, true, true, false, false, true, false, false, false, false] (fun H362 f bs gs => ∃ (b77 : Nat) (y21_v1 : Value) (y21_xs1 : List Value) (y21_v0 : Value) (y21_xs0 : List Value) (y16_v1 : Value) (y16_xs1 : List Value) (y16_v0 : Value) (y16_xs0 : List Value), f 2 = route_v0 ∧ f 3 = .pointer (some ⟨b1, 0, none⟩) ∧ f 4 = .pointer (some ⟨b2, 0, none⟩) ∧ f 8 = .pointer (some ⟨b77, 0, none⟩) ∧ f 32 = .agg [.int .i64 y16.Days, .int .i64 y16.Step, y16_v0, .int .i64 y16.Wrong, y16_v1, .int .i64 y16.Reach, .int .i64 y16.Stock].toArray ∧ f 34 = .agg [.int .i64 y21.Days, .int .i64 y21.Step, y21_v0, .int .i64 y21.Wrong, y21_v1, .int .i64 y21.Reach, .int .i64 y21.Stock].toArray ∧ f 35 = .agg [.int .i64 t.Days, .int .i64 t.Step, t_v2, .int .i64 t.Wrong, t_v4, .int .i64 t.Reach, .int .i64 t.Stock].toArray ∧ bs = [(b77, .cells [.int .i64 0, .int .i64 0, .slice none 0 0, .int .i64 0, .slice none 0 0, .int .i64 0, .int .i64 0].toArray 25), (b2, .cells [.int .i64 x_.Day, .int .i64 x_.Level.Low, .int .i64 x_.Level.High].toArray 37), (b1, .cells [.int .i64 t.Days, .int .i64 t.Step, t_v2, .int .i64 t.Wrong, t_v4, .int .i64 t.Reach, .int .i64 t.Stock].toArray 25)] ∧ gs = [⟨y21_v1, 41, 2, y21.Fairs.length, y21_xs1⟩, ⟨y21_v0, 37, 3, y21.Rains.length, y21_xs0⟩, ⟨y16_v1, 41, 2, y16.Fairs.length, y16_xs1⟩, ⟨y16_v0, 37, 3, y16.Rains.length, y16_xs0⟩] ∧ CH H362 2 R_Fair y21_xs1 y21.Fairs ∧ CH H362 3 R_Rain y21_xs0 y21.Rains ∧ CH H362 2 R_Fair y16_xs1 y16.Fairs ∧ CH H362 3 R_Rain y16_xs0 y16.Rains ∧ HSub H H362) ?_ ?_
          · rintro H362 f bs gs ⟨b77, y21_v1, y21_xs1, y21_v0, y21_xs0, y16_v1, y16_xs1, y16_v0, y16_xs0, hf2, hf3, hf4, hf8, hf32, hf34, hf35, rfl, rfl, hm363, hm364, hm365, hm366, hs362⟩
            refine (JA.norm (i := 2) hf2 (JA.norm (i := 3) hf3 (JA.norm (i := 4) hf4 (JA.norm (i := 8) hf8 (JA.norm (i := 32) hf32 (JA.norm (i := 34) hf34 (JA.norm (i := 35) hf35 ?_)))))))
            refine JA.many [5, 6, 8] (by kernel_rfl) (by simp) (all_cons ⟨_, #[true, true, true, true, true, true, false, true, false, false, false, false], rfl, (by kernel_rfl), ?_⟩ (all_cons ⟨_, #[true, true, true, true, true, false, true, true, false, false, false, false], rfl, (by kernel_rfl), ?_⟩ (all_one ⟨_, #[true, true, true, true, true, false, false, true, true, false, false, false], rfl, (by kernel_rfl), ?_⟩)))
            · skip
              refine JL.callXC (x_ref11_Copy n H362 t t_v2 (SL.mono R_Rain_mono hs362 ht_2) t_v4 (SL.mono R_Fair_mono hs362 ht_4) y26 hy26) rfl en_14 .none rfl ?_
              rintro H367 vv368 _ hs367 ⟨y26_v0, y26_xs0, y26_v1, y26_xs1, rfl, rfl, hy26_0, hy26_1⟩
              refine JA.after hE (HSub.trans hs362 hs367) (.cons _ (.cons_cons _ (.cons_cons _ (List.nil_sublist _)))) ?_
              exact nd189_6 _ _ _ _ ⟨b77, y26_v1, y26_xs1, y26_v0, y26_xs0, y21_v1, y21_xs1, y21_v0, y21_xs0, y16_v1, y16_xs1, y16_v0, y16_xs0, rfl, rfl, rfl, rfl, rfl, rfl, rfl, rfl, rfl, hy26_1, hy26_0, (CH.mono R_Fair_mono hs367 hm363), (CH.mono R_Rain_mono hs367 hm364), (CH.mono R_Fair_mono hs367 hm365), (CH.mono R_Rain_mono hs367 hm366), (HSub.trans hs362 hs367)⟩
            · skip
              refine JL.alloc ze_25 .none rfl ?_
              intro b371
              refine JA.after hE hs362 (.cons _ (.cons _ (.cons_cons _ (.cons_cons _ (List.nil_sublist _))))) ?_
              refine JA.perm (swapAt_perm 0 _) ?_
              exact nd189_8 _ _ _ _ ⟨b77, b371, y21_v1, y21_xs1, y21_v0, y21_xs0, y16_v1, y16_xs1, y16_v0, y16_xs0, rfl, rfl, rfl, rfl, rfl, rfl, rfl, rfl, rfl, rfl, hm363, hm364, hm365, hm366, hs362⟩
            · skip
              refine JL.alloc ze_25 .none rfl ?_
              intro b372
              refine JA.after hE hs362 (.cons _ (.cons _ (.cons_cons _ (.cons_cons _ (List.nil_sublist _))))) ?_
              exact nd189_10 _ _ _ _ ⟨b372, b77, y21_v1, y21_xs1, y21_v0, y21_xs0, y16_v1, y16_xs1, y16_v0, y16_xs0, rfl, rfl, rfl, rfl, rfl, rfl, rfl, rfl, rfl, rfl, hm363, hm364, hm365, hm366, hs362⟩
          intro nd189_13
          refine JA.cut 6 #[true, true, true, true, true, false, false, false, true, false, false, false] (fun H373 f bs gs => ∃ (b78 : Nat) (y21_v1 : Value) (y21_xs1 : List Value) (y21_v0 : Value) (y21_xs0 : List Value) (y16_v1 : Value) (y16_xs1 : List Value) (y16_v0 : Value) (y16_xs0 : List Value), f 2 = route_v0 ∧ f 3 = .pointer (some ⟨b1, 0, none⟩) ∧ f 4 = .pointer (some ⟨b2, 0, none⟩) ∧ f 9 = .pointer (some ⟨b78, 0, none⟩) ∧ f 32 = .agg [.int .i64 y16.Days, .int .i64 y16.Step, y16_v0, .int .i64 y16.Wrong, y16_v1, .int .i64 y16.Reach, .int .i64 y16.Stock].toArray ∧ f 34 = .agg [.int .i64 y21.Days, .int .i64 y21.Step, y21_v0, .int .i64 y21.Wrong, y21_v1, .int .i64 y21.Reach, .int .i64 y21.Stock].toArray ∧ f 35 = .agg [.int .i64 t.Days, .int .i64 t.Step, t_v2, .int .i64 t.Wrong, t_v4, .int .i64 t.Reach, .int .i64 t.Stock].toArray ∧ bs = [(b78, .cells [.int .i64 0, .int .i64 0, .slice none 0 0, .int .i64 0, .slice none 0 0, .int .i64 0, .int .i64 0].toArray 25), (b2, .cells [.int .i64 x_.Day, .int .i64 x_.Level.Low, .int .i64 x_.Level.High].toArray 37), (b1, .cells [.int .i64 t.Days, .int .i64 t.Step, t_v2, .int .i64 t.Wrong, t_v4, .int .i64 t.Reach, .int .i64 t.Stock].toArray 25)] ∧ gs = [⟨y21_v1, 41, 2, y21.Fairs.length, y21_xs1⟩, ⟨y21_v0, 37, 3, y21.Rains.length, y21_xs0⟩, ⟨y16_v1, 41, 2, y16.Fairs.length, y16_xs1⟩, ⟨y16_v0, 37, 3, y16.Rains.length, y16_xs0⟩] ∧ CH H373 2 R_Fair y21_xs1 y21.Fairs ∧ CH H373 3 R_Rain y21_xs0 y21.Rains ∧ CH H373 2 R_Fair y16_xs1 y16.Fairs ∧ CH H373 3 R_Rain y16_xs0 y16.Rains ∧ HSub H H373) ?_ ?_
          · rintro H373 f bs gs ⟨b78, y21_v1, y21_xs1, y21_v0, y21_xs0, y16_v1, y16_xs1, y16_v0, y16_xs0, hf2, hf3, hf4, hf9, hf32, hf34, hf35, rfl, rfl, hm374, hm375, hm376, hm377, hs373⟩
            refine (JA.norm (i := 2) hf2 (JA.norm (i := 3) hf3 (JA.norm (i := 4) hf4 (JA.norm (i := 9) hf9 (JA.norm (i := 32) hf32 (JA.norm (i := 34) hf34 (JA.norm (i := 35) hf35 ?_)))))))
            refine JA.many [5, 6, 7] (by kernel_rfl) (by simp) (all_cons ⟨_, #[true, true, true, true, true, true, false, false, true, false, false, false], rfl, (by kernel_rfl), ?_⟩ (all_cons ⟨_, #[true, true, true, true, true, false, true, false, true, false, false, false], rfl, (by kernel_rfl), ?_⟩ (all_one ⟨_, #[true, true, true, true, true, false, false, true, true, false, false, false], rfl, (by kernel_rfl), ?_⟩)))
            · skip
              refine JL.callXC (x_ref11_Copy n H373 t t_v2 (SL.mono R_Rain_mono hs373 ht_2) t_v4 (SL.mono R_Fair_mono hs373 ht_4) y26 hy26) rfl en_14 .none rfl ?_
              rintro H378 vv379 _ hs378 ⟨y26_v0, y26_xs0, y26_v1, y26_xs1, rfl, rfl, hy26_0, hy26_1⟩
              refine JA.after hE (HSub.trans hs373 hs378) (.cons _ (.cons_cons _ (.cons_cons _ (List.nil_sublist _)))) ?_
              exact nd189_7 _ _ _ _ ⟨b78, y26_v1, y26_xs1, y26_v0, y26_xs0, y21_v1, y21_xs1, y21_v0, y21_xs0, y16_v1, y16_xs1, y16_v0, y16_xs0, rfl, rfl, rfl, rfl, rfl, rfl, rfl, rfl, rfl, hy26_1, hy26_0, (CH.mono R_Fair_mono hs378 hm374), (CH.mono R_Rain_mono hs378 hm375), (CH.mono R_Fair_mono hs378 hm376), (CH.mono R_Rain_mono hs378 hm377), (HSub.trans hs373 hs378)⟩
            · skip
              refine JL.alloc ze_25 .none rfl ?_
              intro b382
              refine JA.after hE hs373 (.cons _ (.cons _ (.cons_cons _ (.cons_cons _ (List.nil_sublist _))))) ?_
              refine JA.perm (swapAt_perm 0 _) ?_
              exact nd189_9 _ _ _ _ ⟨b78, b382, y21_v1, y21_xs1, y21_v0, y21_xs0, y16_v1, y16_xs1, y16_v0, y16_xs0, rfl, rfl, rfl, rfl, rfl, rfl, rfl, rfl, rfl, rfl, hm374, hm375, hm376, hm377, hs373⟩
            · skip
              refine JL.alloc ze_25 .none rfl ?_
              intro b383
              refine JA.after hE hs373 (.cons _ (.cons _ (.cons_cons _ (.cons_cons _ (List.nil_sublist _))))) ?_
              refine JA.perm (swapAt_perm 0 _) ?_
              exact nd189_10 _ _ _ _ ⟨b78, b383, y21_v1, y21_xs1, y21_v0, y21_xs0, y16_v1, y16_xs1, y16_v0, y16_xs0, rfl, rfl, rfl, rfl, rfl, rfl, rfl, rfl, rfl, rfl, hm374, hm375, hm376, hm377, hs373⟩
          intro nd189_14
          refine JA.cut 6 #[true, true, true, false, true, false, true, true, false, false, false, false] (fun H384 f bs gs => ∃ (b83 : Nat) (b51 : Nat) (y16_v1 : Value) (y16_xs1 : List Value) (y16_v0 : Value) (y16_xs0 : List Value), f 2 = route_v0 ∧ f 3 = .pointer (some ⟨b1, 0, none⟩) ∧ f 4 = .pointer (some ⟨b2, 0, none⟩) ∧ f 7 = .pointer (some ⟨b51, 0, none⟩) ∧ f 8 = .pointer (some ⟨b83, 0, none⟩) ∧ f 32 = .agg [.int .i64 y16.Days, .int .i64 y16.Step, y16_v0, .int .i64 y16.Wrong, y16_v1, .int .i64 y16.Reach, .int .i64 y16.Stock].toArray ∧ f 33 = .agg [.int .i64 t.Days, .int .i64 t.Step, t_v2, .int .i64 t.Wrong, t_v4, .int .i64 t.Reach, .int .i64 t.Stock].toArray ∧ f 35 = .agg [.int .i64 t.Days, .int .i64 t.Step, t_v2, .int .i64 t.Wrong, t_v4, .int .i64 t.Reach, .int .i64 t.Stock].toArray ∧ bs = [(b83, .cells [.int .i64 0, .int .i64 0, .slice none 0 0, .int .i64 0, .slice none 0 0, .int .i64 0, .int .i64 0].toArray 25), (b51, .cells [.int .i64 0, .int .i64 0, .slice none 0 0, .int .i64 0, .slice none 0 0, .int .i64 0, .int .i64 0].toArray 25), (b2, .cells [.int .i64 x_.Day, .int .i64 x_.Level.Low, .int .i64 x_.Level.High].toArray 37), (b1, .cells [.int .i64 t.Days, .int .i64 t.Step, t_v2, .int .i64 t.Wrong, t_v4, .int .i64 t.Reach, .int .i64 t.Stock].toArray 25)] ∧ gs = [⟨y16_v1, 41, 2, y16.Fairs.length, y16_xs1⟩, ⟨y16_v0, 37, 3, y16.Rains.length, y16_xs0⟩] ∧ CH H384 2 R_Fair y16_xs1 y16.Fairs ∧ CH H384 3 R_Rain y16_xs0 y16.Rains ∧ HSub H H384) ?_ ?_
          · rintro H384 f bs gs ⟨b83, b51, y16_v1, y16_xs1, y16_v0, y16_xs0, hf2, hf3, hf4, hf7, hf8, hf32, hf33, hf35, rfl, rfl, hm385, hm386, hs384⟩
            refine (JA.norm (i := 2) hf2 (JA.norm (i := 3) hf3 (JA.norm (i := 4) hf4 (JA.norm (i := 7) hf7 (JA.norm (i := 8) hf8 (JA.norm (i := 32) hf32 (JA.norm (i := 33) hf33 (JA.norm (i := 35) hf35 ?_))))))))
            refine JA.many [3, 8] (by kernel_rfl) (by simp) (all_cons ⟨_, #[true, true, true, true, true, false, true, true, false, false, false, false], rfl, (by kernel_rfl), ?_⟩ (all_one ⟨_, #[true, true, true, false, true, false, true, true, true, false, false, false], rfl, (by kernel_rfl), ?_⟩))
            · skip
              refine JL.callXC (x_ref11_Copy n H384 t t_v2 (SL.mono R_Rain_mono hs384 ht_2) t_v4 (SL.mono R_Fair_mono hs384 ht_4) y21 hy21) rfl en_14 .none rfl ?_
              rintro H387 vv388 _ hs387 ⟨y21_v0, y21_xs0, y21_v1, y21_xs1, rfl, rfl, hy21_0, hy21_1⟩
              refine JA.after hE (HSub.trans hs384 hs387) (.cons _ (.cons _ (.cons_cons _ (.cons_cons _ (List.nil_sublist _))))) ?_
              exact nd189_8 _ _ _ _ ⟨b83, b51, y21_v1, y21_xs1, y21_v0, y21_xs0, y16_v1, y16_xs1, y16_v0, y16_xs0, rfl, rfl, rfl, rfl, rfl, rfl, rfl, rfl, rfl, rfl, hy21_1, hy21_0, (CH.mono R_Fair_mono hs387 hm385), (CH.mono R_Rain_mono hs387 hm386), (HSub.trans hs384 hs387)⟩
            · skip
              refine JL.alloc ze_25 .none rfl ?_
              intro b391
              refine JA.after hE hs384 (.cons _ (.cons _ (.cons _ (.cons_cons _ (.cons_cons _ (List.nil_sublist _)))))) ?_
              exact nd189_11 _ _ _ _ ⟨b391, b83, b51, y16_v1, y16_xs1, y16_v0, y16_xs0, rfl, rfl, rfl, rfl, rfl, rfl, rfl, rfl, rfl, rfl, rfl, hm385, hm386, hs384⟩
          intro nd189_15
          refine JA.cut 6 #[true, true, true, false, true, false, true, false, true, false, false, false] (fun H392 f bs gs => ∃ (b84 : Nat) (b51 : Nat) (y16_v1 : Value) (y16_xs1 : List Value) (y16_v0 : Value) (y16_xs0 : List Value), f 2 = route_v0 ∧ f 3 = .pointer (some ⟨b1, 0, none⟩) ∧ f 4 = .pointer (some ⟨b2, 0, none⟩) ∧ f 7 = .pointer (some ⟨b51, 0, none⟩) ∧ f 9 = .pointer (some ⟨b84, 0, none⟩) ∧ f 32 = .agg [.int .i64 y16.Days, .int .i64 y16.Step, y16_v0, .int .i64 y16.Wrong, y16_v1, .int .i64 y16.Reach, .int .i64 y16.Stock].toArray ∧ f 33 = .agg [.int .i64 t.Days, .int .i64 t.Step, t_v2, .int .i64 t.Wrong, t_v4, .int .i64 t.Reach, .int .i64 t.Stock].toArray ∧ f 35 = .agg [.int .i64 t.Days, .int .i64 t.Step, t_v2, .int .i64 t.Wrong, t_v4, .int .i64 t.Reach, .int .i64 t.Stock].toArray ∧ bs = [(b84, .cells [.int .i64 0, .int .i64 0, .slice none 0 0, .int .i64 0, .slice none 0 0, .int .i64 0, .int .i64 0].toArray 25), (b51, .cells [.int .i64 0, .int .i64 0, .slice none 0 0, .int .i64 0, .slice none 0 0, .int .i64 0, .int .i64 0].toArray 25), (b2, .cells [.int .i64 x_.Day, .int .i64 x_.Level.Low, .int .i64 x_.Level.High].toArray 37), (b1, .cells [.int .i64 t.Days, .int .i64 t.Step, t_v2, .int .i64 t.Wrong, t_v4, .int .i64 t.Reach, .int .i64 t.Stock].toArray 25)] ∧ gs = [⟨y16_v1, 41, 2, y16.Fairs.length, y16_xs1⟩, ⟨y16_v0, 37, 3, y16.Rains.length, y16_xs0⟩] ∧ CH H392 2 R_Fair y16_xs1 y16.Fairs ∧ CH H392 3 R_Rain y16_xs0 y16.Rains ∧ HSub H H392) ?_ ?_
          · rintro H392 f bs gs ⟨b84, b51, y16_v1, y16_xs1, y16_v0, y16_xs0, hf2, hf3, hf4, hf7, hf9, hf32, hf33, hf35, rfl, rfl, hm393, hm394, hs392⟩
            refine (JA.norm (i := 2) hf2 (JA.norm (i := 3) hf3 (JA.norm (i := 4) hf4 (JA.norm (i := 7) hf7 (JA.norm (i := 9) hf9 (JA.norm (i := 32) hf32 (JA.norm (i := 33) hf33 (JA.norm (i := 35) hf35 ?_))))))))
            refine JA.many [3, 7] (by kernel_rfl) (by simp) (all_cons ⟨_, #[true, true, true, true, true, false, true, false, true, false, false, false], rfl, (by kernel_rfl), ?_⟩ (all_one ⟨_, #[true, true, true, false, true, false, true, true, true, false, false, false], rfl, (by kernel_rfl), ?_⟩))
            · skip
              refine JL.callXC (x_ref11_Copy n H392 t t_v2 (SL.mono R_Rain_mono hs392 ht_2) t_v4 (SL.mono R_Fair_mono hs392 ht_4) y21 hy21) rfl en_14 .none rfl ?_
              rintro H395 vv396 _ hs395 ⟨y21_v0, y21_xs0, y21_v1, y21_xs1, rfl, rfl, hy21_0, hy21_1⟩
              refine JA.after hE (HSub.trans hs392 hs395) (.cons _ (.cons _ (.cons_cons _ (.cons_cons _ (List.nil_sublist _))))) ?_
              exact nd189_9 _ _ _ _ ⟨b84, b51, y21_v1, y21_xs1, y21_v0, y21_xs0, y16_v1, y16_xs1, y16_v0, y16_xs0, rfl, rfl, rfl, rfl, rfl, rfl, rfl, rfl, rfl, rfl, hy21_1, hy21_0, (CH.mono R_Fair_mono hs395 hm393), (CH.mono R_Rain_mono hs395 hm394), (HSub.trans hs392 hs395)⟩
            · skip
              refine JL.alloc ze_25 .none rfl ?_
              intro b399
              refine JA.after hE hs392 (.cons _ (.cons _ (.cons _ (.cons_cons _ (.cons_cons _ (List.nil_sublist _)))))) ?_
              refine JA.perm (swapAt_perm 0 _) ?_
              exact nd189_11 _ _ _ _ ⟨b84, b399, b51, y16_v1, y16_xs1, y16_v0, y16_xs0, rfl, rfl, rfl, rfl, rfl, rfl, rfl, rfl, rfl, rfl, rfl, hm393, hm394, hs392⟩
          intro nd189_16
          refine JA.cut 6 #[true, true, true, false, true, false, false, true, true, false, false, false] (fun H400 f bs gs => ∃ (b90 : Nat) (b52 : Nat) (y16_v1 : Value) (y16_xs1 : List Value) (y16_v0 : Value) (y16_xs0 : List Value), f 2 = route_v0 ∧ f 3 = .pointer (some ⟨b1, 0, none⟩) ∧ f 4 = .pointer (some ⟨b2, 0, none⟩) ∧ f 8 = .pointer (some ⟨b52, 0, none⟩) ∧ f 9 = .pointer (some ⟨b90, 0, none⟩) ∧ f 32 = .agg [.int .i64 y16.Days, .int .i64 y16.Step, y16_v0, .int .i64 y16.Wrong, y16_v1, .int .i64 y16.Reach, .int .i64 y16.Stock].toArray ∧ f 33 = .agg [.int .i64 t.Days, .int .i64 t.Step, t_v2, .int .i64 t.Wrong, t_v4, .int .i64 t.Reach, .int .i64 t.Stock].toArray ∧ f 35 = .agg [.int .i64 t.Days, .int .i64 t.Step, t_v2, .int .i64 t.Wrong, t_v4, .int .i64 t.Reach, .int .i64 t.Stock].toArray ∧ bs = [(b90, .cells [.int .i64 0, .int .i64 0, .slice none 0 0, .int .i64 0, .slice none 0 0, .int .i64 0, .int .i64 0].toArray 25), (b52, .cells [.int .i64 0, .int .i64 0, .slice none 0 0, .int .i64 0, .slice none 0 0, .int .i64 0, .int .i64 0].toArray 25), (b2, .cells [.int .i64 x_.Day, .int .i64 x_.Level.Low, .int .i64 x_.Level.High].toArray 37), (b1, .cells [.int .i64 t.Days, .int .i64 t.Step, t_v2, .int .i64 t.Wrong, t_v4, .int .i64 t.Reach, .int .i64 t.Stock].toArray 25)] ∧ gs = [⟨y16_v1, 41, 2, y16.Fairs.length, y16_xs1⟩, ⟨y16_v0, 37, 3, y16.Rains.length, y16_xs0⟩] ∧ CH H400 2 R_Fair y16_xs1 y16.Fairs ∧ CH H400 3 R_Rain y16_xs0 y16.Rains ∧ HSub H H400) ?_ ?_
          · rintro H400 f bs gs ⟨b90, b52, y16_v1, y16_xs1, y16_v0, y16_xs0, hf2, hf3, hf4, hf8, hf9, hf32, hf33, hf35, rfl, rfl, hm401, hm402, hs400⟩
            refine (JA.norm (i := 2) hf2 (JA.norm (i := 3) hf3 (JA.norm (i := 4) hf4 (JA.norm (i := 8) hf8 (JA.norm (i := 9) hf9 (JA.norm (i := 32) hf32 (JA.norm (i := 33) hf33 (JA.norm (i := 35) hf35 ?_))))))))
            refine JA.many [3, 6] (by kernel_rfl) (by simp) (all_cons ⟨_, #[true, true, true, true, true, false, false, true, true, false, false, false], rfl, (by kernel_rfl), ?_⟩ (all_one ⟨_, #[true, true, true, false, true, false, true, true, true, false, false, false], rfl, (by kernel_rfl), ?_⟩))
            · skip
              refine JL.callXC (x_ref11_Copy n H400 t t_v2 (SL.mono R_Rain_mono hs400 ht_2) t_v4 (SL.mono R_Fair_mono hs400 ht_4) y21 hy21) rfl en_14 .none rfl ?_
              rintro H403 vv404 _ hs403 ⟨y21_v0, y21_xs0, y21_v1, y21_xs1, rfl, rfl, hy21_0, hy21_1⟩
              refine JA.after hE (HSub.trans hs400 hs403) (.cons _ (.cons _ (.cons_cons _ (.cons_cons _ (List.nil_sublist _))))) ?_
              exact nd189_10 _ _ _ _ ⟨b90, b52, y21_v1, y21_xs1, y21_v0, y21_xs0, y16_v1, y16_xs1, y16_v0, y16_xs0, rfl, rfl, rfl, rfl, rfl, rfl, rfl, rfl, rfl, rfl, hy21_1, hy21_0, (CH.mono R_Fair_mono hs403 hm401), (CH.mono R_Rain_mono hs403 hm402), (HSub.trans hs400 hs403)⟩
            · skip
              refine JL.alloc ze_25 .none rfl ?_
              intro b407
              refine JA.after hE hs400 (.cons _ (.cons _ (.cons _ (.cons_cons _ (.cons_cons _ (List.nil_sublist _)))))) ?_
              refine JA.perm (swapAt_perm 0 _) ?_
              refine JA.perm (swapAt_perm 1 _) ?_
              exact nd189_11 _ _ _ _ ⟨b90, b52, b407, y16_v1, y16_xs1, y16_v0, y16_xs0, rfl, rfl, rfl, rfl, rfl, rfl, rfl, rfl, rfl, rfl, rfl, hm401, hm402, hs400⟩
          intro nd189_17
          refine JA.cut 6 #[true, false, true, false, true, false, true, true, true, false, false, false] (fun H408 f bs gs => ∃ (b101 : Nat) (b58 : Nat) (b44 : Nat), f 2 = route_v0 ∧ f 3 = .pointer (some ⟨b1, 0, none⟩) ∧ f 4 = .pointer (some ⟨b2, 0, none⟩) ∧ f 7 = .pointer (some ⟨b44, 0, none⟩) ∧ f 8 = .pointer (some ⟨b58, 0, none⟩) ∧ f 9 = .pointer (some ⟨b101, 0, none⟩) ∧ f 31 = .agg [.int .i64 t.Days, .int .i64 t.Step, t_v2, .int .i64 t.Wrong, t_v4, .int .i64 t.Reach, .int .i64 t.Stock].toArray ∧ f 33 = .agg [.int .i64 t.Days, .int .i64 t.Step, t_v2, .int .i64 t.Wrong, t_v4, .int .i64 t.Reach, .int .i64 t.Stock].toArray ∧ f 35 = .agg [.int .i64 t.Days, .int .i64 t.Step, t_v2, .int .i64 t.Wrong, t_v4, .int .i64 t.Reach, .int .i64 t.Stock].toArray ∧ bs = [(b101, .cells [.int .i64 0, .int .i64 0, .slice none 0 0, .int .i64 0, .slice none 0 0, .int .i64 0, .int .i64 0].toArray 25), (b58, .cells [.int .i64 0, .int .i64 0, .slice none 0 0, .int .i64 0, .slice none 0 0, .int .i64 0, .int .i64 0].toArray 25), (b44, .cells [.int .i64 0, .int .i64 0, .slice none 0 0, .int .i64 0, .slice none 0 0, .int .i64 0, .int .i64 0].toArray 25), (b2, .cells [.int .i64 x_.Day, .int .i64 x_.Level.Low, .int .i64 x_.Level.High].toArray 37), (b1, .cells [.int .i64 t.Days, .int .i64 t.Step, t_v2, .int .i64 t.Wrong, t_v4, .int .i64 t.Reach, .int .i64 t.Stock].toArray 25)] ∧ gs = [] ∧ HSub H H408) ?_ ?_
          · rintro H408 f bs gs ⟨b101, b58, b44, hf2, hf3, hf4, hf7, hf8, hf9, hf31, hf33, hf35, rfl, rfl, hs408⟩
            refine (JA.norm (i := 2) hf2 (JA.norm (i := 3) hf3 (JA.norm (i := 4) hf4 (JA.norm (i := 7) hf7 (JA.norm (i := 8) hf8 (JA.norm (i := 9) hf9 (JA.norm (i := 31) hf31 (JA.norm (i := 33) hf33 (JA.norm (i := 35) hf35 ?_)))))))))
            refine JA.many [1] (by kernel_rfl) (by simp) (all_one ⟨_, #[true, true, true, false, true, false, true, true, true, false, false, false], rfl, (by kernel_rfl), ?_⟩)
            refine JL.callXC (x_ref11_Copy n H408 t t_v2 (SL.mono R_Rain_mono hs408 ht_2) t_v4 (SL.mono R_Fair_mono hs408 ht_4) y16 hy16) rfl en_14 .none rfl ?_
            rintro H409 vv410 _ hs409 ⟨y16_v0, y16_xs0, y16_v1, y16_xs1, rfl, rfl, hy16_0, hy16_1⟩
            refine JA.after hE (HSub.trans hs408 hs409) (.cons _ (.cons _ (.cons _ (.cons_cons _ (.cons_cons _ (List.nil_sublist _)))))) ?_
            exact nd189_11 _ _ _ _ ⟨b101, b58, b44, y16_v1, y16_xs1, y16_v0, y16_xs0, rfl, rfl, rfl, rfl, rfl, rfl, rfl, rfl, rfl, rfl, rfl, hy16_1, hy16_0, (HSub.trans hs408 hs409)⟩
          intro nd189_18
          refine JA.cut 7 #[true, true, true, false, true, false, true, false, false, false, false, false] (fun H413 f bs gs => ∃ (b51 : Nat) (y16_v1 : Value) (y16_xs1 : List Value) (y16_v0 : Value) (y16_xs0 : List Value), f 2 = route_v0 ∧ f 3 = .pointer (some ⟨b1, 0, none⟩) ∧ f 4 = .pointer (some ⟨b2, 0, none⟩) ∧ f 7 = .pointer (some ⟨b51, 0, none⟩) ∧ f 32 = .agg [.int .i64 y16.Days, .int .i64 y16.Step, y16_v0, .int .i64 y16.Wrong, y16_v1, .int .i64 y16.Reach, .int .i64 y16.Stock].toArray ∧ f 33 = .agg [.int .i64 t.Days, .int .i64 t.Step, t_v2, .int .i64 t.Wrong, t_v4, .int .i64 t.Reach, .int .i64 t.Stock].toArray ∧ f 35 = .agg [.int .i64 t.Days, .int .i64 t.Step, t_v2, .int .i64 t.Wrong, t_v4, .int .i64 t.Reach, .int .i64 t.Stock].toArray ∧ bs = [(b51, .cells [.int .i64 0, .int .i64 0, .slice none 0 0, .int .i64 0, .slice none 0 0, .int .i64 0, .int .i64 0].toArray 25), (b2, .cells [.int .i64 x_.Day, .int .i64 x_.Level.Low, .int .i64 x_.Level.High].toArray 37), (b1, .cells [.int .i64 t.Days, .int .i64 t.Step, t_v2, .int .i64 t.Wrong, t_v4, .int .i64 t.Reach, .int .i64 t.Stock].toArray 25)] ∧ gs = [⟨y16_v1, 41, 2, y16.Fairs.length, y16_xs1⟩, ⟨y16_v0, 37, 3, y16.Rains.length, y16_xs0⟩] ∧ CH H413 2 R_Fair y16_xs1 y16.Fairs ∧ CH H413 3 R_Rain y16_xs0 y16.Rains ∧ HSub H H413) ?_ ?_
          · rintro H413 f bs gs ⟨b51, y16_v1, y16_xs1, y16_v0, y16_xs0, hf2, hf3, hf4, hf7, hf32, hf33, hf35, rfl, rfl, hm414, hm415, hs413⟩
            refine (JA.norm (i := 2) hf2 (JA.norm (i := 3) hf3 (JA.norm (i := 4) hf4 (JA.norm (i := 7) hf7 (JA.norm (i := 32) hf32 (JA.norm (i := 33) hf33 (JA.norm (i := 35) hf35 ?_)))))))
            refine JA.many [3, 7, 8] (by kernel_rfl) (by simp) (all_cons ⟨_, #[true, true, true, true, true, false, true, false, false, false, false, false], rfl, (by kernel_rfl), ?_⟩ (all_cons ⟨_, #[true, true, true, false, true, false, true, true, false, false, false, false], rfl, (by kernel_rfl), ?_⟩ (all_one ⟨_, #[true, true, true, false, true, false, true, false, true, false, false, false], rfl, (by kernel_rfl), ?_⟩)))
            · skip
              refine JL.callXC (x_ref11_Copy n H413 t t_v2 (SL.mono R_Rain_mono hs413 ht_2) t_v4 (SL.mono R_Fair_mono hs413 ht_4) y21 hy21) rfl en_14 .none rfl ?_
              rintro H416 vv417 _ hs416 ⟨y21_v0, y21_xs0, y21_v1, y21_xs1, rfl, rfl, hy21_0, hy21_1⟩
              refine JA.after hE (HSub.trans hs413 hs416) (.cons _ (.cons_cons _ (.cons_cons _ (List.nil_sublist _)))) ?_
              exact nd189_12 _ _ _ _ ⟨b51, y21_v1, y21_xs1, y21_v0, y21_xs0, y16_v1, y16_xs1, y16_v0, y16_xs0, rfl, rfl, rfl, rfl, rfl, rfl, rfl, rfl, rfl, hy21_1, hy21_0, (CH.mono R_Fair_mono hs416 hm414), (CH.mono R_Rain_mono hs416 hm415), (HSub.trans hs413 hs416)⟩
            · skip
              refine JL.alloc ze_25 .none rfl ?_
              intro b420
              refine JA.after hE hs413 (.cons _ (.cons _ (.cons_cons _ (.cons_cons _ (List.nil_sublist _))))) ?_
              exact nd189_15 _ _ _ _ ⟨b420, b51, y16_v1, y16_xs1, y16_v0, y16_xs0, rfl, rfl, rfl, rfl, rfl, rfl, rfl, rfl, rfl, rfl, hm414, hm415, hs413⟩
            · skip
              refine JL.alloc ze_25 .none rfl ?_
              intro b421
              refine JA.after hE hs413 (.cons _ (.cons _ (.cons_cons _ (.cons_cons _ (List.nil_sublist _))))) ?_
              exact nd189_16 _ _ _ _ ⟨b421, b51, y16_v1, y16_xs1, y16_v0, y16_xs0, rfl, rfl, rfl, rfl, rfl, rfl, rfl, rfl, rfl, rfl, hm414, hm415, hs413⟩
          intro nd189_19
          refine JA.cut 7 #[true, true, true, false, true, false, false, true, false, false, false, false] (fun H422 f bs gs => ∃ (b52 : Nat) (y16_v1 : Value) (y16_xs1 : List Value) (y16_v0 : Value) (y16_xs0 : List Value), f 2 = route_v0 ∧ f 3 = .pointer (some ⟨b1, 0, none⟩) ∧ f 4 = .pointer (some ⟨b2, 0, none⟩) ∧ f 8 = .pointer (some ⟨b52, 0, none⟩) ∧ f 32 = .agg [.int .i64 y16.Days, .int .i64 y16.Step, y16_v0, .int .i64 y16.Wrong, y16_v1, .int .i64 y16.Reach, .int .i64 y16.Stock].toArray ∧ f 33 = .agg [.int .i64 t.Days, .int .i64 t.Step, t_v2, .int .i64 t.Wrong, t_v4, .int .i64 t.Reach, .int .i64 t.Stock].toArray ∧ f 35 = .agg [.int .i64 t.Days, .int .i64 t.Step, t_v2, .int .i64 t.Wrong, t_v4, .int .i64 t.Reach, .int .i64 t.Stock].toArray ∧ bs = [(b52, .cells [.int .i64 0, .int .i64 0, .slice none 0 0, .int .i64 0, .slice none 0 0, .int .i64 0, .int .i64 0].toArray 25), (b2, .cells [.int .i64 x_.Day, .int .i64 x_.Level.Low, .int .i64 x_.Level.High].toArray 37), (b1, .cells [.int .i64 t.Days, .int .i64 t.Step, t_v2, .int .i64 t.Wrong, t_v4, .int .i64 t.Reach, .int .i64 t.Stock].toArray 25)] ∧ gs = [⟨y16_v1, 41, 2, y16.Fairs.length, y16_xs1⟩, ⟨y16_v0, 37, 3, y16.Rains.length, y16_xs0⟩] ∧ CH H422 2 R_Fair y16_xs1 y16.Fairs ∧ CH H422 3 R_Rain y16_xs0 y16.Rains ∧ HSub H H422) ?_ ?_
          · rintro H422 f bs gs ⟨b52, y16_v1, y16_xs1, y16_v0, y16_xs0, hf2, hf3, hf4, hf8, hf32, hf33, hf35, rfl, rfl, hm423, hm424, hs422⟩
            refine (JA.norm (i := 2) hf2 (JA.norm (i := 3) hf3 (JA.norm (i := 4) hf4 (JA.norm (i := 8) hf8 (JA.norm (i := 32) hf32 (JA.norm (i := 33) hf33 (JA.norm (i := 35) hf35 ?_)))))))
            refine JA.many [3, 6, 8] (by kernel_rfl) (by simp) (all_cons ⟨_, #[true, true, true, true, true, false, false, true, false, false, false, false], rfl, (by kernel_rfl), ?_⟩ (all_cons ⟨_, #[true, true, true, false, true, false, true, true, false, false, false, false], rfl, (by kernel_rfl), ?_⟩ (all_one ⟨_, #[true, true, true, false, true, false, false, true, true, false, false, false], rfl, (by kernel_rfl), ?_⟩)))
            · skip
              refine JL.callXC (x_ref11_Copy n H422 t t_v2 (SL.mono R_Rain_mono hs422 ht_2) t_v4 (SL.mono R_Fair_mono hs422 ht_4) y21 hy21) rfl en_14 .none rfl ?_
              rintro H425 vv426 _ hs425 ⟨y21_v0, y21_xs0, y21_v1, y21_xs1, rfl, rfl, hy21_0, hy21_1⟩
              refine JA.after hE (HSub.trans hs422 hs425) (.cons _ (.cons_cons _ (.cons_cons _ (List.nil_sublist _)))) ?_
              exact nd189_13 _ _ _ _ ⟨b52, y21_v1, y21_xs1, y21_v0, y21_xs0, y16_v1, y16_xs1, y16_v0, y16_xs0, rfl, rfl, rfl, rfl, rfl, rfl, rfl, rfl, rfl, hy21_1, hy21_0, (CH.mono R_Fair_mono hs425 hm423), (CH.mono R_Rain_mono hs425 hm424), (HSub.trans hs422 hs425)⟩
            · skip
              refine JL.alloc ze_25 .none rfl ?_
              intro b429
              refine JA.after hE hs422 (.cons _ (.cons _ (.cons_cons _ (.cons_cons _ (List.nil_sublist _))))) ?_
              refine JA.perm (swapAt_perm 0 _) ?_
              exact nd189_15 _ _ _ _ ⟨b52, b429, y16_v1, y16_xs1, y16_v0, y16_xs0, rfl, rfl, rfl, rfl, rfl, rfl, rfl, rfl, rfl, rfl, hm423, hm424, hs422⟩
            · skip
              refine JL.alloc ze_25 .none rfl ?_
              intro b430
              refine JA.after hE hs422 (.cons _ (.cons _ (.cons_cons _ (.cons_cons _ (List.nil_sublist _))))) ?_
              exact nd189_17 _ _ _ _ ⟨b430, b52, y16_v1, y16_xs1, y16_v0, y16_xs0, rfl, rfl, rfl, rfl, rfl, rfl, rfl, rfl, rfl, rfl, hm423, hm424, hs422⟩
          intro nd189_20
          refine JA.cut 7 #[true, true, true, false, true, false, false, false, true, false, false, false] (fun H431 f bs gs => ∃ (b53 : Nat) (y16_v1 : Value) (y16_xs1 : List Value) (y16_v0 : Value) (y16_xs0 : List Value), f 2 = route_v0 ∧ f 3 = .pointer (some ⟨b1, 0, none⟩) ∧ f 4 = .pointer (some ⟨b2, 0, none⟩) ∧ f 9 = .pointer (some ⟨b53, 0, none⟩) ∧ f 32 = .agg [.int .i64 y16.Days, .int .i64 y16.Step, y16_v0, .int .i64 y16.Wrong, y16_v1, .int .i64 y16.Reach, .int .i64 y16.Stock].toArray ∧ f 33 = .agg [.int .i64 t.Days, .int .i64 t.Step, t_v2, .int .i64 t.Wrong, t_v4, .int .i64 t.Reach, .int .i64 t.Stock].toArray ∧ f 35 = .agg [.int .i64 t.Days, .int .i64 t.Step, t_v2, .int .i64 t.Wrong, t_v4, .int .i64 t.Reach, .int .i64 t.Stock].toArray ∧ bs = [(b53, .cells [.int .i64 0, .int .i64 0, .slice none 0 0, .int .i64 0, .slice none 0 0, .int .i64 0, .int .i64 0].toArray 25), (b2, .cells [.int .i64 x_.Day, .int .i64 x_.Level.Low, .int .i64 x_.Level.High].toArray 37), (b1, .cells [.int .i64 t.Days, .int .i64 t.Step, t_v2, .int .i64 t.Wrong, t_v4, .int .i64 t.Reach, .int .i64 t.Stock].toArray 25)] ∧ gs = [⟨y16_v1, 41, 2, y16.Fairs.length, y16_xs1⟩, ⟨y16_v0, 37, 3, y16.Rains.length, y16_xs0⟩] ∧ CH H431 2 R_Fair y16_xs1 y16.Fairs ∧ CH H431 3 R_Rain y16_xs0 y16.Rains ∧ HSub H H431) ?_ ?_
          · rintro H431 f bs gs ⟨b53, y16_v1, y16_xs1, y16_v0, y16_xs0, hf2, hf3, hf4, hf9, hf32, hf33, hf35, rfl, rfl, hm432, hm433, hs431⟩
            refine (JA.norm (i := 2) hf2 (JA.norm (i := 3) hf3 (JA.norm (i := 4) hf4 (JA.norm (i := 9) hf9 (JA.norm (i := 32) hf32 (JA.norm (i := 33) hf33 (JA.norm (i := 35) hf35 ?_)))))))
            refine JA.many [3, 6, 7] (by kernel_rfl) (by simp) (all_cons ⟨_, #[true, true, true, true, true, false, false, false, true, false, false, false], rfl, (by kernel_rfl), ?_⟩ (all_cons ⟨_, #[true, true, true, false, true, false, true, false, true, false, false, false], rfl, (by kernel_rfl), ?_⟩ (all_one ⟨_, #[true, true, true, false, true, false, false, true, true, false, false, false], rfl, (by kernel_rfl), ?_⟩)))
            · skip
              refine JL.callXC (x_ref11_Copy n H431 t t_v2 (SL.mono R_Rain_mono hs431 ht_2) t_v4 (SL.mono R_Fair_mono hs431 ht_4) y21 hy21) rfl en_14 .none rfl ?_
              rintro H434 vv435 _ hs434 ⟨y21_v0, y21_xs0, y21_v1, y21_xs1, rfl, rfl, hy21_0, hy21_1⟩
              refine JA.after hE (HSub.trans hs431 hs434) (.cons _ (.cons_cons _ (.cons_cons _ (List.nil_sublist _)))) ?_
              exact nd189_14 _ _ _ _ ⟨b53, y21_v1, y21_xs1, y21_v0, y21_xs0, y16_v1, y16_xs1, y16_v0, y16_xs0, rfl, rfl, rfl, rfl, rfl, rfl, rfl, rfl, rfl, hy21_1, hy21_0, (CH.mono R_Fair_mono hs434 hm432), (CH.mono R_Rain_mono hs434 hm433), (HSub.trans hs431 hs434)⟩
            · skip
              refine JL.alloc ze_25 .none rfl ?_
              intro b438
              refine JA.after hE hs431 (.cons _ (.cons _ (.cons_cons _ (.cons_cons _ (List.nil_sublist _))))) ?_
              refine JA.perm (swapAt_perm 0 _) ?_
              exact nd189_16 _ _ _ _ ⟨b53, b438, y16_v1, y16_xs1, y16_v0, y16_xs0, rfl, rfl, rfl, rfl, rfl, rfl, rfl, rfl, rfl, rfl, hm432, hm433, hs431⟩
            · skip
              refine JL.alloc ze_25 .none rfl ?_
              intro b439
              refine JA.after hE hs431 (.cons _ (.cons _ (.cons_cons _ (.cons_cons _ (List.nil_sublist _))))) ?_
              refine JA.perm (swapAt_perm 0 _) ?_
              exact nd189_17 _ _ _ _ ⟨b53, b439, y16_v1, y16_xs1, y16_v0, y16_xs0, rfl, rfl, rfl, rfl, rfl, rfl, rfl, rfl, rfl, rfl, hm432, hm433, hs431⟩
          intro nd189_21
          refine JA.cut 7 #[true, false, true, false, true, false, true, true, false, false, false, false] (fun H440 f bs gs => ∃ (b58 : Nat) (b44 : Nat), f 2 = route_v0 ∧ f 3 = .pointer (some ⟨b1, 0, none⟩) ∧ f 4 = .pointer (some ⟨b2, 0, none⟩) ∧ f 7 = .pointer (some ⟨b44, 0, none⟩) ∧ f 8 = .pointer (some ⟨b58, 0, none⟩) ∧ f 31 = .agg [.int .i64 t.Days, .int .i64 t.Step, t_v2, .int .i64 t.Wrong, t_v4, .int .i64 t.Reach, .int .i64 t.Stock].toArray ∧ f 33 = .agg [.int .i64 t.Days, .int .i64 t.Step, t_v2, .int .i64 t.Wrong, t_v4, .int .i64 t.Reach, .int .i64 t.Stock].toArray ∧ f 35 = .agg [.int .i64 t.Days, .int .i64 t.Step, t_v2, .int .i64 t.Wrong, t_v4, .int .i64 t.Reach, .int .i64 t.Stock].toArray ∧ bs = [(b58, .cells [.int .i64 0, .int .i64 0, .slice none 0 0, .int .i64 0, .slice none 0 0, .int .i64 0, .int .i64 0].toArray 25), (b44, .cells [.int .i64 0, .int .i64 0, .slice none 0 0, .int .i64 0, .slice none 0 0, .int .i64 0, .int .i64 0].toArray 25), (b2, .cells [.int .i64 x_.Day, .int .i64 x_.Level.Low, .int .i64 x_.Level.High].toArray 37), (b1, .cells [.int .i64 t.Days, .int .i64 t.Step, t_v2, .int .i64 t.Wrong, t_v4, .int .i64 t.Reach, .int .i64 t.Stock].toArray 25)] ∧ gs = [] ∧ HSub H H440) ?_ ?_
          · rintro H440 f bs gs ⟨b58, b44, hf2, hf3, hf4, hf7, hf8, hf31, hf33, hf35, rfl, rfl, hs440⟩
            refine (JA.norm (i := 2) hf2 (JA.norm (i := 3) hf3 (JA.norm (i := 4) hf4 (JA.norm (i := 7) hf7 (JA.norm (i := 8) hf8 (JA.norm (i := 31) hf31 (JA.norm (i := 33) hf33 (JA.norm (i := 35) hf35 ?_))))))))
            refine JA.many [1, 8] (by kernel_rfl) (by simp) (all_cons ⟨_, #[true, true, true, false, true, false, true, true, false, false, false, false], rfl, (by kernel_rfl), ?_⟩ (all_one ⟨_, #[true, false, true, false, true, false, true, true, true, false, false, false], rfl, (by kernel_rfl), ?_⟩))
            · skip
              refine JL.callXC (x_ref11_Copy n H440 t t_v2 (SL.mono R_Rain_mono hs440 ht_2) t_v4 (SL.mono R_Fair_mono hs440 ht_4) y16 hy16) rfl en_14 .none rfl ?_
              rintro H441 vv442 _ hs441 ⟨y16_v0, y16_xs0, y16_v1, y16_xs1, rfl, rfl, hy16_0, hy16_1⟩
              refine JA.after hE (HSub.trans hs440 hs441) (.cons _ (.cons _ (.cons_cons _ (.cons_cons _ (List.nil_sublist _))))) ?_
              exact nd189_15 _ _ _ _ ⟨b58, b44, y16_v1, y16_xs1, y16_v0, y16_xs0, rfl, rfl, rfl, rfl, rfl, rfl, rfl, rfl, rfl, rfl, hy16_1, hy16_0, (HSub.trans hs440 hs441)⟩
            · skip
              refine JL.alloc ze_25 .none rfl ?_
              intro b445
              refine JA.after hE hs440 (.cons _ (.cons _ (.cons _ (.cons_cons _ (.cons_cons _ (List.nil_sublist _)))))) ?_
              exact nd189_18 _ _ _ _ ⟨b445, b58, b44, rfl, rfl, rfl, rfl, rfl, rfl, rfl, rfl, rfl, rfl, rfl, hs440⟩
          intro nd189_22
          refine JA.cut 7 #[true, false, true, false, true, false, true, false, true, false, false, false] (fun H446 f bs gs => ∃ (b59 : Nat) (b44 : Nat), f 2 = route_v0 ∧ f 3 = .pointer (some ⟨b1, 0, none⟩) ∧ f 4 = .pointer (some ⟨b2, 0, none⟩) ∧ f 7 = .pointer (some ⟨b44, 0, none⟩) ∧ f 9 = .pointer (some ⟨b59, 0, none⟩) ∧ f 31 = .agg [.int .i64 t.Days, .int .i64 t.Step, t_v2, .int .i64 t.Wrong, t_v4, .int .i64 t.Reach, .int .i64 t.Stock].toArray ∧ f 33 = .agg [.int .i64 t.Days, .int .i64 t.Step, t_v2, .int .i64 t.Wrong, t_v4, .int .i64 t.Reach, .int .i64 t.Stock].toArray ∧ f 35 = .agg [.int .i64 t.Days, .int .i64 t.Step, t_v2, .int .i64 t.Wrong, t_v4, .int .i64 t.Reach, .int .i64 t.Stock].toArray ∧ bs = [(b59, .cells [.int .i64 0, .int .i64 0, .slice none 0 0, .int .i64 0, .slice none 0 0, .int .i64 0, .int .i64 0].toArray 25), (b44, .cells [.int .i64 0, .int .i64 0, .slice none 0 0, .int .i64 0, .slice none 0 0, .int .i64 0, .int .i64 0].toArray 25), (b2, .cells [.int .i64 x_.Day, .int .i64 x_.Level.Low, .int .i64 x_.Level.High].toArray 37), (b1, .cells [.int .i64 t.Days, .int .i64 t.Step, t_v2, .int .i64 t.Wrong, t_v4, .int .i64 t.Reach, .int .i64 t.Stock].toArray 25)] ∧ gs = [] ∧ HSub H H446) ?_ ?_
          · rintro H446 f bs gs ⟨b59, b44, hf2, hf3, hf4, hf7, hf9, hf31, hf33, hf35, rfl, rfl, hs446⟩
            refine (JA.norm (i := 2) hf2 (JA.norm (i := 3) hf3 (JA.norm (i := 4) hf4 (JA.norm (i := 7) hf7 (JA.norm (i := 9) hf9 (JA.norm (i := 31) hf31 (JA.norm (i := 33) hf33 (JA.norm (i := 35) hf35 ?_))))))))
            refine JA.many [1, 7] (by kernel_rfl) (by simp) (all_cons ⟨_, #[true, true, true, false, true, false, true, false, true, false, false, false], rfl, (by kernel_rfl), ?_⟩ (all_one ⟨_, #[true, false, true, false, true, false, true, true, true, false, false, false], rfl, (by kernel_rfl), ?_⟩))
            · skip
              refine JL.callXC (x_ref11_Copy n H446 t t_v2 (SL.mono R_Rain_mono hs446 ht_2) t_v4 (SL.mono R_Fair_mono hs446 ht_4) y16 hy16) rfl en_14 .none rfl ?_
              rintro H447 vv448 _ hs447 ⟨y16_v0, y16_xs0, y16_v1, y16_xs1, rfl, rfl, hy16_0, hy16_1⟩
              refine JA.after hE (HSub.trans hs446 hs447) (.cons _ (.cons _ (.cons_cons _ (.cons_cons _ (List.nil_sublist _))))) ?_
              exact nd189_16 _ _ _ _ ⟨b59, b44, y16_v1, y16_xs1, y16_v0, y16_xs0, rfl, rfl, rfl, rfl, rfl, rfl, rfl, rfl, rfl, rfl, hy16_1, hy16_0, (HSub.trans hs446 hs447)⟩
            · skip
              refine JL.alloc ze_25 .none rfl ?_
              intro b451
              refine JA.after hE hs446 (.cons _ (.cons _ (.cons _ (.cons_cons _ (.cons_cons _ (List.nil_sublist _)))))) ?_
              refine JA.perm (swapAt_perm 0 _) ?_
              exact nd189_18 _ _ _ _ ⟨b59, b451, b44, rfl, rfl, rfl, rfl, rfl, rfl, rfl, rfl, rfl, rfl, rfl, hs446⟩
          intro nd189_23
          refine JA.cut 7 #[true, false, true, false, true, false, false, true, true, false, false, false] (fun H452 f bs gs => ∃ (b65 : Nat) (b45 : Nat), f 2 = route_v0 ∧ f 3 = .pointer (some ⟨b1, 0, none⟩) ∧ f 4 = .pointer (some ⟨b2, 0, none⟩) ∧ f 8 = .pointer (some ⟨b45, 0, none⟩) ∧ f 9 = .pointer (some ⟨b65, 0, none⟩) ∧ f 31 = .agg [.int .i64 t.Days, .int .i64 t.Step, t_v2, .int .i64 t.Wrong, t_v4, .int .i64 t.Reach, .int .i64 t.Stock].toArray ∧ f 33 = .agg [.int .i64 t.Days, .int .i64 t.Step, t_v2, .int .i64 t.Wrong, t_v4, .int .i64 t.Reach, .int .i64 t.Stock].toArray ∧ f 35 = .agg [.int .i64 t.Days, .int .i64 t.Step, t_v2, .int .i64 t.Wrong, t_v4, .int .i64 t.Reach, .int .i64 t.Stock].toArray ∧ bs = [(b65, .cells [.int .i64 0, .int .i64 0, .slice none 0 0, .int .i64 0, .slice none 0 0, .int .i64 0, .int .i64 0].toArray 25), (b45, .cells [.int .i64 0, .int .i64 0, .slice none 0 0, .int .i64 0, .slice none 0 0, .int .i64 0, .int .i64 0].toArray 25), (b2, .cells [.int .i64 x_.Day, .int .i64 x_.Level.Low, .int .i64 x_.Level.High].toArray 37), (b1, .cells [.int .i64 t.Days, .int .i64 t.Step, t_v2, .int .i64 t.Wrong, t_v4, .int .i64 t.Reach, .int .i64 t.Stock].toArray 25)] ∧ gs = [] ∧ HSub H H452) ?_ ?_
          · rintro H452 f bs gs ⟨b65, b45, hf2, hf3, hf4, hf8, hf9, hf31, hf33, hf35, rfl, rfl, hs452⟩
            refine (JA.norm (i := 2) hf2 (JA.norm (i := 3) hf3 (JA.norm (i := 4) hf4 (JA.norm (i := 8) hf8 (JA.norm (i := 9) hf9 (JA.norm (i := 31) hf31 (JA.norm (i := 33) hf33 (JA.norm (i := 35) hf35 ?_))))))))
            refine JA.many [1, 6] (by kernel_rfl) (by simp) (all_cons ⟨_, #[true, true, true, false, true, false, false, true, true, false, false, false], rfl, (by kernel_rfl), ?_⟩ (all_one ⟨_, #[true, false, true, false, true, false, true, true, true, false, false, false], rfl, (by kernel_rfl), ?_⟩))
            · skip
              refine JL.callXC (x_ref11_Copy n H452 t t_v2 (SL.mono R_Rain_mono hs452 ht_2) t_v4 (SL.mono R_Fair_mono hs452 ht_4) y16 hy16) rfl en_14 .none rfl ?_
              rintro H453 vv454 _ hs453 ⟨y16_v0, y16_xs0, y16_v1, y16_xs1, rfl, rfl, hy16_0, hy16_1⟩
              refine JA.after hE (HSub.trans hs452 hs453) (.cons _ (.cons _ (.cons_cons _ (.cons_cons _ (List.nil_sublist _))))) ?_
              exact nd189_17 _ _ _ _ ⟨b65, b45, y16_v1, y16_xs1, y16_v0, y16_xs0, rfl, rfl, rfl, rfl, rfl, rfl, rfl, rfl, rfl, rfl, hy16_1, hy16_0, (HSub.trans hs452 hs453)⟩
            · skip
              refine JL.alloc ze_25 .none rfl ?_
              intro b457
              refine JA.after hE hs452 (.cons _ (.cons _ (.cons _ (.cons_cons _ (.cons_cons _ (List.nil_sublist _)))))) ?_
              refine JA.perm (swapAt_perm 0 _) ?_
              refine JA.perm (swapAt_perm 1 _) ?_
              exact nd189_18 _ _ _ _ ⟨b65, b45, b457, rfl, rfl, rfl, rfl, rfl, rfl, rfl, rfl, rfl, rfl, rfl, hs452⟩
          intro nd189_24
          refine JA.take 0 (listed' := #[true, false, false, false, false, false, false, false, false, false, false, false]) hQ rfl (by kernel_rfl) (by kernel_rfl) (by kernel_rfl) (by kernel_rfl) (by kernel_rfl) hE (HSub.refl _) (.cons_cons _ (.cons_cons _ (List.nil_sublist _))) ?_
          refine JL.loadOwn 1 az_25 rfl rfl rfl .none rfl ?_
          refine JA.cont ?_
          refine JA.take 2 (listed' := #[true, false, true, false, false, false, false, false, false, false, false, false]) hQ rfl (by kernel_rfl) (by kernel_rfl) (by kernel_rfl) (by kernel_rfl) (by kernel_rfl) hE (HSub.refl _) (.cons_cons _ (.cons_cons _ (List.nil_sublist _))) ?_
          refine JL.loadOwn 1 az_25 rfl rfl rfl .none rfl ?_
          refine JA.cont ?_
          refine JA.take 4 (listed' := #[true, false, true, false, true, false, false, false, false, false, false, false]) hQ rfl (by kernel_rfl) (by kernel_rfl) (by kernel_rfl) (by kernel_rfl) (by kernel_rfl) hE (HSub.refl _) (.cons_cons _ (.cons_cons _ (List.nil_sublist _))) ?_
          refine JL.loadOwn 1 az_25 rfl rfl rfl .none rfl ?_
          refine JA.cont ?_
          refine JA.many [1, 6, 7, 8] (by kernel_rfl) (by simp) (all_cons ⟨_, #[true, true, true, false, true, false, false, false, false, false, false, false], rfl, (by kernel_rfl), ?_⟩ (all_cons ⟨_, #[true, false, true, false, true, false, true, false, false, false, false, false], rfl, (by kernel_rfl), ?_⟩ (all_cons ⟨_, #[true, false, true, false, true, false, false, true, false, false, false, false], rfl, (by kernel_rfl), ?_⟩ (all_one ⟨_, #[true, false, true, false, true, false, false, false, true, false, false, false], rfl, (by kernel_rfl), ?_⟩))))
          · skip
            refine JL.callXC (x_ref11_Copy n H t t_v2 ht_2 t_v4 ht_4 y16 hy16) rfl en_14 .none rfl ?_
            rintro H458 vv459 _ hs458 ⟨y16_v0, y16_xs0, y16_v1, y16_xs1, rfl, rfl, hy16_0, hy16_1⟩
            refine JA.after hE hs458 (.cons_cons _ (.cons_cons _ (List.nil_sublist _))) ?_
            refine JA.many [3, 6, 7, 8] (by kernel_rfl) (by simp) (all_cons ⟨_, #[true, true, true, true, true, false, false, false, false, false, false, false], rfl, (by kernel_rfl), ?_⟩ (all_cons ⟨_, #[true, true, true, false, true, false, true, false, false, false, false, false], rfl, (by kernel_rfl), ?_⟩ (all_cons ⟨_, #[true, true, true, false, true, false, false, true, false, false, false, false], rfl, (by kernel_rfl), ?_⟩ (all_one ⟨_, #[true, true, true, false, true, false, false, false, true, false, false, false], rfl, (by kernel_rfl), ?_⟩))))
            · skip
              refine JL.callXC (x_ref11_Copy n H458 t t_v2 (SL.mono R_Rain_mono hs458 ht_2) t_v4 (SL.mono R_Fair_mono hs458 ht_4) y21 hy21) rfl en_14 .none rfl ?_
              rintro H462 vv463 _ hs462 ⟨y21_v0, y21_xs0, y21_v1, y21_xs1, rfl, rfl, hy21_0, hy21_1⟩
              refine JA.after hE (HSub.trans hs458 hs462) (.cons_cons _ (.cons_cons _ (List.nil_sublist _))) ?_
              refine JA.many [5, 6, 7, 8] (by kernel_rfl) (by simp) (all_cons ⟨_, #[true, true, true, true, true, true, false, false, false, false, false, false], rfl, (by kernel_rfl), ?_⟩ (all_cons ⟨_, #[true, true, true, true, true, false, true, false, false, false, false, false], rfl, (by kernel_rfl), ?_⟩ (all_cons ⟨_, #[true, true, true, true, true, false, false, true, false, false, false, false], rfl, (by kernel_rfl), ?_⟩ (all_one ⟨_, #[true, true, true, true, true, false, false, false, true, false, false, false], rfl, (by kernel_rfl), ?_⟩))))
              · skip
                refine JL.callXC (x_ref11_Copy n H462 t t_v2 (SL.mono R_Rain_mono (HSub.trans hs458 hs462) ht_2) t_v4 (SL.mono R_Fair_mono (HSub.trans hs458 hs462) ht_4) y26 hy26) rfl en_14 .none rfl ?_
                rintro H466 vv467 _ hs466 ⟨y26_v0, y26_xs0, y26_v1, y26_xs1, rfl, rfl, hy26_0, hy26_1⟩
                refine JA.after hE (HSub.trans hs458 (HSub.trans hs462 hs466)) (.cons_cons _ (.cons_cons _ (List.nil_sublist _))) ?_
                refine JA.many [6, 7, 8] (by kernel_rfl) (by simp) (all_cons ⟨_, #[true, true, true, true, true, true, true, false, false, false, false, false], rfl, (by kernel_rfl), ?_⟩ (all_cons ⟨_, #[true, true, true, true, true, true, false, true, false, false, false, false], rfl, (by kernel_rfl), ?_⟩ (all_one ⟨_, #[true, true, true, true, true, true, false, false, true, false, false, false], rfl, (by kernel_rfl), ?_⟩)))
                · skip
                  refine JL.alloc ze_25 .none rfl ?_
                  intro b470
                  refine JA.after hE (HSub.trans hs458 (HSub.trans hs462 hs466)) (.cons _ (.cons_cons _ (.cons_cons _ (List.nil_sublist _)))) ?_
                  exact nd189_5 _ _ _ _ ⟨b470, y26_v1, y26_xs1, y26_v0, y26_xs0, y21_v1, y21_xs1, y21_v0, y21_xs0, y16_v1, y16_xs1, y16_v0, y16_xs0, rfl, rfl, rfl, rfl, rfl, rfl, rfl, rfl, rfl, hy26_1, hy26_0, (CH.mono R_Fair_mono hs466 hy21_1), (CH.mono R_Rain_mono hs466 hy21_0), (CH.mono R_Fair_mono (HSub.trans hs462 hs466) hy16_1), (CH.mono R_Rain_mono (HSub.trans hs462 hs466) hy16_0), (HSub.trans hs458 (HSub.trans hs462 hs466))⟩
                · skip
                  refine JL.alloc ze_25 .none rfl ?_
                  intro b471
                  refine JA.after hE (HSub.trans hs458 (HSub.trans hs462 hs466)) (.cons _ (.cons_cons _ (.cons_cons _ (List.nil_sublist _)))) ?_
                  exact nd189_6 _ _ _ _ ⟨b471, y26_v1, y26_xs1, y26_v0, y26_xs0, y21_v1, y21_xs1, y21_v0, y21_xs0, y16_v1, y16_xs1, y16_v0, y16_xs0, rfl, rfl, rfl, rfl, rfl, rfl, rfl, rfl, rfl, hy26_1, hy26_0, (CH.mono R_Fair_mono hs466 hy21_1), (CH.mono R_Rain_mono hs466 hy21_0), (CH.mono R_Fair_mono (HSub.trans hs462 hs466) hy16_1), (CH.mono R_Rain_mono (HSub.trans hs462 hs466) hy16_0), (HSub.trans hs458 (HSub.trans hs462 hs466))⟩
                · skip
                  refine JL.alloc ze_25 .none rfl ?_
                  intro b472
                  refine JA.after hE (HSub.trans hs458 (HSub.trans hs462 hs466)) (.cons _ (.cons_cons _ (.cons_cons _ (List.nil_sublist _)))) ?_
                  exact nd189_7 _ _ _ _ ⟨b472, y26_v1, y26_xs1, y26_v0, y26_xs0, y21_v1, y21_xs1, y21_v0, y21_xs0, y16_v1, y16_xs1, y16_v0, y16_xs0, rfl, rfl, rfl, rfl, rfl, rfl, rfl, rfl, rfl, hy26_1, hy26_0, (CH.mono R_Fair_mono hs466 hy21_1), (CH.mono R_Rain_mono hs466 hy21_0), (CH.mono R_Fair_mono (HSub.trans hs462 hs466) hy16_1), (CH.mono R_Rain_mono (HSub.trans hs462 hs466) hy16_0), (HSub.trans hs458 (HSub.trans hs462 hs466))⟩
              · skip
                refine JL.alloc ze_25 .none rfl ?_
                intro b473
                refine JA.after hE (HSub.trans hs458 hs462) (.cons _ (.cons_cons _ (.cons_cons _ (List.nil_sublist _)))) ?_
                exact nd189_12 _ _ _ _ ⟨b473, y21_v1, y21_xs1, y21_v0, y21_xs0, y16_v1, y16_xs1, y16_v0, y16_xs0, rfl, rfl, rfl, rfl, rfl, rfl, rfl, rfl, rfl, hy21_1, hy21_0, (CH.mono R_Fair_mono hs462 hy16_1), (CH.mono R_Rain_mono hs462 hy16_0), (HSub.trans hs458 hs462)⟩
              · skip
                refine JL.alloc ze_25 .none rfl ?_
                intro b474
                refine JA.after hE (HSub.trans hs458 hs462) (.cons _ (.cons_cons _ (.cons_cons _ (List.nil_sublist _)))) ?_
                exact nd189_13 _ _ _ _ ⟨b474, y21_v1, y21_xs1, y21_v0, y21_xs0, y16_v1, y16_xs1, y16_v0, y16_xs0, rfl, rfl, rfl, rfl, rfl, rfl, rfl, rfl, rfl, hy21_1, hy21_0, (CH.mono R_Fair_mono hs462 hy16_1), (CH.mono R_Rain_mono hs462 hy16_0), (HSub.trans hs458 hs462)⟩
              · skip
                refine JL.alloc ze_25 .none rfl ?_
                intro b475
                refine JA.after hE (HSub.trans hs458 hs462) (.cons _ (.cons_cons _ (.cons_cons _ (List.nil_sublist _)))) ?_
                exact nd189_14 _ _ _ _ ⟨b475, y21_v1, y21_xs1, y21_v0, y21_xs0, y16_v1, y16_xs1, y16_v0, y16_xs0, rfl, rfl, rfl, rfl, rfl, rfl, rfl, rfl, rfl, hy21_1, hy21_0, (CH.mono R_Fair_mono hs462 hy16_1), (CH.mono R_Rain_mono hs462 hy16_0), (HSub.trans hs458 hs462)⟩
            · skip
              refine JL.alloc ze_25 .none rfl ?_
              intro b476
              refine JA.after hE hs458 (.cons _ (.cons_cons _ (.cons_cons _ (List.nil_sublist _)))) ?_
              exact nd189_19 _ _ _ _ ⟨b476, y16_v1, y16_xs1, y16_v0, y16_xs0, rfl, rfl, rfl, rfl, rfl, rfl, rfl, rfl, rfl, hy16_1, hy16_0, hs458⟩
            · skip
              refine JL.alloc ze_25 .none rfl ?_
              intro b477
              refine JA.after hE hs458 (.cons _ (.cons_cons _ (.cons_cons _ (List.nil_sublist _)))) ?_
              exact nd189_20 _ _ _ _ ⟨b477, y16_v1, y16_xs1, y16_v0, y16_xs0, rfl, rfl, rfl, rfl, rfl, rfl, rfl, rfl, rfl, hy16_1, hy16_0, hs458⟩
            · skip
              refine JL.alloc ze_25 .none rfl ?_
              intro b478
              refine JA.after hE hs458 (.cons _ (.cons_cons _ (.cons_cons _ (List.nil_sublist _)))) ?_
              exact nd189_21 _ _ _ _ ⟨b478, y16_v1, y16_xs1, y16_v0, y16_xs0, rfl, rfl, rfl, rfl, rfl, rfl, rfl, rfl, rfl, hy16_1, hy16_0, hs458⟩
          · skip
            refine JL.alloc ze_25 .none rfl ?_
            intro b479
            refine JA.after hE (HSub.refl _) (.cons _ (.cons_cons _ (.cons_cons _ (List.nil_sublist _)))) ?_
            refine JA.many [1, 7, 8] (by kernel_rfl) (by simp) (all_cons ⟨_, #[true, true, true, false, true, false, true, false, false, false, false, false], rfl, (by kernel_rfl), ?_⟩ (all_cons ⟨_, #[true, false, true, false, true, false, true, true, false, false, false, false], rfl, (by kernel_rfl), ?_⟩ (all_one ⟨_, #[true, false, true, false, true, false, true, false, true, false, false, false], rfl, (by kernel_rfl), ?_⟩)))
            · skip
              refine JL.callXC (x_ref11_Copy n H t t_v2 ht_2 t_v4 ht_4 y16 hy16) rfl en_14 .none rfl ?_
              rintro H480 vv481 _ hs480 ⟨y16_v0, y16_xs0, y16_v1, y16_xs1, rfl, rfl, hy16_0, hy16_1⟩
              refine JA.after hE hs480 (.cons _ (.cons_cons _ (.cons_cons _ (List.nil_sublist _)))) ?_
              exact nd189_19 _ _ _ _ ⟨b479, y16_v1, y16_xs1, y16_v0, y16_xs0, rfl, rfl, rfl, rfl, rfl, rfl, rfl, rfl, rfl, hy16_1, hy16_0, hs480⟩
            · skip
              refine JL.alloc ze_25 .none rfl ?_
              intro b484
              refine JA.after hE (HSub.refl _) (.cons _ (.cons _ (.cons_cons _ (.cons_cons _ (List.nil_sublist _))))) ?_
              exact nd189_22 _ _ _ _ ⟨b484, b479, rfl, rfl, rfl, rfl, rfl, rfl, rfl, rfl, rfl, rfl, (HSub.refl _)⟩
            · skip
              refine JL.alloc ze_25 .none rfl ?_
              intro b485
              refine JA.after hE (HSub.refl _) (.cons _ (.cons _ (.cons_cons _ (.cons_cons _ (List.nil_sublist _))))) ?_
              exact nd189_23 _ _ _ _ ⟨b485, b479, rfl, rfl, rfl, rfl, rfl, rfl, rfl, rfl, rfl, rfl, (HSub.refl _)⟩
          · skip
            refine JL.alloc ze_25 .none rfl ?_
            intro b486
            refine JA.after hE (HSub.refl _) (.cons _ (.cons_cons _ (.cons_cons _ (List.nil_sublist _)))) ?_
            refine JA.many [1, 6, 8] (by kernel_rfl) (by simp) (all_cons ⟨_, #[true, true, true, false, true, false, false, true, false, false, false, false], rfl, (by kernel_rfl), ?_⟩ (all_cons ⟨_, #[true, false, true, false, true, false, true, true, false, false, false, false], rfl, (by kernel_rfl), ?_⟩ (all_one ⟨_, #[true, false, true, false, true, false, false, true, true, false, false, false], rfl, (by kernel_rfl), ?_⟩)))
            · skip
              refine JL.callXC (x_ref11_Copy n H t t_v2 ht_2 t_v4 ht_4 y16 hy16) rfl en_14 .none rfl ?_
              rintro H487 vv488 _ hs487 ⟨y16_v0, y16_xs0, y16_v1, y16_xs1, rfl, rfl, hy16_0, hy16_1⟩
              refine JA.after hE hs487 (.cons _ (.cons_cons _ (.cons_cons _ (List.nil_sublist _)))) ?_
              exact nd189_20 _ _ _ _ ⟨b486, y16_v1, y16_xs1, y16_v0, y16_xs0, rfl, rfl, rfl, rfl, rfl, rfl, rfl, rfl, rfl, hy16_1, hy16_0, hs487⟩
            · skip
              refine JL.alloc ze_25 .none rfl ?_
              intro b491
              refine JA.after hE (HSub.refl _) (.cons _ (.cons _ (.cons_cons _ (.cons_cons _ (List.nil_sublist _))))) ?_
              refine JA.perm (swapAt_perm 0 _) ?_
              exact nd189_22 _ _ _ _ ⟨b486, b491, rfl, rfl, rfl, rfl, rfl, rfl, rfl, rfl, rfl, rfl, (HSub.refl _)⟩
            · skip
              refine JL.alloc ze_25 .none rfl ?_
              intro b492
              refine JA.after hE (HSub.refl _) (.cons _ (.cons _ (.cons_cons _ (.cons_cons _ (List.nil_sublist _))))) ?_
              exact nd189_24 _ _ _ _ ⟨b492, b486, rfl, rfl, rfl, rfl, rfl, rfl, rfl, rfl, rfl, rfl, (HSub.refl _)⟩
          · skip
            refine JL.alloc ze_25 .none rfl ?_
            intro b493
            refine JA.after hE (HSub.refl _) (.cons _ (.cons_cons _ (.cons_cons _ (List.nil_sublist _)))) ?_
            refine JA.many [1, 6, 7] (by kernel_rfl) (by simp) (all_cons ⟨_, #[true, true, true, false, true, false, false, false, true, false, false, false], rfl, (by kernel_rfl), ?_⟩ (all_cons ⟨_, #[true, false, true, false, true, false, true, false, true, false, false, false], rfl, (by kernel_rfl), ?_⟩ (all_one ⟨_, #[true, false, true, false, true, false, false, true, true, false, false, false], rfl, (by kernel_rfl), ?_⟩)))
            · skip
              refine JL.callXC (x_ref11_Copy n H t t_v2 ht_2 t_v4 ht_4 y16 hy16) rfl en_14 .none rfl ?_
              rintro H494 vv495 _ hs494 ⟨y16_v0, y16_xs0, y16_v1, y16_xs1, rfl, rfl, hy16_0, hy16_1⟩
              refine JA.after hE hs494 (.cons _ (.cons_cons _ (.cons_cons _ (List.nil_sublist _)))) ?_
              exact nd189_21 _ _ _ _ ⟨b493, y16_v1, y16_xs1, y16_v0, y16_xs0, rfl, rfl, rfl, rfl, rfl, rfl, rfl, rfl, rfl, hy16_1, hy16_0, hs494⟩
            · skip
              refine JL.alloc ze_25 .none rfl ?_
              intro b498
              refine JA.after hE (HSub.refl _) (.cons _ (.cons _ (.cons_cons _ (.cons_cons _ (List.nil_sublist _))))) ?_
              refine JA.perm (swapAt_perm 0 _) ?_
              exact nd189_23 _ _ _ _ ⟨b493, b498, rfl, rfl, rfl, rfl, rfl, rfl, rfl, rfl, rfl, rfl, (HSub.refl _)⟩
            · skip
              refine JL.alloc ze_25 .none rfl ?_
              intro b499
              refine JA.after hE (HSub.refl _) (.cons _ (.cons _ (.cons_cons _ (.cons_cons _ (List.nil_sublist _))))) ?_
              refine JA.perm (swapAt_perm 0 _) ?_
              exact nd189_24 _ _ _ _ ⟨b493, b499, rfl, rfl, rfl, rfl, rfl, rfl, rfl, rfl, rfl, rfl, (HSub.refl _)⟩

end Go.Proofs.Ytooankffknoomaa
