/-
  A part of the proof of RiRib: the texts RiGenK10, RiGenK11, EngQ, EngR.
-/
import Derived.Test.YteihdclpiekmaaaJRiRib6
section
set_option maxRecDepth 100000
set_option maxHeartbeats 40000000
namespace Go.Proofs.Yteihdclpiekmaaa
open Go Go.RowKit Go.Dec
set_option linter.unusedVariables false
-- 25 ferrule/ferruleref07.Copy
def F_ref07_Copy_s2 (n : Nat)  : Int × List Slot → Option ((Int × List Slot) ⊕ (List Slot))
 | (k_4288, out_4289) => if decide (k_4288 < (out_4289.length : Int)) = true then ((geti out_4289 k_4288).bind fun y4296 => (lim (([] : List Int) ++ y4296.Sections)).bind fun l4301 => (geti out_4289 k_4288).bind fun y4305 => some (Sum.inl ((w64 (k_4288 + 1)), (setx out_4289 k_4288 (Slot.mk y4305.Kind l4301 y4305.Length))))) else (some (Sum.inr out_4289))
def F_ref07_Copy_s1 (n : Nat) (w_ : Workshop) : Int × List Make → Option ((Int × List Make) ⊕ (List Make))
 | (i_3785, out_3786) => if decide (i_3785 < (w_.Makes.length : Int)) = true then ((geti w_.Makes i_3785).bind fun y3793 => (lim (([] : List Slot) ++ y3793.Slots)).bind fun l3798 => (loopO n (F_ref07_Copy_s2 n) (0, l3798)).bind fun out_4095 => (lim (out_3786 ++ [(Make.mk out_4095)])).bind fun l4390 => some (Sum.inl ((w64 (i_3785 + 1)), l4390))) else (some (Sum.inr out_3786))
def F_ref07_Copy (n : Nat) (w_ : Workshop) : Option Workshop :=
 (lim (([] : List Spare) ++ w_.Spares)).bind fun l6 => (lim (([] : List Trial) ++ w_.Table)).bind fun l12 => (loopO n (F_ref07_Copy_s1 n w_) (0, ([] : List Make))).bind fun out_2562 => some (Workshop.mk l6 out_2562 w_.Cut l12)
theorem x_ref07_Copy (n : Nat) (H : Hp) (w_ : Workshop) (w__v0 : Value) (hw__0 : SL H 4 R_Spare w__v0 w_.Spares) (w__v1 : Value) (hw__1 : SL H 1 R_Make w__v1 w_.Makes) (w__v3 : Value) (hw__3 : SL H 4 R_Trial w__v3 w_.Table) (y : Workshop) (hF : F_ref07_Copy n w_ = some y) : XC Try.prog 25 [.agg [w__v0, w__v1, .int .i64 w_.Cut, w__v3].toArray] H (fun H' v gs' => ∃ (y_v0 : Value) (y_xs0 : List Value) (y_v1 : Value) (y_xs1 : List Value) (y_v2 : Value) (y_xs2 : List Value), v = .agg [y_v0, y_v1, .int .i64 y.Cut, y_v2].toArray ∧ gs' = [⟨y_v1, 127, 1, y.Makes.length, y_xs1⟩, ⟨y_v2, 55, 4, y.Table.length, y_xs2⟩, ⟨y_v0, 131, 4, y.Spares.length, y_xs0⟩] ∧ CH H' 4 R_Spare y_xs0 y.Spares ∧ CH H' 1 R_Make y_xs1 y.Makes ∧ CH H' 4 R_Trial y_xs2 y.Table) := by
 rw [F_ref07_Copy] at hF
 refine XC.of (N := 62) Try.func25 rfl rfl rfl fun w => ?_
 refine JC.seq (JC.region (by rfl) ?_)
 intro hQ
 refine JL.box (cs := [w__v0, w__v1, .int .i64 w_.Cut, w__v3]) rfl .none rfl ?_
 intro b1
 refine JL.alloc ze_48 .none rfl ?_
 intro b2
 refine JL.done hQ (JQ.go (JC.seq (JC.region (by rfl) ?_)))
 intro hQ
 refine JL.loadOwn 1 az_48 rfl rfl rfl .none rfl ?_
 refine JL.alloc ze_48 .none rfl ?_
 intro b3
 refine JL.storeOwn 0 (cs := [w__v0, w__v1, .int .i64 w_.Cut, w__v3]) az_48 rfl rfl rfl (one_cons (SL.one hw__0) (one_cons (SL.one hw__1) (one_cons rfl (one_cons (SL.one hw__3) one_nil)))) rfl rfl .none ?_
 refine JL.done hQ (JQ.go (JC.seq ?_))
 obtain ⟨l6, hl6, hF⟩ := bind_some hF
 obtain ⟨l12, hl12, hF⟩ := bind_some hF
 refine JC.mixed 12 12 #[false, false, false, false, false, false, false, false, false, false, false, false] [(b2, .cells [.slice none 0 0, .slice none 0 0, .int .i64 0, .slice none 0 0].toArray 48), (b1, .cells [w__v0, w__v1, .int .i64 w_.Cut, w__v3].toArray 48)] (by rfl) mo_ (by kernel_rfl) (by kernel_rfl) ?_
 intro hQ hE
 refine JA.cut 4 #[true, true, true, true, true, true, true, false, true, false, false, false] (fun H113 f bs gs => ∃ (v103 : Value) (v96 : Value) (xs97 : List Value), f 1 = .pointer (some ⟨b1, 0, none⟩) ∧ f 2 = .pointer (some ⟨b2, 0, none⟩) ∧ f 3 = .pointer (some ⟨b3, 0, none⟩) ∧ f 11 = v96 ∧ f 12 = v103 ∧ f 14 = w__v3 ∧ f 16 = .pointer (some ⟨b3, 0, none⟩) ∧ bs = [(b3, .cells [w__v0, w__v1, .int .i64 w_.Cut, w__v3].toArray 48), (b2, .cells [.slice none 0 0, .slice none 0 0, .int .i64 0, .slice none 0 0].toArray 48), (b1, .cells [w__v0, w__v1, .int .i64 w_.Cut, w__v3].toArray 48)] ∧ gs = [⟨v103, 55, 4, 0, []⟩, ⟨v96, 131, 4, l6.length, xs97⟩] ∧ CH H113 4 R_Spare xs97 l6 ∧ HSub H H113) ?_ ?_
 ·rintro H113 f bs gs ⟨v103, v96, xs97, hf1, hf2, hf3, hf11, hf12, hf14, hf16, rfl, rfl, hm114, hs113⟩
  refine (JA.norm (i := 1) hf1 (JA.norm (i := 2) hf2 (JA.norm (i := 3) hf3 (JA.norm (i := 11) hf11 (JA.norm (i := 12) hf12 (JA.norm (i := 14) hf14 (JA.norm (i := 16) hf16 ?_)))))))
  refine JA.many [7] (by kernel_rfl) (by simp) (all_one ⟨_, #[true, true, true, true, true, true, true, true, true, false, false, false], rfl, (by kernel_rfl), ?_⟩)
  refine JL.appD (R := R_Trial) 0 (l := ([] : List Trial)) (m := w_.Table) ap_46 rfl ⟨rfl, rfl⟩ rfl CH.nil rfl (SL.mono R_Trial_mono hs113 hw__3) (R_Trial_one _) hl12 .none rfl ?_
  intro v115 xs116 hch117
  refine JA.after hE hs113 (.cons _ (.cons_cons _ (.cons_cons _ (List.nil_sublist _)))) ?_
  refine JA.many [9] (by kernel_rfl) (by simp) (all_one ⟨_, #[true, true, true, true, true, true, true, true, true, true, false, false], rfl, (by kernel_rfl), ?_⟩)
  refine JL.oneG 1 rfl (fun ho118 => ?_)
  refine JL.storeOwn 0 (cs := [v96]) az_44 rfl ho118.2 rfl (one_cons ho118.1 one_nil) rfl rfl .none ?_
  refine JA.after hE hs113 (.cons _ (.cons_cons _ (.cons_cons _ (List.nil_sublist _)))) ?_
  refine JA.take 10 (listed' := #[true, true, true, true, true, true, true, true, true, true, true, false]) hQ rfl (by kernel_rfl) (by kernel_rfl) (by kernel_rfl) (by kernel_rfl) (by kernel_rfl) hE hs113 (.cons _ (.cons_cons _ (.cons_cons _ (List.nil_sublist _)))) ?_
  refine JL.fieldAddr fo_48_3 rfl .none rfl ?_
  refine JA.cont ?_
  refine JA.many [11] (by kernel_rfl) (by simp) (all_one ⟨_, #[true, true, true, true, true, true, true, true, true, true, true, true], rfl, (by kernel_rfl), ?_⟩)
  refine JL.oneG 0 rfl (fun ho119 => ?_)
  refine JL.storeOwn 0 (cs := [v115]) az_46 rfl ho119.2 rfl (one_cons ho119.1 one_nil) rfl rfl .none ?_
  refine JA.after hE hs113 (.cons _ (.cons_cons _ (.cons_cons _ (List.nil_sublist _)))) ?_
  refine JA.done hQ (by kernel_rfl) ?_
  refine JQ.go (JC.seq (JC.region (by rfl) ?_))
  intro hQ
  refine JL.fieldAddr fo_48_1 rfl .none rfl ?_
  refine JL.storeOwn 0 (cs := [.slice none 0 0]) az_45 rfl rfl rfl (one_cons rfl one_nil) rfl rfl .none ?_
  refine JL.done hQ (JQ.go (JC.seq (JC.seq (JC.region (by rfl) ?_))))
  intro hQ
  refine JL.assign .none rfl ?_
  refine JL.done hQ (JQ.go (JC.newNil (e := 127) (sz := 1) ?_))
  obtain ⟨r2564, hlr2564, hKr2564⟩ := bind_some hF
  refine JC.join (fun (out_2562 : List Make) H2563 f bs gs => ∃ (vout_2562 : Value) (xsout_2562 : List Value), f 2 = .pointer (some ⟨b2, 0, none⟩) ∧ f 3 = .pointer (some ⟨b3, 0, none⟩) ∧ bs = [(b3, .cells [v96, vout_2562, .int .i64 w_.Cut, v115].toArray 48), (b2, .cells [.slice none 0 0, .slice none 0 0, .int .i64 0, .slice none 0 0].toArray 48)] ∧ gs = [⟨vout_2562, 127, 1, out_2562.length, xsout_2562⟩, ⟨v115, 55, 4, l12.length, xs116⟩, ⟨v96, 131, 4, l6.length, xs97⟩] ∧ CH H2563 1 R_Make xsout_2562 out_2562 ∧ HSub H113 H2563 ∧ out_2562 = r2564) ?_ ?_
  ·skip
   refine JC.block (JC.loop hlr2564 (fun (x : Int × List Make) H3787 f bs gs => match x with | (i_3785, out_3786) => ∃ (vout_3786 : Value) (xsout_3786 : List Value), f 1 = .pointer (some ⟨b1, 0, none⟩) ∧ f 2 = .pointer (some ⟨b2, 0, none⟩) ∧ f 3 = .pointer (some ⟨b3, 0, none⟩) ∧ f 4 = .int .i64 i_3785 ∧ bs = [(b3, .cells [v96, vout_3786, .int .i64 w_.Cut, v115].toArray 48), (b2, .cells [.slice none 0 0, .slice none 0 0, .int .i64 0, .slice none 0 0].toArray 48), (b1, .cells [w__v0, w__v1, .int .i64 w_.Cut, w__v3].toArray 48)] ∧ gs = [⟨vout_3786, 127, 1, out_3786.length, xsout_3786⟩, ⟨v115, 55, 4, l12.length, xs116⟩, ⟨v96, 131, 4, l6.length, xs97⟩] ∧ CH H3787 1 R_Make xsout_3786 out_3786 ∧ HSub H113 H3787) ⟨(.slice none 0 0), [], rfl, rfl, rfl, rfl, rfl, rfl, CH.nil, (HSub.refl _)⟩ ?_)
   rintro ⟨i_3785, out_3786⟩ x3789 H3787 f bs gs ⟨vout_3786, xsout_3786, hf1, hf2, hf3, hf4, rfl, rfl, hout_3786, hs3787⟩ hF hr3788
   rw [F_ref07_Copy_s1] at hF
   refine (JC.norm (i := 1) hf1 (JC.norm (i := 2) hf2 (JC.norm (i := 3) hf3 (JC.norm (i := 4) hf4 ?_))))
   refine JC.seq (JC.seq (JC.region (by rfl) ?_))
   intro hQ
   refine JL.move .none rfl ?_
   refine JL.fieldAddr fo_48_1 rfl .none rfl ?_
   refine JL.loadOwn 2 az_45 rfl rfl rfl .none rfl ?_
   refine JL.lenSL (R := R_Make) ul_45 (SL.mono R_Make_mono (HSub.trans hs113 hs3787) hw__1) .none rfl ?_
   refine JL.bin rfl rfl rfl .none rfl ?_
   refine JL.done hQ (JQ.go ?_)
   rcases ite_some hF with ⟨hc3790, hF⟩ | ⟨hc3790, hF⟩
   ·refine JC.cond_t (b := decide (i_3785 < (w_.Makes.length : Int))) rfl hc3790 ?_
    refine JC.skip (JQ.go (JC.seq (JC.block (JC.seq (JC.region (by rfl) ?_)))))
    intro hQ
    refine JL.emptySlice ap_125 .none rfl ?_
    intro v3791
    refine JL.fieldAddr fo_48_1 rfl .none rfl ?_
    refine JL.loadOwn 2 az_45 rfl rfl rfl .none rfl ?_
    refine JL.move .none rfl ?_
    obtain ⟨y3793, hy3793, hF⟩ := bind_some hF
    refine JL.indexSL (R := R_Make) sl_45 (SL.mono R_Make_mono (HSub.trans hs113 hs3787) hw__1) rfl hy3793 .none rfl ?_
    rintro b3794 o3795 cs3796 hc3797 - ⟨y3793_v0, rfl, hy3793_0⟩
    refine JL.fieldAddr fo_127_0 rfl .none rfl ?_
    refine JL.loadH 0 az_125 rfl hc3797 rfl .none rfl ?_
    obtain ⟨l3798, hl3798, hF⟩ := bind_some hF
    refine JL.appD (R := R_Slot) 0 (l := ([] : List Slot)) (m := y3793.Slots) ap_125 rfl ⟨rfl, rfl⟩ rfl CH.nil rfl hy3793_0 (R_Slot_one _) hl3798 .none rfl ?_
    intro v3799 xs3800 hch3801
    refine JL.formG 0 rfl (fun a3802 n3803 c3804 hh3805 => ?_)
    dsimp only at hh3805
    subst hh3805
    refine JL.build (l := [(.slice a3802 n3803 c3804)]) (by kernel_rfl) .none rfl ?_
    refine JL.alloc ze_127 .none rfl ?_
    intro b3806
    refine JL.oneG 0 rfl (fun ho3807 => ?_)
    refine JL.storeOwn 0 (cs := [(.slice a3802 n3803 c3804)]) az_127 rfl rfl rfl (one_cons ho3807.1 one_nil) rfl rfl .none ?_
    refine JL.done hQ (JQ.go (JC.fresh (fun f => f 1 = .pointer (some ⟨b1, 0, none⟩) ∧ f 2 = .pointer (some ⟨b2, 0, none⟩) ∧ f 3 = .pointer (some ⟨b3, 0, none⟩) ∧ f 4 = .int .i64 i_3785 ∧ f 5 = .pointer (some ⟨b3806, 0, none⟩)) ⟨rfl, rfl, rfl, rfl, rfl⟩ ?_))
    rintro f ⟨hf1, hf2, hf3, hf4, hf5⟩
    refine (JC.norm (i := 1) hf1 (JC.norm (i := 2) hf2 (JC.norm (i := 3) hf3 (JC.norm (i := 4) hf4 (JC.norm (i := 5) hf5 ?_)))))
    refine JC.seq (JC.seq (JC.region (by rfl) ?_))
    intro hQ
    refine JL.assign .none rfl ?_
    refine JL.done hQ (JQ.go ?_)
    obtain ⟨r4097, hlr4097, hKr4097⟩ := bind_some hF
    refine JC.join (fun (out_4095 : List Slot) H4096 f bs gs => ∃ (vout_4095 : Value) (xsout_4095 : List Value), f 1 = .pointer (some ⟨b1, 0, none⟩) ∧ f 2 = .pointer (some ⟨b2, 0, none⟩) ∧ f 3 = .pointer (some ⟨b3, 0, none⟩) ∧ f 4 = .int .i64 i_3785 ∧ f 5 = .pointer (some ⟨b3806, 0, none⟩) ∧ bs = [(b3806, .cells [vout_4095].toArray 127), (b3, .cells [v96, vout_3786, .int .i64 w_.Cut, v115].toArray 48), (b2, .cells [.slice none 0 0, .slice none 0 0, .int .i64 0, .slice none 0 0].toArray 48), (b1, .cells [w__v0, w__v1, .int .i64 w_.Cut, w__v3].toArray 48)] ∧ gs = [⟨vout_4095, 129, 4, out_4095.length, xsout_4095⟩, ⟨vout_3786, 127, 1, out_3786.length, xsout_3786⟩, ⟨v115, 55, 4, l12.length, xs116⟩, ⟨v96, 131, 4, l6.length, xs97⟩] ∧ CH H4096 4 R_Slot xsout_4095 out_4095 ∧ HSub H3787 H4096 ∧ out_4095 = r4097) ?_ ?_
    ·skip
     refine JC.block (JC.loop hlr4097 (fun (x : Int × List Slot) H4290 f bs gs => match x with | (k_4288, out_4289) => ∃ (vout_4289 : Value) (xsout_4289 : List Value), f 1 = .pointer (some ⟨b1, 0, none⟩) ∧ f 2 = .pointer (some ⟨b2, 0, none⟩) ∧ f 3 = .pointer (some ⟨b3, 0, none⟩) ∧ f 4 = .int .i64 i_3785 ∧ f 5 = .pointer (some ⟨b3806, 0, none⟩) ∧ f 6 = .int .i64 k_4288 ∧ bs = [(b3806, .cells [vout_4289].toArray 127), (b3, .cells [v96, vout_3786, .int .i64 w_.Cut, v115].toArray 48), (b2, .cells [.slice none 0 0, .slice none 0 0, .int .i64 0, .slice none 0 0].toArray 48), (b1, .cells [w__v0, w__v1, .int .i64 w_.Cut, w__v3].toArray 48)] ∧ gs = [⟨vout_4289, 129, 4, out_4289.length, xsout_4289⟩, ⟨vout_3786, 127, 1, out_3786.length, xsout_3786⟩, ⟨v115, 55, 4, l12.length, xs116⟩, ⟨v96, 131, 4, l6.length, xs97⟩] ∧ CH H4290 4 R_Slot xsout_4289 out_4289 ∧ HSub H3787 H4290) ⟨(.slice a3802 n3803 c3804), xs3800, rfl, rfl, rfl, rfl, rfl, rfl, rfl, rfl, hch3801, (HSub.refl _)⟩ ?_)
     rintro ⟨k_4288, out_4289⟩ x4292 H4290 f bs gs ⟨vout_4289, xsout_4289, hf1, hf2, hf3, hf4, hf5, hf6, rfl, rfl, hout_4289, hs4290⟩ hF hr4291
     rw [F_ref07_Copy_s2] at hF
     refine (JC.norm (i := 1) hf1 (JC.norm (i := 2) hf2 (JC.norm (i := 3) hf3 (JC.norm (i := 4) hf4 (JC.norm (i := 5) hf5 (JC.norm (i := 6) hf6 ?_))))))
     refine JC.seq (JC.seq (JC.region (by rfl) ?_))
     intro hQ
     refine JL.move .none rfl ?_
     refine JL.fieldAddr fo_127_0 rfl .none rfl ?_
     refine JL.loadOwn 0 az_125 rfl rfl rfl .none rfl ?_
     refine JL.lenG 0 ul_125 rfl rfl .none rfl ?_
     refine JL.bin rfl rfl rfl .none rfl ?_
     refine JL.done hQ (JQ.go ?_)
     rcases ite_some hF with ⟨hc4293, hF⟩ | ⟨hc4293, hF⟩
     ·refine JC.cond_t (b := decide (k_4288 < (out_4289.length : Int))) rfl hc4293 ?_
      refine JC.skip (JQ.go (JC.seq (JC.block ?_)))
      obtain ⟨y4296, hy4296, hF⟩ := bind_some hF
      obtain ⟨l4301, hl4301, hF⟩ := bind_some hF
      obtain ⟨y4305, hy4305, hF⟩ := bind_some hF
      refine JC.mixed 13 14 #[false, false, false, false, false, false, false, false, false, false, false, false, false, false] [(b3806, .cells [vout_4289].toArray 127), (b3, .cells [v96, vout_3786, .int .i64 w_.Cut, v115].toArray 48), (b2, .cells [.slice none 0 0, .slice none 0 0, .int .i64 0, .slice none 0 0].toArray 48), (b1, .cells [w__v0, w__v1, .int .i64 w_.Cut, w__v3].toArray 48)] (by rfl) mo_ (by kernel_rfl) (by kernel_rfl) ?_
      intro hQ hE
      refine JA.cut 4 #[true, true, true, true, true, true, true, true, true, true, false, false, false, false] (fun H4358 f bs gs => ∃ (w4322 : Value) (v4312 : Value), f 1 = .pointer (some ⟨b1, 0, none⟩) ∧ f 2 = .pointer (some ⟨b2, 0, none⟩) ∧ f 3 = .pointer (some ⟨b3, 0, none⟩) ∧ f 4 = .int .i64 i_3785 ∧ f 5 = .pointer (some ⟨b3806, 0, none⟩) ∧ f 6 = .int .i64 k_4288 ∧ f 43 = vout_4289 ∧ f 44 = .int .i64 k_4288 ∧ f 45 = v4312 ∧ f 51 = w4322 ∧ bs = [(b3806, .cells [vout_4289].toArray 127), (b3, .cells [v96, vout_3786, .int .i64 w_.Cut, v115].toArray 48), (b2, .cells [.slice none 0 0, .slice none 0 0, .int .i64 0, .slice none 0 0].toArray 48), (b1, .cells [w__v0, w__v1, .int .i64 w_.Cut, w__v3].toArray 48)] ∧ gs = [⟨v4312, 3, 1, 0, []⟩, ⟨vout_4289, 129, 4, out_4289.length, xsout_4289⟩, ⟨vout_3786, 127, 1, out_3786.length, xsout_3786⟩, ⟨v115, 55, 4, l12.length, xs116⟩, ⟨v96, 131, 4, l6.length, xs97⟩] ∧ SL H4358 1 RInt w4322 y4296.Sections ∧ HSub H4290 H4358) ?_ ?_
      ·rintro H4358 f bs gs ⟨w4322, v4312, hf1, hf2, hf3, hf4, hf5, hf6, hf43, hf44, hf45, hf51, rfl, rfl, hm4359, hs4358⟩
       refine (JA.norm (i := 1) hf1 (JA.norm (i := 2) hf2 (JA.norm (i := 3) hf3 (JA.norm (i := 4) hf4 (JA.norm (i := 5) hf5 (JA.norm (i := 6) hf6 (JA.norm (i := 43) hf43 (JA.norm (i := 44) hf44 (JA.norm (i := 45) hf45 (JA.norm (i := 51) hf51 ?_))))))))))
       refine JA.many [10] (by kernel_rfl) (by simp) (all_one ⟨_, #[true, true, true, true, true, true, true, true, true, true, true, false, false, false], rfl, (by kernel_rfl), ?_⟩)
       refine JL.appD (R := RInt) 0 (l := ([] : List Int)) (m := y4296.Sections) ap_23 rfl ⟨rfl, rfl⟩ rfl CH.nil rfl hm4359 (RInt.one _) hl4301 .none rfl ?_
       intro v4360 xs4361 hch4362
       refine JA.after hE hs4358 (.cons_cons _ (.cons_cons _ (.cons_cons _ (.cons_cons _ (List.nil_sublist _))))) ?_
       refine JA.many [11] (by kernel_rfl) (by simp) (all_one ⟨_, #[true, true, true, true, true, true, true, true, true, true, true, true, false, false], rfl, (by kernel_rfl), ?_⟩)
       refine JL.indexG 1 (l := out_4289) sl_125 rfl rfl rfl rfl hy4305 .none rfl ?_
       intro b4363 hb4364
       refine JA.after hE hs4358 (.cons_cons _ (.cons_cons _ (.cons_cons _ (.cons_cons _ (List.nil_sublist _))))) ?_
       refine JA.take 12 (listed' := #[true, true, true, true, true, true, true, true, true, true, true, true, true, false]) hQ rfl (by kernel_rfl) (by kernel_rfl) (by kernel_rfl) (by kernel_rfl) (by kernel_rfl) hE hs4358 (.cons_cons _ (.cons_cons _ (.cons_cons _ (.cons_cons _ (List.nil_sublist _))))) ?_
       refine JL.fieldAddr fo_129_1 rfl .none rfl ?_
       refine JA.cont ?_
       refine JA.many [13] (by kernel_rfl) (by simp) (all_one ⟨_, #[true, true, true, true, true, true, true, true, true, true, true, true, true, true], rfl, (by kernel_rfl), ?_⟩)
       refine JL.freezeG 0 (R := RInt) rfl RInt.mono hch4362 rfl ?_
       intro H4365 hs4365 hg4366
       refine JL.storeG (R := R_Slot) 0 (i := k_4288) (l := out_4289) (y := y4305) (y' := (Slot.mk y4305.Kind l4301 y4305.Length)) (off := 1) az_23 rfl rfl (SL.vc hg4366) rfl (one_cons (SL.one hg4366) one_nil) rfl hb4364 (CH.mono R_Slot_mono (HSub.trans hs4358 hs4365) hout_4289) rfl hy4305 rfl (by rintro cs ⟨v0_, rfl, h0_⟩; exact ⟨v4360, rfl, hg4366⟩) .none ?_
       intro xs4367 hch4368
       refine JA.sink (by kernel_rfl) ?_
       refine JA.done hQ (by kernel_rfl) ?_
       refine JQ.normal_block (JQ.go (JC.region (by rfl) ?_))
       intro hQ
       refine JL.move .none rfl ?_
       refine JL.bin rfl rfl rfl .none rfl ?_
       refine JL.assign .none rfl ?_
       refine JL.done hQ ?_
       obtain rfl := Option.some.inj hF
       exact JQ.next rfl ⟨vout_4289, xs4367, rfl, rfl, rfl, rfl, rfl, rfl, rfl, rfl, hch4368, (HSub.trans hs4290 (HSub.trans hs4358 hs4365))⟩
      intro nd4357_0
      refine JA.cut 5 #[true, true, true, true, true, true, true, true, true, false, false, false, false, false] (fun H4369 f bs gs => ∃ (b4316 : Nat) (v4312 : Value), f 1 = .pointer (some ⟨b1, 0, none⟩) ∧ f 2 = .pointer (some ⟨b2, 0, none⟩) ∧ f 3 = .pointer (some ⟨b3, 0, none⟩) ∧ f 4 = .int .i64 i_3785 ∧ f 5 = .pointer (some ⟨b3806, 0, none⟩) ∧ f 6 = .int .i64 k_4288 ∧ f 43 = vout_4289 ∧ f 44 = .int .i64 k_4288 ∧ f 45 = v4312 ∧ f 50 = .pointer (some ⟨b4316, 0 + (k_4288).toNat * 4 + 1, none⟩) ∧ bs = [(b3806, .cells [vout_4289].toArray 127), (b3, .cells [v96, vout_3786, .int .i64 w_.Cut, v115].toArray 48), (b2, .cells [.slice none 0 0, .slice none 0 0, .int .i64 0, .slice none 0 0].toArray 48), (b1, .cells [w__v0, w__v1, .int .i64 w_.Cut, w__v3].toArray 48)] ∧ gs = [⟨v4312, 3, 1, 0, []⟩, ⟨vout_4289, 129, 4, out_4289.length, xsout_4289⟩, ⟨vout_3786, 127, 1, out_3786.length, xsout_3786⟩, ⟨v115, 55, 4, l12.length, xs116⟩, ⟨v96, 131, 4, l6.length, xs97⟩] ∧ (vout_4289 : Value).ownBlock = some b4316 ∧ HSub H4290 H4369) ?_ ?_
      ·rintro H4369 f bs gs ⟨b4316, v4312, hf1, hf2, hf3, hf4, hf5, hf6, hf43, hf44, hf45, hf50, rfl, rfl, hm4370, hs4369⟩
       refine (JA.norm (i := 1) hf1 (JA.norm (i := 2) hf2 (JA.norm (i := 3) hf3 (JA.norm (i := 4) hf4 (JA.norm (i := 5) hf5 (JA.norm (i := 6) hf6 (JA.norm (i := 43) hf43 (JA.norm (i := 44) hf44 (JA.norm (i := 45) hf45 (JA.norm (i := 50) hf50 ?_))))))))))
       refine JA.many [9] (by kernel_rfl) (by simp) (all_one ⟨_, #[true, true, true, true, true, true, true, true, true, true, false, false, false, false], rfl, (by kernel_rfl), ?_⟩)
       refine JL.loadGS (R := R_Slot) (fun v => ∃ w4371 : Value, v = w4371 ∧ SL H4369 1 RInt w4371 y4296.Sections) 1 (i := k_4288) (l := out_4289) (off := 1) az_23 rfl rfl rfl hm4370 (CH.mono R_Slot_mono hs4369 hout_4289) hy4296 (by rintro cs ⟨w1_, rfl, k1_⟩; exact ⟨_, rfl, w1_, rfl, k1_⟩) .none rfl ?_
       rintro w4371 ⟨_, rfl, hw4372⟩
       refine JA.after hE hs4369 (.cons_cons _ (.cons_cons _ (.cons_cons _ (.cons_cons _ (List.nil_sublist _))))) ?_
       exact nd4357_0 _ _ _ _ ⟨w4371, v4312, rfl, rfl, rfl, rfl, rfl, rfl, rfl, rfl, rfl, rfl, rfl, rfl, hw4372, hs4369⟩
      intro nd4357_1
      refine JA.take 0 (listed' := #[true, false, false, false, false, false, false, false, false, false, false, false, false, false]) hQ rfl (by kernel_rfl) (by kernel_rfl) (by kernel_rfl) (by kernel_rfl) (by kernel_rfl) hE (HSub.refl _) (.cons_cons _ (.cons_cons _ (.cons_cons _ (.cons_cons _ (List.nil_sublist _))))) ?_
      refine JL.fieldAddr fo_127_0 rfl .none rfl ?_
      refine JA.cont ?_
      refine JA.take 1 (listed' := #[true, true, false, false, false, false, false, false, false, false, false, false, false, false]) hQ rfl (by kernel_rfl) (by kernel_rfl) (by kernel_rfl) (by kernel_rfl) (by kernel_rfl) hE (HSub.refl _) (.cons_cons _ (.cons_cons _ (.cons_cons _ (.cons_cons _ (List.nil_sublist _))))) ?_
      refine JL.loadOwn 0 az_125 rfl rfl rfl .none rfl ?_
      refine JA.cont ?_
      refine JA.take 2 (listed' := #[true, true, true, false, false, false, false, false, false, false, false, false, false, false]) hQ rfl (by kernel_rfl) (by kernel_rfl) (by kernel_rfl) (by kernel_rfl) (by kernel_rfl) hE (HSub.refl _) (.cons_cons _ (.cons_cons _ (.cons_cons _ (.cons_cons _ (List.nil_sublist _))))) ?_
      refine JL.move .none rfl ?_
      refine JA.cont ?_
      refine JA.take 4 (listed' := #[true, true, true, false, true, false, false, false, false, false, false, false, false, false]) hQ rfl (by kernel_rfl) (by kernel_rfl) (by kernel_rfl) (by kernel_rfl) (by kernel_rfl) hE (HSub.refl _) (.cons_cons _ (.cons_cons _ (.cons_cons _ (.cons_cons _ (List.nil_sublist _))))) ?_
      refine JL.fieldAddr fo_127_0 rfl .none rfl ?_
      refine JA.cont ?_
      refine JA.take 5 (listed' := #[true, true, true, false, true, true, false, false, false, false, false, false, false, false]) hQ rfl (by kernel_rfl) (by kernel_rfl) (by kernel_rfl) (by kernel_rfl) (by kernel_rfl) hE (HSub.refl _) (.cons_cons _ (.cons_cons _ (.cons_cons _ (.cons_cons _ (List.nil_sublist _))))) ?_
      refine JL.loadOwn 0 az_125 rfl rfl rfl .none rfl ?_
      refine JA.cont ?_
      refine JA.take 6 (listed' := #[true, true, true, false, true, true, true, false, false, false, false, false, false, false]) hQ rfl (by kernel_rfl) (by kernel_rfl) (by kernel_rfl) (by kernel_rfl) (by kernel_rfl) hE (HSub.refl _) (.cons_cons _ (.cons_cons _ (.cons_cons _ (.cons_cons _ (List.nil_sublist _))))) ?_
      refine JL.move .none rfl ?_
      refine JA.cont ?_
      refine JA.many [3, 7] (by kernel_rfl) (by simp) (all_cons ⟨_, #[true, true, true, true, true, true, true, false, false, false, false, false, false, false], rfl, (by kernel_rfl), ?_⟩ (all_one ⟨_, #[true, true, true, false, true, true, true, true, false, false, false, false, false, false], rfl, (by kernel_rfl), ?_⟩))
      ·skip
       refine JL.emptySlice ap_23 .none rfl ?_
       intro v4373
       refine JA.after hE (HSub.refl _) (.cons_cons _ (.cons_cons _ (.cons_cons _ (.cons_cons _ (List.nil_sublist _))))) ?_
       refine JA.many [7] (by kernel_rfl) (by simp) (all_one ⟨_, #[true, true, true, true, true, true, true, true, false, false, false, false, false, false], rfl, (by kernel_rfl), ?_⟩)
       refine JL.indexG 1 (l := out_4289) sl_125 rfl rfl rfl rfl hy4296 .none rfl ?_
       intro b4375 hb4376
       refine JA.after hE (HSub.refl _) (.cons_cons _ (.cons_cons _ (.cons_cons _ (.cons_cons _ (List.nil_sublist _))))) ?_
       refine JA.take 8 (listed' := #[true, true, true, true, true, true, true, true, true, false, false, false, false, false]) hQ rfl (by kernel_rfl) (by kernel_rfl) (by kernel_rfl) (by kernel_rfl) (by kernel_rfl) hE (HSub.refl _) (.cons_cons _ (.cons_cons _ (.cons_cons _ (.cons_cons _ (List.nil_sublist _))))) ?_
       refine JL.fieldAddr fo_129_1 rfl .none rfl ?_
       refine JA.cont ?_
       exact nd4357_1 _ _ _ _ ⟨b4375, v4373, rfl, rfl, rfl, rfl, rfl, rfl, rfl, rfl, rfl, rfl, rfl, rfl, hb4376, (HSub.refl _)⟩
      ·skip
       refine JL.indexG 0 (l := out_4289) sl_125 rfl rfl rfl rfl hy4296 .none rfl ?_
       intro b4377 hb4378
       refine JA.after hE (HSub.refl _) (.cons_cons _ (.cons_cons _ (.cons_cons _ (.cons_cons _ (List.nil_sublist _))))) ?_
       refine JA.take 8 (listed' := #[true, true, true, false, true, true, true, true, true, false, false, false, false, false]) hQ rfl (by kernel_rfl) (by kernel_rfl) (by kernel_rfl) (by kernel_rfl) (by kernel_rfl) hE (HSub.refl _) (.cons_cons _ (.cons_cons _ (.cons_cons _ (.cons_cons _ (List.nil_sublist _))))) ?_
       refine JL.fieldAddr fo_129_1 rfl .none rfl ?_
       refine JA.cont ?_
       refine JA.many [3, 9] (by kernel_rfl) (by simp) (all_cons ⟨_, #[true, true, true, true, true, true, true, true, true, false, false, false, false, false], rfl, (by kernel_rfl), ?_⟩ (all_one ⟨_, #[true, true, true, false, true, true, true, true, true, true, false, false, false, false], rfl, (by kernel_rfl), ?_⟩))
       ·skip
        refine JL.emptySlice ap_23 .none rfl ?_
        intro v4379
        refine JA.after hE (HSub.refl _) (.cons_cons _ (.cons_cons _ (.cons_cons _ (.cons_cons _ (List.nil_sublist _))))) ?_
        exact nd4357_1 _ _ _ _ ⟨b4377, v4379, rfl, rfl, rfl, rfl, rfl, rfl, rfl, rfl, rfl, rfl, rfl, rfl, hb4378, (HSub.refl _)⟩
       ·skip
        refine JL.loadGS (R := R_Slot) (fun v => ∃ w4381 : Value, v = w4381 ∧ SL H4290 1 RInt w4381 y4296.Sections) 0 (i := k_4288) (l := out_4289) (off := 1) az_23 rfl rfl rfl hb4378 hout_4289 hy4296 (by rintro cs ⟨w1_, rfl, k1_⟩; exact ⟨_, rfl, w1_, rfl, k1_⟩) .none rfl ?_
        rintro w4381 ⟨_, rfl, hw4382⟩
        refine JA.after hE (HSub.refl _) (.cons_cons _ (.cons_cons _ (.cons_cons _ (.cons_cons _ (List.nil_sublist _))))) ?_
        refine JA.many [3] (by kernel_rfl) (by simp) (all_one ⟨_, #[true, true, true, true, true, true, true, true, true, true, false, false, false, false], rfl, (by kernel_rfl), ?_⟩)
        refine JL.emptySlice ap_23 .none rfl ?_
        intro v4383
        refine JA.after hE (HSub.refl _) (.cons_cons _ (.cons_cons _ (.cons_cons _ (.cons_cons _ (List.nil_sublist _))))) ?_
        exact nd4357_0 _ _ _ _ ⟨w4381, v4383, rfl, rfl, rfl, rfl, rfl, rfl, rfl, rfl, rfl, rfl, rfl, rfl, hw4382, (HSub.refl _)⟩
     ·refine JC.cond_f (b := decide (k_4288 < (out_4289.length : Int))) rfl hc4293 ?_
      refine JC.exit (JQ.exit_then (JQ.exit_then (JQ.exit_block ?_)))
      obtain rfl := Option.some.inj hF
      have ehr4291 := hr4291 _ rfl
      subst ehr4291
      exact JQ.join out_4289 ⟨vout_4289, xsout_4289, rfl, rfl, rfl, rfl, rfl, rfl, rfl, hout_4289, hs4290, rfl⟩
    ·rintro out_4095 H4096 f bs gs ⟨vout_4095, xsout_4095, hf1, hf2, hf3, hf4, hf5, rfl, rfl, hout_4095, hs4096, rfl⟩
     have hF := hKr4097
     try dsimp only at hF
     refine (JQ.norm (i := 1) hf1 (JQ.norm (i := 2) hf2 (JQ.norm (i := 3) hf3 (JQ.norm (i := 4) hf4 (JQ.norm (i := 5) hf5 ?_)))))
     refine JQ.go (JC.region (by rfl) ?_)
     intro hQ
     refine JL.fieldAddr fo_48_1 rfl .none rfl ?_
     refine JL.loadOwn 1 az_45 rfl rfl rfl .none rfl ?_
     refine JL.loadOwn 0 az_127 rfl rfl rfl .none rfl ?_
     refine JL.formG 0 rfl (fun a4385 n4386 c4387 hh4388 => ?_)
     dsimp only at hh4388
     subst hh4388
     refine JL.buildSlice (e := 127) (l := [(.slice a4385 n4386 c4387)]) (by kernel_rfl) .none rfl ?_
     intro b4389
     obtain ⟨l4390, hl4390, hF⟩ := bind_some hF
     refine JL.freezeG 0 (R := R_Slot) rfl R_Slot_mono hout_4095 rfl ?_
     intro H4391 hs4391 hg4392
     refine JL.appO (R := R_Make) 0 0 (l := out_3786) (m := [(Make.mk out_4095)]) ap_45 rfl ⟨rfl, rfl⟩ rfl (CH.mono R_Make_mono (HSub.trans hs4096 hs4391) hout_3786) rfl rfl rfl (CH.cons (cs := [(.slice a4385 n4386 c4387)]) rfl ⟨(.slice a4385 n4386 c4387), rfl, hg4392⟩ CH.nil) rfl (one_cons (SL.one hg4392) one_nil) hl4390 .none rfl ?_
     intro v4393 xs4394 hch4395
     refine JL.fieldAddr fo_48_1 rfl .none rfl ?_
     refine JL.oneG 0 rfl (fun ho4396 => ?_)
     refine JL.storeOwn 2 (cs := [v4393]) az_45 rfl ho4396.2 rfl (one_cons ho4396.1 one_nil) rfl rfl .none ?_
     refine JL.done hQ (JQ.normal_block (JQ.go (JC.region (by rfl) ?_)))
     intro hQ
     refine JL.move .none rfl ?_
     refine JL.bin rfl rfl rfl .none rfl ?_
     refine JL.assign .none rfl ?_
     refine JL.done hQ ?_
     obtain rfl := Option.some.inj hF
     refine JQ.mask [false, false, true, true, true] [true, true, true] ?_
     exact JQ.next rfl ⟨v4393, xs4394, rfl, rfl, rfl, rfl, rfl, rfl, hch4395, (HSub.trans hs3787 (HSub.trans hs4096 hs4391))⟩
   ·refine JC.cond_f (b := decide (i_3785 < (w_.Makes.length : Int))) rfl hc3790 ?_
    refine JC.exit (JQ.exit_then (JQ.exit_then (JQ.exit_block ?_)))
    obtain rfl := Option.some.inj hF
    have ehr3788 := hr3788 _ rfl
    subst ehr3788
    refine JQ.mask [true, true, false] [true, true, true] ?_
    exact JQ.join out_3786 ⟨vout_3786, xsout_3786, rfl, rfl, rfl, rfl, hout_3786, hs3787, rfl⟩
  ·rintro out_2562 H2563 f bs gs ⟨vout_2562, xsout_2562, hf2, hf3, rfl, rfl, hout_2562, hs2563, rfl⟩
   have hF := hKr2564
   try dsimp only at hF
   refine (JQ.norm (i := 2) hf2 (JQ.norm (i := 3) hf3 ?_))
   refine JQ.go (JC.seq (JC.region (by rfl) ?_))
   intro hQ
   refine JL.loadOwn 0 az_48 rfl rfl rfl .none rfl ?_
   refine JL.oneG 2 rfl (fun ho4397 => ?_)
   refine JL.oneG 0 rfl (fun ho4398 => ?_)
   refine JL.oneG 1 rfl (fun ho4399 => ?_)
   refine JL.storeOwn 1 (cs := [v96, vout_2562, .int .i64 w_.Cut, v115]) az_48 rfl rfl rfl (one_cons ho4397.1 (one_cons ho4398.1 (one_cons rfl (one_cons ho4399.1 one_nil)))) rfl rfl .none ?_
   refine JL.done hQ (JQ.go (JC.ret ?_))
   obtain rfl := Option.some.inj hF
   exact JQ.outX rfl (.cell 1 az_48 rfl rfl rfl .nil) ⟨v96, xs97, vout_2562, xsout_2562, v115, xs116, rfl, rfl, (CH.mono R_Spare_mono hs2563 hm114), hout_2562, (CH.mono R_Trial_mono hs2563 hch117)⟩
 intro nd112_0
 refine JA.cut 6 #[true, true, true, false, true, true, true, false, false, false, false, false] (fun H4400 f bs gs => ∃ (v99 : Value) (v92 : Value), f 1 = .pointer (some ⟨b1, 0, none⟩) ∧ f 2 = .pointer (some ⟨b2, 0, none⟩) ∧ f 3 = .pointer (some ⟨b3, 0, none⟩) ∧ f 8 = v92 ∧ f 10 = w__v0 ∧ f 12 = v99 ∧ f 14 = w__v3 ∧ bs = [(b3, .cells [w__v0, w__v1, .int .i64 w_.Cut, w__v3].toArray 48), (b2, .cells [.slice none 0 0, .slice none 0 0, .int .i64 0, .slice none 0 0].toArray 48), (b1, .cells [w__v0, w__v1, .int .i64 w_.Cut, w__v3].toArray 48)] ∧ gs = [⟨v99, 55, 4, 0, []⟩, ⟨v92, 131, 4, 0, []⟩] ∧ HSub H H4400) ?_ ?_
 ·rintro H4400 f bs gs ⟨v99, v92, hf1, hf2, hf3, hf8, hf10, hf12, hf14, rfl, rfl, hs4400⟩
  refine (JA.norm (i := 1) hf1 (JA.norm (i := 2) hf2 (JA.norm (i := 3) hf3 (JA.norm (i := 8) hf8 (JA.norm (i := 10) hf10 (JA.norm (i := 12) hf12 (JA.norm (i := 14) hf14 ?_)))))))
  refine JA.many [3] (by kernel_rfl) (by simp) (all_one ⟨_, #[true, true, true, true, true, true, true, false, false, false, false, false], rfl, (by kernel_rfl), ?_⟩)
  refine JL.appD (R := R_Spare) 1 (l := ([] : List Spare)) (m := w_.Spares) ap_44 rfl ⟨rfl, rfl⟩ rfl CH.nil rfl (SL.mono R_Spare_mono hs4400 hw__0) (R_Spare_one _) hl6 .none rfl ?_
  intro v4401 xs4402 hch4403
  refine JA.after hE hs4400 (.cons _ (.cons_cons _ (.cons_cons _ (List.nil_sublist _)))) ?_
  refine JA.take 8 (listed' := #[true, true, true, true, true, true, true, false, true, false, false, false]) hQ rfl (by kernel_rfl) (by kernel_rfl) (by kernel_rfl) (by kernel_rfl) (by kernel_rfl) hE hs4400 (.cons _ (.cons_cons _ (.cons_cons _ (List.nil_sublist _)))) ?_
  refine JL.fieldAddr fo_48_0 rfl .none rfl ?_
  refine JA.cont ?_
  exact nd112_0 _ _ _ _ ⟨v99, v4401, xs4402, rfl, rfl, rfl, rfl, rfl, rfl, rfl, rfl, rfl, hch4403, hs4400⟩
 intro nd112_1
 refine JA.take 1 (listed' := #[false, true, false, false, false, false, false, false, false, false, false, false]) hQ rfl (by kernel_rfl) (by kernel_rfl) (by kernel_rfl) (by kernel_rfl) (by kernel_rfl) hE (HSub.refl _) (.cons _ (.cons_cons _ (.cons_cons _ (List.nil_sublist _)))) ?_
 refine JL.fieldAddr fo_48_0 rfl .none rfl ?_
 refine JA.cont ?_
 refine JA.take 2 (listed' := #[false, true, true, false, false, false, false, false, false, false, false, false]) hQ rfl (by kernel_rfl) (by kernel_rfl) (by kernel_rfl) (by kernel_rfl) (by kernel_rfl) hE (HSub.refl _) (.cons _ (.cons_cons _ (.cons_cons _ (List.nil_sublist _)))) ?_
 refine JL.loadOwn 1 az_44 rfl rfl rfl .none rfl ?_
 refine JA.cont ?_
 refine JA.take 5 (listed' := #[false, true, true, false, false, true, false, false, false, false, false, false]) hQ rfl (by kernel_rfl) (by kernel_rfl) (by kernel_rfl) (by kernel_rfl) (by kernel_rfl) hE (HSub.refl _) (.cons _ (.cons_cons _ (.cons_cons _ (List.nil_sublist _)))) ?_
 refine JL.fieldAddr fo_48_3 rfl .none rfl ?_
 refine JA.cont ?_
 refine JA.take 6 (listed' := #[false, true, true, false, false, true, true, false, false, false, false, false]) hQ rfl (by kernel_rfl) (by kernel_rfl) (by kernel_rfl) (by kernel_rfl) (by kernel_rfl) hE (HSub.refl _) (.cons _ (.cons_cons _ (.cons_cons _ (List.nil_sublist _)))) ?_
 refine JL.loadOwn 1 az_46 rfl rfl rfl .none rfl ?_
 refine JA.cont ?_
 refine JA.many [0, 4] (by kernel_rfl) (by simp) (all_cons ⟨_, #[true, true, true, false, false, true, true, false, false, false, false, false], rfl, (by kernel_rfl), ?_⟩ (all_one ⟨_, #[false, true, true, false, true, true, true, false, false, false, false, false], rfl, (by kernel_rfl), ?_⟩))
 ·skip
  refine JL.emptySlice ap_44 .none rfl ?_
  intro v4404
  refine JA.after hE (HSub.refl _) (.cons _ (.cons_cons _ (.cons_cons _ (List.nil_sublist _)))) ?_
  refine JA.many [3, 4] (by kernel_rfl) (by simp) (all_cons ⟨_, #[true, true, true, true, false, true, true, false, false, false, false, false], rfl, (by kernel_rfl), ?_⟩ (all_one ⟨_, #[true, true, true, false, true, true, true, false, false, false, false, false], rfl, (by kernel_rfl), ?_⟩))
  ·skip
   refine JL.appD (R := R_Spare) 0 (l := ([] : List Spare)) (m := w_.Spares) ap_44 rfl ⟨rfl, rfl⟩ rfl CH.nil rfl hw__0 (R_Spare_one _) hl6 .none rfl ?_
   intro v4406 xs4407 hch4408
   refine JA.after hE (HSub.refl _) (.cons _ (.cons_cons _ (.cons_cons _ (List.nil_sublist _)))) ?_
   refine JA.take 8 (listed' := #[true, true, true, true, false, true, true, false, true, false, false, false]) hQ rfl (by kernel_rfl) (by kernel_rfl) (by kernel_rfl) (by kernel_rfl) (by kernel_rfl) hE (HSub.refl _) (.cons _ (.cons_cons _ (.cons_cons _ (List.nil_sublist _)))) ?_
   refine JL.fieldAddr fo_48_0 rfl .none rfl ?_
   refine JA.cont ?_
   refine JA.many [4] (by kernel_rfl) (by simp) (all_one ⟨_, #[true, true, true, true, true, true, true, false, true, false, false, false], rfl, (by kernel_rfl), ?_⟩)
   refine JL.emptySlice ap_46 .none rfl ?_
   intro v4409
   refine JA.after hE (HSub.refl _) (.cons _ (.cons_cons _ (.cons_cons _ (List.nil_sublist _)))) ?_
   exact nd112_0 _ _ _ _ ⟨v4409, v4406, xs4407, rfl, rfl, rfl, rfl, rfl, rfl, rfl, rfl, rfl, hch4408, (HSub.refl _)⟩
  ·skip
   refine JL.emptySlice ap_46 .none rfl ?_
   intro v4411
   refine JA.after hE (HSub.refl _) (.cons _ (.cons_cons _ (.cons_cons _ (List.nil_sublist _)))) ?_
   exact nd112_1 _ _ _ _ ⟨v4411, v4404, rfl, rfl, rfl, rfl, rfl, rfl, rfl, rfl, rfl, (HSub.refl _)⟩
 ·skip
  refine JL.emptySlice ap_46 .none rfl ?_
  intro v4413
  refine JA.after hE (HSub.refl _) (.cons _ (.cons_cons _ (.cons_cons _ (List.nil_sublist _)))) ?_
  refine JA.many [0] (by kernel_rfl) (by simp) (all_one ⟨_, #[true, true, true, false, true, true, true, false, false, false, false, false], rfl, (by kernel_rfl), ?_⟩)
  refine JL.emptySlice ap_44 .none rfl ?_
  intro v4415
  refine JA.after hE (HSub.refl _) (.cons _ (.cons_cons _ (.cons_cons _ (List.nil_sublist _)))) ?_
  refine JA.permG (swapAt_perm 0 _) ?_
  exact nd112_1 _ _ _ _ ⟨v4413, v4415, rfl, rfl, rfl, rfl, rfl, rfl, rfl, rfl, rfl, (HSub.refl _)⟩
end Go.Proofs.Yteihdclpiekmaaa
end
section
set_option maxRecDepth 100000
set_option maxHeartbeats 40000000
namespace Go.Proofs.Yteihdclpiekmaaa
open Go Go.RowKit Go.Dec
set_option linter.unusedVariables false
-- 27 ferrule/ferruleref01.Copy
def F_ref01_Copy (n : Nat) (f_ : Frame) : Option Frame :=
 (lim (([] : List Section) ++ f_.Sections)).bind fun l5 => some (Frame.mk l5 f_.Low f_.High f_.Ease f_.Rod f_.Case)
theorem x_ref01_Copy (n : Nat) (H : Hp) (f_ : Frame) (f__v0 : Value) (hf__0 : SL H 7 R_Section f__v0 f_.Sections) (y : Frame) (hF : F_ref01_Copy n f_ = some y) : XC Try.prog 27 [.agg [f__v0, .int .i64 f_.Low, .int .i64 f_.High, .int .i64 f_.Ease.Num, .int .i64 f_.Ease.Den, .int .i64 f_.Rod, .int .i64 f_.Case].toArray] H (fun H' v gs' => ∃ (y_v0 : Value) (y_xs0 : List Value), v = .agg [y_v0, .int .i64 y.Low, .int .i64 y.High, .int .i64 y.Ease.Num, .int .i64 y.Ease.Den, .int .i64 y.Rod, .int .i64 y.Case].toArray ∧ gs' = [⟨y_v0, 68, 7, y.Sections.length, y_xs0⟩] ∧ CH H' 7 R_Section y_xs0 y.Sections) := by
 rw [F_ref01_Copy] at hF
 refine XC.of (N := 9) Try.func27 rfl rfl rfl fun w => ?_
 refine JC.seq (JC.region (by rfl) ?_)
 intro hQ
 refine JL.box (cs := [f__v0, .int .i64 f_.Low, .int .i64 f_.High, .int .i64 f_.Ease.Num, .int .i64 f_.Ease.Den, .int .i64 f_.Rod, .int .i64 f_.Case]) rfl .none rfl ?_
 intro b1
 refine JL.alloc ze_53 .none rfl ?_
 intro b2
 refine JL.done hQ (JQ.go (JC.seq (JC.region (by rfl) ?_)))
 intro hQ
 refine JL.emptySlice ap_49 .none rfl ?_
 intro v3
 refine JL.fieldAddr fo_53_0 rfl .none rfl ?_
 refine JL.loadOwn 1 az_49 rfl rfl rfl .none rfl ?_
 obtain ⟨l5, hl5, hF⟩ := bind_some hF
 refine JL.appD (R := R_Section) 0 (l := ([] : List Section)) (m := f_.Sections) ap_49 rfl ⟨rfl, rfl⟩ rfl CH.nil rfl hf__0 (R_Section_one _) hl5 .none rfl ?_
 intro v6 xs7 hch8
 refine JL.fieldAddr fo_53_0 rfl .none rfl ?_
 refine JL.oneG 0 rfl (fun ho9 => ?_)
 refine JL.storeOwn 1 (cs := [v6]) az_49 rfl ho9.2 rfl (one_cons ho9.1 one_nil) rfl rfl .none ?_
 refine JL.done hQ (JQ.go (JC.seq (JC.region (by rfl) ?_)))
 intro hQ
 refine JL.loadOwn 1 az_53 rfl rfl rfl .none rfl ?_
 refine JL.oneG 0 rfl (fun ho10 => ?_)
 refine JL.storeOwn 0 (cs := [v6, .int .i64 f_.Low, .int .i64 f_.High, .int .i64 f_.Ease.Num, .int .i64 f_.Ease.Den, .int .i64 f_.Rod, .int .i64 f_.Case]) az_53 rfl rfl rfl (one_cons ho10.1 (one_cons rfl (one_cons rfl (one_cons rfl (one_cons rfl (one_cons rfl (one_cons rfl one_nil))))))) rfl rfl .none ?_
 refine JL.done hQ (JQ.go (JC.ret ?_))
 obtain rfl := Option.some.inj hF
 exact JQ.outX rfl (.cell 0 az_53 rfl rfl rfl .nil) ⟨v6, xs7, rfl, rfl, hch8⟩
-- 73 ferrule/frames.ask
def F_frames_ask (n : Nat) (f_ : Frame) (section_ : Int) (r : Int) : Option Int :=
 (F_frames_Check n f_).bind fun y2 => if (y2 != 0) = true then (some y2) else ((F_frames_within n section_ 0 (w64 ((f_.Sections.length : Int) - 1))).bind fun y4 => (if (!y4) = true then (some true) else ((F_frames_within n r f_.Low f_.High).bind fun y9 => some (!y9)) : Option Bool).bind fun p6 => if p6 = true then (some 1) else (some 0))
theorem c_frames_ask (n : Nat) (H : Hp) (f_ : Frame) (f__v0 : Value) (hf__0 : SL H 7 R_Section f__v0 f_.Sections) (section_ : Int) (r : Int) (y : Int) (hF : F_frames_ask n f_ section_ r = some y) : SC Try.prog 73 [.agg [f__v0, .int .i64 f_.Low, .int .i64 f_.High, .int .i64 f_.Ease.Num, .int .i64 f_.Ease.Den, .int .i64 f_.Rod, .int .i64 f_.Case].toArray, .int .i64 section_, .int .i64 r] (.int .i64 y) H := by
 rw [F_frames_ask] at hF
 refine SC.of (N := 29) Try.func73 rfl rfl rfl fun w => ?_
 refine JC.seq (JC.region (by rfl) ?_)
 intro hQ
 refine JL.box (cs := [f__v0, .int .i64 f_.Low, .int .i64 f_.High, .int .i64 f_.Ease.Num, .int .i64 f_.Ease.Den, .int .i64 f_.Rod, .int .i64 f_.Case]) rfl .none rfl ?_
 intro b1
 refine JL.assign .none rfl ?_
 refine JL.done hQ (JQ.go (JC.seq (JC.seq (JC.region (by rfl) ?_))))
 intro hQ
 refine JL.loadOwn 0 az_53 rfl rfl rfl .none rfl ?_
 obtain ⟨y2, hy2, hF⟩ := bind_some hF
 refine JL.callS (c_frames_Check n H f_ f__v0 hf__0 y2 hy2) rfl en_79 .none rfl ?_
 refine JL.assign .none rfl ?_
 refine JL.done hQ (JQ.go (JC.seq (JC.region (by rfl) ?_)))
 intro hQ
 refine JL.move .none rfl ?_
 refine JL.bin rfl rfl rfl .none rfl ?_
 refine JL.done hQ (JQ.go ?_)
 rcases ite_some hF with ⟨hc3, hF⟩ | ⟨hc3, hF⟩
 ·refine JC.cond_t (b := (y2 != 0)) rfl hc3 ?_
  refine JC.seq (JC.region (by rfl) ?_)
  intro hQ
  refine JL.move .none rfl ?_
  refine JL.assign .none rfl ?_
  refine JL.done hQ (JQ.go (JC.ret (JQ.ret_then ?_)))
  obtain rfl := Option.some.inj hF
  exact JQ.outS rfl (.tmp .nil) rfl
 ·refine JC.cond_f (b := (y2 != 0)) rfl hc3 ?_
  refine JC.skip (JQ.go (JC.seq (JC.seq (JC.region (by rfl) ?_))))
  intro hQ
  refine JL.move .none rfl ?_
  refine JL.fieldAddr fo_53_0 rfl .none rfl ?_
  refine JL.loadOwn 0 az_49 rfl rfl rfl .none rfl ?_
  refine JL.lenSL (R := R_Section) ul_49 hf__0 .none rfl ?_
  refine JL.bin rfl rfl rfl .none rfl ?_
  obtain ⟨y4, hy4, hF⟩ := bind_some hF
  refine JL.callS (c_frames_within n H section_ 0 (w64 ((f_.Sections.length : Int) - 1)) y4 hy4) rfl en_124 .none rfl ?_
  refine JL.not rfl .none rfl ?_
  refine JL.move .none rfl ?_
  obtain ⟨p6, hp6, hF⟩ := bind_some hF
  refine JL.cut 8 (fun f => f 28 = .bool p6) ?_ ?_
  ·intro hJ7
   rcases ite_some hp6 with ⟨hc8, hF⟩ | ⟨hc8, hF⟩
   ·skip
    refine JL.skip (.bool rfl rfl rfl hc8) rfl ?_
    refine JL.skip (.bool rfl rfl rfl hc8) rfl ?_
    refine JL.skip (.bool rfl rfl rfl hc8) rfl ?_
    refine JL.skip (.bool rfl rfl rfl hc8) rfl ?_
    refine JL.skip (.bool rfl rfl rfl hc8) rfl ?_
    refine JL.skip (.bool rfl rfl rfl hc8) rfl ?_
    refine JL.skip (.bool rfl rfl rfl hc8) rfl ?_
    refine JL.pick_t (b := (!y4)) rfl hc8 .none rfl ?_
    obtain rfl := Option.some.inj hF
    exact hJ7 _ (rfl)
   ·skip
    refine JL.move (.some rfl rfl rfl hc8) rfl ?_
    refine JL.fieldAddr fo_53_1 rfl (.some rfl rfl rfl hc8) rfl ?_
    refine JL.loadOwn 0 az_3 rfl rfl rfl (.some rfl rfl rfl hc8) rfl ?_
    refine JL.fieldAddr fo_53_2 rfl (.some rfl rfl rfl hc8) rfl ?_
    refine JL.loadOwn 0 az_3 rfl rfl rfl (.some rfl rfl rfl hc8) rfl ?_
    obtain ⟨y9, hy9, hF⟩ := bind_some hF
    refine JL.callS (c_frames_within n H r f_.Low f_.High y9 hy9) rfl en_124 (.some rfl rfl rfl hc8) rfl ?_
    refine JL.not rfl (.some rfl rfl rfl hc8) rfl ?_
    refine JL.pick_f (b := (!y4)) rfl hc8 .none rfl ?_
    obtain rfl := Option.some.inj hF
    exact hJ7 _ (rfl)
  ·rintro f hf28
   refine (JL.norm (i := 28) hf28 ?_)
   refine JL.done hQ (JQ.go ?_)
   rcases ite_some hF with ⟨hc10, hF⟩ | ⟨hc10, hF⟩
   ·refine JC.cond_t (b := p6) rfl hc10 ?_
    refine JC.seq (JC.region (by rfl) ?_)
    intro hQ
    refine JL.assign .none rfl ?_
    refine JL.done hQ (JQ.go (JC.ret (JQ.ret_then ?_)))
    obtain rfl := Option.some.inj hF
    exact JQ.outS rfl (.tmp .nil) rfl
   ·refine JC.cond_f (b := p6) rfl hc10 ?_
    refine JC.skip (JQ.go (JC.seq (JC.region (by rfl) ?_)))
    intro hQ
    refine JL.assign .none rfl ?_
    refine JL.done hQ (JQ.go (JC.ret ?_))
    obtain rfl := Option.some.inj hF
    exact JQ.outS rfl (.tmp .nil) rfl
-- 78 ferrule/frames.reduced
def F_frames_reduced_s1 (n : Nat)  : Int × Int → Option ((Int × Int) ⊕ Int)
 | (a_38, b_39) => if (b_39 != 0) = true then ((nz b_39).bind fun _ => some (Sum.inl (b_39, (a_38.tmod b_39)))) else (some (Sum.inr a_38))
def F_frames_reduced (n : Nat) (f_ : Frac) : Option Frac :=
 (loopO n (F_frames_reduced_s1 n) ((max f_.Num (w64 (-f_.Num))), f_.Den)).bind fun a_23 => (nz a_23).bind fun _ => (nz a_23).bind fun _ => some (Frac.mk (w64 (f_.Num.tdiv a_23)) (w64 (f_.Den.tdiv a_23)))
theorem c_frames_reduced (n : Nat) (H : Hp) (f_ : Frac) (y : Frac) (hF : F_frames_reduced n f_ = some y) : SC Try.prog 78 [.agg [.int .i64 f_.Num, .int .i64 f_.Den].toArray] (.agg [.int .i64 y.Num, .int .i64 y.Den].toArray) H := by
 rw [F_frames_reduced] at hF
 refine SC.of (N := 28) Try.func78 rfl rfl rfl fun w => ?_
 refine JC.seq (JC.region (by rfl) ?_)
 intro hQ
 refine JL.box (cs := [.int .i64 f_.Num, .int .i64 f_.Den]) rfl .none rfl ?_
 intro b1
 refine JL.alloc ze_51 .none rfl ?_
 intro b2
 refine JL.done hQ (JQ.go (JC.seq (JC.draw (by rfl) mo_ (by kernel_rfl) ?_)))
 intro hQ
 refine JL.fieldAddr fo_51_0 rfl .none rfl ?_
 refine JL.loadOwn 1 az_3 rfl rfl rfl .none rfl ?_
 refine JL.fieldAddr fo_51_0 rfl .none rfl ?_
 refine JL.loadOwn 1 az_3 rfl rfl rfl .none rfl ?_
 refine JL.neg rfl .none rfl ?_
 refine JL.max rfl rfl .none rfl ?_
 refine JL.fieldAddr fo_51_1 rfl .none rfl ?_
 refine JL.loadOwn 1 az_3 rfl rfl rfl .none rfl ?_
 refine JL.assign .none rfl ?_
 refine JL.assign .none rfl ?_
 refine JL.doneQ hQ ?_
 refine JQ.go (JC.seq ?_)
 obtain ⟨r25, hlr25, hKr25⟩ := bind_some hF
 refine JC.join (fun (a_23 : Int) H24 f bs gs => f 1 = .pointer (some ⟨b1, 0, none⟩) ∧ f 2 = .pointer (some ⟨b2, 0, none⟩) ∧ f 3 = .int .i64 a_23 ∧ bs = [(b2, .cells [.int .i64 0, .int .i64 0].toArray 51), (b1, .cells [.int .i64 f_.Num, .int .i64 f_.Den].toArray 51)] ∧ gs = [] ∧ HSub H H24 ∧ a_23 = r25) ?_ ?_
 ·skip
  refine JC.block (JC.loop hlr25 (fun (x : Int × Int) H40 f bs gs => match x with | (a_38, b_39) => f 1 = .pointer (some ⟨b1, 0, none⟩) ∧ f 2 = .pointer (some ⟨b2, 0, none⟩) ∧ f 3 = .int .i64 a_38 ∧ f 4 = .int .i64 b_39 ∧ bs = [(b2, .cells [.int .i64 0, .int .i64 0].toArray 51), (b1, .cells [.int .i64 f_.Num, .int .i64 f_.Den].toArray 51)] ∧ gs = [] ∧ HSub H H40) ⟨rfl, rfl, rfl, rfl, rfl, rfl, (HSub.refl _)⟩ ?_)
  rintro ⟨a_38, b_39⟩ x42 H40 f bs gs ⟨hf1, hf2, hf3, hf4, rfl, rfl, hs40⟩ hF hr41
  rw [F_frames_reduced_s1] at hF
  refine (JC.norm (i := 1) hf1 (JC.norm (i := 2) hf2 (JC.norm (i := 3) hf3 (JC.norm (i := 4) hf4 ?_))))
  refine JC.seq (JC.seq (JC.region (by rfl) ?_))
  intro hQ
  refine JL.move .none rfl ?_
  refine JL.bin rfl rfl rfl .none rfl ?_
  refine JL.done hQ (JQ.go ?_)
  rcases ite_some hF with ⟨hc43, hF⟩ | ⟨hc43, hF⟩
  ·refine JC.cond_t (b := (b_39 != 0)) rfl hc43 ?_
   refine JC.skip (JQ.go (JC.block (JC.draw (by rfl) mo_ (by kernel_rfl) ?_)))
   intro hQ
   refine JL.move .none rfl ?_
   refine JL.move .none rfl ?_
   refine JL.move .none rfl ?_
   obtain ⟨u45, hu45, hF⟩ := bind_some hF
   refine JL.div rfl rfl (nz_some hu45) rfl .none rfl ?_
   refine JL.assign .none rfl ?_
   refine JL.assign .none rfl ?_
   refine JL.doneQ hQ ?_
   refine JQ.normal_block ?_
   obtain rfl := Option.some.inj hF
   exact JQ.next rfl ⟨rfl, rfl, rfl, rfl, rfl, rfl, hs40⟩
  ·refine JC.cond_f (b := (b_39 != 0)) rfl hc43 ?_
   refine JC.exit (JQ.exit_then (JQ.exit_then (JQ.exit_block ?_)))
   obtain rfl := Option.some.inj hF
   have ehr41 := hr41 _ rfl
   subst ehr41
   exact JQ.join a_38 ⟨rfl, rfl, rfl, rfl, rfl, hs40, rfl⟩
 ·rintro a_23 H24 f bs gs ⟨hf1, hf2, hf3, rfl, rfl, hs24, rfl⟩
  have hF := hKr25
  try dsimp only at hF
  refine (JQ.norm (i := 1) hf1 (JQ.norm (i := 2) hf2 (JQ.norm (i := 3) hf3 ?_)))
  refine JQ.go (JC.seq ?_)
  obtain ⟨u48, hu48, hF⟩ := bind_some hF
  obtain ⟨u49, hu49, hF⟩ := bind_some hF
  refine JC.mixed 9 10 #[false, false, false, false, false, false, false, false, false, false] [(b2, .cells [.int .i64 0, .int .i64 0].toArray 51), (b1, .cells [.int .i64 f_.Num, .int .i64 f_.Den].toArray 51)] (by rfl) mo_ (by kernel_rfl) (by kernel_rfl) ?_
  intro hQ hE
  refine JA.take 0 (listed' := #[true, false, false, false, false, false, false, false, false, false]) hQ rfl (by kernel_rfl) (by kernel_rfl) (by kernel_rfl) (by kernel_rfl) (by kernel_rfl) hE (HSub.refl _) (.cons_cons _ (.cons_cons _ (List.nil_sublist _))) ?_
  refine JL.fieldAddr fo_51_0 rfl .none rfl ?_
  refine JA.cont ?_
  refine JA.take 1 (listed' := #[true, true, false, false, false, false, false, false, false, false]) hQ rfl (by kernel_rfl) (by kernel_rfl) (by kernel_rfl) (by kernel_rfl) (by kernel_rfl) hE (HSub.refl _) (.cons_cons _ (.cons_cons _ (List.nil_sublist _))) ?_
  refine JL.loadOwn 1 az_3 rfl rfl rfl .none rfl ?_
  refine JA.cont ?_
  refine JA.take 2 (listed' := #[true, true, true, false, false, false, false, false, false, false]) hQ rfl (by kernel_rfl) (by kernel_rfl) (by kernel_rfl) (by kernel_rfl) (by kernel_rfl) hE (HSub.refl _) (.cons_cons _ (.cons_cons _ (List.nil_sublist _))) ?_
  refine JL.move .none rfl ?_
  refine JA.cont ?_
  refine JA.take 3 (listed' := #[true, true, true, true, false, false, false, false, false, false]) hQ rfl (by kernel_rfl) (by kernel_rfl) (by kernel_rfl) (by kernel_rfl) (by kernel_rfl) hE (HSub.refl _) (.cons_cons _ (.cons_cons _ (List.nil_sublist _))) ?_
  refine JL.div rfl rfl (nz_some hu48) rfl .none rfl ?_
  refine JA.cont ?_
  refine JA.take 4 (listed' := #[true, true, true, true, true, false, false, false, false, false]) hQ rfl (by kernel_rfl) (by kernel_rfl) (by kernel_rfl) (by kernel_rfl) (by kernel_rfl) hE (HSub.refl _) (.cons_cons _ (.cons_cons _ (List.nil_sublist _))) ?_
  refine JL.fieldAddr fo_51_1 rfl .none rfl ?_
  refine JA.cont ?_
  refine JA.take 5 (listed' := #[true, true, true, true, true, true, false, false, false, false]) hQ rfl (by kernel_rfl) (by kernel_rfl) (by kernel_rfl) (by kernel_rfl) (by kernel_rfl) hE (HSub.refl _) (.cons_cons _ (.cons_cons _ (List.nil_sublist _))) ?_
  refine JL.loadOwn 1 az_3 rfl rfl rfl .none rfl ?_
  refine JA.cont ?_
  refine JA.take 6 (listed' := #[true, true, true, true, true, true, true, false, false, false]) hQ rfl (by kernel_rfl) (by kernel_rfl) (by kernel_rfl) (by kernel_rfl) (by kernel_rfl) hE (HSub.refl _) (.cons_cons _ (.cons_cons _ (List.nil_sublist _))) ?_
  refine JL.move .none rfl ?_
  refine JA.cont ?_
  refine JA.take 7 (listed' := #[true, true, true, true, true, true, true, true, false, false]) hQ rfl (by kernel_rfl) (by kernel_rfl) (by kernel_rfl) (by kernel_rfl) (by kernel_rfl) hE (HSub.refl _) (.cons_cons _ (.cons_cons _ (List.nil_sublist _))) ?_
  refine JL.div rfl rfl (nz_some hu49) rfl .none rfl ?_
  refine JA.cont ?_
  refine JA.take 8 (listed' := #[true, true, true, true, true, true, true, true, true, false]) hQ rfl (by kernel_rfl) (by kernel_rfl) (by kernel_rfl) (by kernel_rfl) (by kernel_rfl) hE (HSub.refl _) (.cons_cons _ (.cons_cons _ (List.nil_sublist _))) ?_
  refine JL.build (l := [.int .i64 (w64 (f_.Num.tdiv a_23)), .int .i64 (w64 (f_.Den.tdiv a_23))]) (by kernel_rfl) .none rfl ?_
  refine JA.cont ?_
  refine JA.many [9] (by kernel_rfl) (by simp) (all_one ⟨_, #[true, true, true, true, true, true, true, true, true, true], rfl, (by kernel_rfl), ?_⟩)
  refine JL.storeOwn 0 (cs := [.int .i64 (w64 (f_.Num.tdiv a_23)), .int .i64 (w64 (f_.Den.tdiv a_23))]) az_51 rfl rfl rfl (one_cons rfl (one_cons rfl one_nil)) rfl rfl .none ?_
  refine JA.sink (by kernel_rfl) ?_
  refine JA.done hQ (by kernel_rfl) ?_
  refine JQ.go (JC.ret ?_)
  obtain rfl := Option.some.inj hF
  exact JQ.outS rfl (.cell 0 az_51 rfl rfl rfl .nil) rfl
-- 28 ferrule/frames.Cosine
def F_frames_Cosine_s1 (n : Nat) (y6 : Int) : (Int × Int × Int × Int) → frames_sides → Option ((Int × Int × Int × Int) ⊕ Unit)
 | (z_82, z_83, z_84, z_85), x17 => (F_frames_sides_cosine n x17 y6).bind fun y91 => (if (z_85 == 0) = true then (some true) else ((F_frames_compare n y91 (Frac.mk z_84 z_85)).bind fun y97 => some (decide (y97 < 0))) : Option Bool).bind fun p94 => (if p94 = true then (some (y91.Num, y91.Den)) else (some (z_84, z_85))).bind fun r102 => match r102 with | (z_99, z_100) => (if (z_83 == 0) = true then (some true) else ((F_frames_compare n y91 (Frac.mk z_82 z_83)).bind fun y108 => some (decide (0 < y108))) : Option Bool).bind fun p105 => (if p105 = true then (some (y91.Num, y91.Den)) else (some (z_82, z_83))).bind fun r113 => match r113 with | (z_110, z_111) => some (Sum.inl (z_110, z_111, z_99, z_100))
def F_frames_Cosine (n : Nat) (f_ : Frame) (section_ : Int) (r : Int) : Option (Frac × Frac × Int) :=
 (F_frames_ask n f_ section_ r).bind fun y4 => if (y4 != 0) = true then (some ((Frac.mk 0 0), (Frac.mk 0 0), y4)) else ((F_frames_distance n f_ section_ r).bind fun y6 => if (y6 == 0) = true then (some ((Frac.mk 0 0), (Frac.mk 0 0), 3)) else ((geti f_.Sections section_).bind fun y9 => (F_frames_truths n y9).bind fun y14 => (I_frames_truths_1 n y14 (F_frames_Cosine_s1 n y6) (0, 0, 0, 0)).bind fun r87 => match r87 with | .inl (z_82, z_83, z_84, z_85) => (F_frames_reduced n (Frac.mk z_84 z_85)).bind fun y118 => (F_frames_reduced n (Frac.mk z_82 z_83)).bind fun y119 => some (y118, y119, 0) | .inr _ => none))
theorem c_frames_Cosine (n : Nat) (H : Hp) (f_ : Frame) (f__v0 : Value) (hf__0 : SL H 7 R_Section f__v0 f_.Sections) (section_ : Int) (r : Int) (y : Frac × Frac × Int) (hF : F_frames_Cosine n f_ section_ r = some y) : SC Try.prog 28 [.agg [f__v0, .int .i64 f_.Low, .int .i64 f_.High, .int .i64 f_.Ease.Num, .int .i64 f_.Ease.Den, .int .i64 f_.Rod, .int .i64 f_.Case].toArray, .int .i64 section_, .int .i64 r] (.tuple [.agg [.int .i64 y.1.Num, .int .i64 y.1.Den].toArray, .agg [.int .i64 y.2.1.Num, .int .i64 y.2.1.Den].toArray, .int .i64 y.2.2].toArray) H := by
 rw [F_frames_Cosine] at hF
 refine SC.ofM (N := 64) Try.func28 rfl rfl rfl fun w => ?_
 refine JC.seq (JC.region (by rfl) ?_)
 intro hQ
 refine JL.box (cs := [f__v0, .int .i64 f_.Low, .int .i64 f_.High, .int .i64 f_.Ease.Num, .int .i64 f_.Ease.Den, .int .i64 f_.Rod, .int .i64 f_.Case]) rfl .none rfl ?_
 intro b1
 refine JL.alloc ze_51 .none rfl ?_
 intro b2
 refine JL.alloc ze_51 .none rfl ?_
 intro b3
 refine JL.assign .none rfl ?_
 refine JL.done hQ (JQ.go (JC.seq (JC.seq (JC.region (by rfl) ?_))))
 intro hQ
 refine JL.loadOwn 2 az_53 rfl rfl rfl .none rfl ?_
 refine JL.move .none rfl ?_
 refine JL.move .none rfl ?_
 obtain ⟨y4, hy4, hF⟩ := bind_some hF
 refine JL.callS (c_frames_ask n H f_ f__v0 hf__0 section_ r y4 hy4) rfl en_73 .none rfl ?_
 refine JL.assign .none rfl ?_
 refine JL.done hQ (JQ.go (JC.seq (JC.region (by rfl) ?_)))
 intro hQ
 refine JL.move .none rfl ?_
 refine JL.bin rfl rfl rfl .none rfl ?_
 refine JL.done hQ (JQ.go ?_)
 rcases ite_some hF with ⟨hc5, hF⟩ | ⟨hc5, hF⟩
 ·refine JC.cond_t (b := (y4 != 0)) rfl hc5 ?_
  refine JC.seq (JC.region (by rfl) ?_)
  intro hQ
  refine JL.build (l := [.int .i64 0, .int .i64 0]) (by kernel_rfl) .none rfl ?_
  refine JL.build (l := [.int .i64 0, .int .i64 0]) (by kernel_rfl) .none rfl ?_
  refine JL.move .none rfl ?_
  refine JL.storeOwn 1 (cs := [.int .i64 0, .int .i64 0]) az_51 rfl rfl rfl (one_cons rfl (one_cons rfl one_nil)) rfl rfl .none ?_
  refine JL.storeOwn 0 (cs := [.int .i64 0, .int .i64 0]) az_51 rfl rfl rfl (one_cons rfl (one_cons rfl one_nil)) rfl rfl .none ?_
  refine JL.assign .none rfl ?_
  refine JL.done hQ (JQ.go (JC.fresh (fun f => f 6 = .pointer (some ⟨b2, 0, none⟩) ∧ f 7 = .pointer (some ⟨b3, 0, none⟩) ∧ f 8 = .int .i64 y4) ⟨rfl, rfl, rfl⟩ ?_))
  rintro f ⟨hf6, hf7, hf8⟩
  refine (JC.norm (i := 6) hf6 (JC.norm (i := 7) hf7 (JC.norm (i := 8) hf8 ?_)))
  refine JC.ret (JQ.ret_then ?_)
  obtain rfl := Option.some.inj hF
  exact JQ.outSM rfl .nil (.cell 1 az_51 rfl rfl rfl (.cell 0 az_51 rfl rfl rfl (.tmp .nil))) rfl
 ·refine JC.cond_f (b := (y4 != 0)) rfl hc5 ?_
  refine JC.skip (JQ.go (JC.fresh (fun f => f 1 = .int .i64 section_ ∧ f 2 = .int .i64 r ∧ f 3 = .pointer (some ⟨b1, 0, none⟩) ∧ f 6 = .pointer (some ⟨b2, 0, none⟩) ∧ f 7 = .pointer (some ⟨b3, 0, none⟩) ∧ f 8 = .int .i64 0) ⟨rfl, rfl, rfl, rfl, rfl, rfl⟩ ?_))
  rintro f ⟨hf1, hf2, hf3, hf6, hf7, hf8⟩
  refine (JC.norm (i := 1) hf1 (JC.norm (i := 2) hf2 (JC.norm (i := 3) hf3 (JC.norm (i := 6) hf6 (JC.norm (i := 7) hf7 (JC.norm (i := 8) hf8 ?_))))))
  refine JC.seq (JC.region (by rfl) ?_)
  intro hQ
  refine JL.loadOwn 2 az_53 rfl rfl rfl .none rfl ?_
  refine JL.move .none rfl ?_
  refine JL.move .none rfl ?_
  obtain ⟨y6, hy6, hF⟩ := bind_some hF
  refine JL.callS (c_frames_distance n H f_ f__v0 hf__0 section_ r y6 hy6) rfl en_74 .none rfl ?_
  refine JL.alloc ze_3 .none rfl ?_
  intro b7
  refine JL.storeOwn 0 (cs := [.int .i64 y6]) az_3 rfl rfl rfl (one_cons rfl one_nil) rfl rfl .none ?_
  refine JL.done hQ (JQ.go (JC.seq (JC.seq (JC.region (by rfl) ?_))))
  intro hQ
  refine JL.loadOwn 0 az_3 rfl rfl rfl .none rfl ?_
  refine JL.bin rfl rfl rfl .none rfl ?_
  refine JL.done hQ (JQ.go ?_)
  rcases ite_some hF with ⟨hc8, hF⟩ | ⟨hc8, hF⟩
  ·refine JC.cond_t (b := (y6 == 0)) rfl hc8 ?_
   refine JC.seq (JC.region (by rfl) ?_)
   intro hQ
   refine JL.build (l := [.int .i64 0, .int .i64 0]) (by kernel_rfl) .none rfl ?_
   refine JL.build (l := [.int .i64 0, .int .i64 0]) (by kernel_rfl) .none rfl ?_
   refine JL.storeOwn 2 (cs := [.int .i64 0, .int .i64 0]) az_51 rfl rfl rfl (one_cons rfl (one_cons rfl one_nil)) rfl rfl .none ?_
   refine JL.storeOwn 1 (cs := [.int .i64 0, .int .i64 0]) az_51 rfl rfl rfl (one_cons rfl (one_cons rfl one_nil)) rfl rfl .none ?_
   refine JL.assign .none rfl ?_
   refine JL.done hQ (JQ.go (JC.fresh (fun f => f 6 = .pointer (some ⟨b2, 0, none⟩) ∧ f 7 = .pointer (some ⟨b3, 0, none⟩) ∧ f 8 = .int .i64 3) ⟨rfl, rfl, rfl⟩ ?_))
   rintro f ⟨hf6, hf7, hf8⟩
   refine (JC.norm (i := 6) hf6 (JC.norm (i := 7) hf7 (JC.norm (i := 8) hf8 ?_)))
   refine JC.ret (JQ.ret_then ?_)
   obtain rfl := Option.some.inj hF
   exact JQ.outSM rfl .nil (.cell 2 az_51 rfl rfl rfl (.cell 1 az_51 rfl rfl rfl (.tmp .nil))) rfl
  ·refine JC.cond_f (b := (y6 == 0)) rfl hc8 ?_
   refine JC.skip (JQ.go (JC.seq (JC.seq (JC.region (by rfl) ?_))))
   intro hQ
   refine JL.fieldAddr fo_53_0 rfl .none rfl ?_
   refine JL.loadOwn 3 az_49 rfl rfl rfl .none rfl ?_
   refine JL.move .none rfl ?_
   obtain ⟨y9, hy9, hF⟩ := bind_some hF
   refine JL.indexSL (R := R_Section) sl_49 hf__0 rfl hy9 .none rfl ?_
   rintro b10 o11 cs12 hc13 - rfl
   refine JL.loadH 0 az_68 rfl hc13 rfl .none rfl ?_
   obtain ⟨y14, hy14, hF⟩ := bind_some hF
   refine JL.callH (c_frames_truths n H y9 y14 hy14) rfl en_75 .none rfl ?_
   rintro H15 vv16 hs15 ⟨y14_b0, rfl, hy14_b0⟩
   refine JL.done hQ (JQ.go (JC.fresh (fun f => f 6 = .pointer (some ⟨b2, 0, none⟩) ∧ f 7 = .pointer (some ⟨b3, 0, none⟩) ∧ f 8 = .int .i64 0 ∧ f 10 = .pointer (some ⟨b7, 0, none⟩) ∧ f 35 = .func (.func 125) #[] [.pointer (some ⟨y14_b0, 0, none⟩)].toArray) ⟨rfl, rfl, rfl, rfl, rfl⟩ ?_))
   rintro f ⟨hf6, hf7, hf8, hf10, hf35⟩
   refine (JC.norm (i := 6) hf6 (JC.norm (i := 7) hf7 (JC.norm (i := 8) hf8 (JC.norm (i := 10) hf10 (JC.norm (i := 35) hf35 ?_)))))
   refine JC.block ?_
   obtain ⟨r87, hl88, hF⟩ := bind_some hF
   refine JC.mask [true, true, true, false] [] ?_
   refine JC.rangeFunc (ρ := Unit) (V := (VPlain fun (x : frames_sides) => .agg [.int .i64 x.arm, .int .i64 x.stretch].toArray)) (F := fun _ _ step s => I_frames_truths_1 n y14 step s) rfl en_125 (it_frames_truths_1 n H15 y14 y14_b0 hy14_b0) rfl hl88 (fun (z : Int × Int × Int × Int) H86 fr gs => match z with | (z_82, z_83, z_84, z_85) => fr = [(b7, .cells [.int .i64 y6].toArray 3), (b3, .cells [.int .i64 z_82, .int .i64 z_83].toArray 51), (b2, .cells [.int .i64 z_84, .int .i64 z_85].toArray 51)] ∧ gs = [] ∧ HSub H15 H86) (fun _ _ _ _ _ => False) ⟨rfl, rfl, (HSub.refl _)⟩ ?_ ?_ ?_
   ·rintro l18 ⟨z_82, z_83, z_84, z_85⟩ x17 y89 v19 own T20 H86 fr gs ⟨rfl, rfl, hs86⟩ hF ⟨rfl, rfl⟩ -
    rw [F_frames_Cosine_s1] at hF
    refine JC.region (by rfl) ?_
    intro hQ
    refine JL.alloc ze_147 .none rfl ?_
    intro b90
    refine JL.storeOwn 0 (cs := [.int .i64 x17.arm, .int .i64 x17.stretch]) az_147 rfl rfl rfl (one_cons rfl (one_cons rfl one_nil)) rfl rfl .none ?_
    refine JL.done hQ (JQ.assigned [(b90, .cells [.int .i64 x17.arm, .int .i64 x17.stretch].toArray 147), (b7, .cells [.int .i64 y6].toArray 3), (b3, .cells [.int .i64 z_82, .int .i64 z_83].toArray 51), (b2, .cells [.int .i64 z_84, .int .i64 z_85].toArray 51)] (fun T21 => ?_))
    refine JC.block (JC.seq (JC.region (by rfl) ?_))
    intro hQ
    refine JL.loadOwn 0 az_147 rfl rfl rfl .none rfl ?_
    refine JL.loadOwn 1 az_3 rfl rfl rfl .none rfl ?_
    obtain ⟨y91, hy91, hF⟩ := bind_some hF
    refine JL.callS (c_frames_sides_cosine n H86 x17 y6 y91 hy91) rfl en_76 .none rfl ?_
    refine JL.alloc ze_51 .none rfl ?_
    intro b92
    refine JL.storeOwn 0 (cs := [.int .i64 y91.Num, .int .i64 y91.Den]) az_51 rfl rfl rfl (one_cons rfl (one_cons rfl one_nil)) rfl rfl .none ?_
    refine JL.done hQ (JQ.go (JC.seq (JC.seq (JC.region (by rfl) ?_))))
    intro hQ
    refine JL.fieldAddr fo_51_1 rfl .none rfl ?_
    refine JL.loadOwn 4 az_3 rfl rfl rfl .none rfl ?_
    refine JL.bin rfl rfl rfl .none rfl ?_
    refine JL.move .none rfl ?_
    obtain ⟨p94, hp94, hF⟩ := bind_some hF
    refine JL.cut 5 (fun f => f 6 = .pointer (some ⟨b2, 0, none⟩) ∧ f 7 = .pointer (some ⟨b3, 0, none⟩) ∧ f 12 = .pointer (some ⟨b92, 0, none⟩) ∧ f 48 = .bool p94) ?_ ?_
    ·intro hJ95
     rcases ite_some hp94 with ⟨hc96, hF⟩ | ⟨hc96, hF⟩
     ·skip
      refine JL.skip (.bool rfl rfl rfl hc96) rfl ?_
      refine JL.skip (.bool rfl rfl rfl hc96) rfl ?_
      refine JL.skip (.bool rfl rfl rfl hc96) rfl ?_
      refine JL.skip (.bool rfl rfl rfl hc96) rfl ?_
      refine JL.pick_t (b := (z_85 == 0)) rfl hc96 .none rfl ?_
      obtain rfl := Option.some.inj hF
      exact hJ95 _ ⟨rfl, rfl, rfl, rfl⟩
     ·skip
      refine JL.loadOwn 0 az_51 rfl rfl rfl (.some rfl rfl rfl hc96) rfl ?_
      refine JL.loadOwn 4 az_51 rfl rfl rfl (.some rfl rfl rfl hc96) rfl ?_
      obtain ⟨y97, hy97, hF⟩ := bind_some hF
      refine JL.callS (c_frames_compare n H86 y91 (Frac.mk z_84 z_85) y97 hy97) rfl en_77 (.some rfl rfl rfl hc96) rfl ?_
      refine JL.bin rfl rfl rfl (.some rfl rfl rfl hc96) rfl ?_
      refine JL.pick_f (b := (z_85 == 0)) rfl hc96 .none rfl ?_
      obtain rfl := Option.some.inj hF
      exact hJ95 _ ⟨rfl, rfl, rfl, rfl⟩
    ·rintro f ⟨hf6, hf7, hf12, hf48⟩
     refine (JL.norm (i := 6) hf6 (JL.norm (i := 7) hf7 (JL.norm (i := 12) hf12 (JL.norm (i := 48) hf48 ?_))))
     refine JL.done hQ (JQ.go ?_)
     obtain ⟨r102, hlr102, hKr102⟩ := bind_some hF
     refine JC.join (fun (x : Int × Int) H101 f bs gs => match x with | (z_99, z_100) => f 7 = .pointer (some ⟨b3, 0, none⟩) ∧ f 12 = .pointer (some ⟨b92, 0, none⟩) ∧ bs = ((b92, .cells [.int .i64 y91.Num, .int .i64 y91.Den].toArray 51) :: (b7, .cells [.int .i64 y6].toArray 3) :: (b3, .cells [.int .i64 z_82, .int .i64 z_83].toArray 51) :: (b2, .cells [.int .i64 z_99, .int .i64 z_100].toArray 51) :: T21) ∧ gs = [] ∧ HSub H86 H101 ∧ (z_99, z_100) = r102) ?_ ?_
     ·have hF := hlr102
      rcases ite_some hF with ⟨hc103, hF⟩ | ⟨hc103, hF⟩
      ·refine JC.cond_t (b := p94) rfl hc103 ?_
       refine JC.region (by rfl) ?_
       intro hQ
       refine JL.loadOwn 0 az_51 rfl rfl rfl .none rfl ?_
       refine JL.storeOwn 4 (cs := [.int .i64 y91.Num, .int .i64 y91.Den]) az_51 rfl rfl rfl (one_cons rfl (one_cons rfl one_nil)) rfl rfl .none ?_
       refine JL.done hQ ?_
       obtain rfl := Option.some.inj hF
       refine JQ.mask [true, false, true, true, true] [] ?_
       exact JQ.join (y91.Num, y91.Den) ⟨rfl, rfl, rfl, rfl, (HSub.refl _), rfl⟩
      ·refine JC.cond_f (b := p94) rfl hc103 ?_
       refine JC.skip ?_
       obtain rfl := Option.some.inj hF
       refine JQ.mask [true, false, true, true, true] [] ?_
       exact JQ.join (z_84, z_85) ⟨rfl, rfl, rfl, rfl, (HSub.refl _), rfl⟩
     ·rintro ⟨z_99, z_100⟩ H101 f bs gs ⟨hf7, hf12, rfl, rfl, hs101, rfl⟩
      have hF := hKr102
      try dsimp only at hF
      refine (JQ.norm (i := 7) hf7 (JQ.norm (i := 12) hf12 ?_))
      refine JQ.go (JC.seq (JC.region (by rfl) ?_))
      intro hQ
      refine JL.fieldAddr fo_51_1 rfl .none rfl ?_
      refine JL.loadOwn 2 az_3 rfl rfl rfl .none rfl ?_
      refine JL.bin rfl rfl rfl .none rfl ?_
      refine JL.move .none rfl ?_
      obtain ⟨p105, hp105, hF⟩ := bind_some hF
      refine JL.cut 5 (fun f => f 7 = .pointer (some ⟨b3, 0, none⟩) ∧ f 12 = .pointer (some ⟨b92, 0, none⟩) ∧ f 58 = .bool p105) ?_ ?_
      ·intro hJ106
       rcases ite_some hp105 with ⟨hc107, hF⟩ | ⟨hc107, hF⟩
       ·skip
        refine JL.skip (.bool rfl rfl rfl hc107) rfl ?_
        refine JL.skip (.bool rfl rfl rfl hc107) rfl ?_
        refine JL.skip (.bool rfl rfl rfl hc107) rfl ?_
        refine JL.skip (.bool rfl rfl rfl hc107) rfl ?_
        refine JL.pick_t (b := (z_83 == 0)) rfl hc107 .none rfl ?_
        obtain rfl := Option.some.inj hF
        exact hJ106 _ ⟨rfl, rfl, rfl⟩
       ·skip
        refine JL.loadOwn 0 az_51 rfl rfl rfl (.some rfl rfl rfl hc107) rfl ?_
        refine JL.loadOwn 2 az_51 rfl rfl rfl (.some rfl rfl rfl hc107) rfl ?_
        obtain ⟨y108, hy108, hF⟩ := bind_some hF
        refine JL.callS (c_frames_compare n H101 y91 (Frac.mk z_82 z_83) y108 hy108) rfl en_77 (.some rfl rfl rfl hc107) rfl ?_
        refine JL.bin rfl rfl rfl (.some rfl rfl rfl hc107) rfl ?_
        refine JL.pick_f (b := (z_83 == 0)) rfl hc107 .none rfl ?_
        obtain rfl := Option.some.inj hF
        exact hJ106 _ ⟨rfl, rfl, rfl⟩
      ·rintro f ⟨hf7, hf12, hf58⟩
       refine (JL.norm (i := 7) hf7 (JL.norm (i := 12) hf12 (JL.norm (i := 58) hf58 ?_)))
       refine JL.done hQ (JQ.go ?_)
       obtain ⟨r113, hlr113, hKr113⟩ := bind_some hF
       refine JC.join (fun (x : Int × Int) H112 f bs gs => match x with | (z_110, z_111) => bs = ((b7, .cells [.int .i64 y6].toArray 3) :: (b3, .cells [.int .i64 z_110, .int .i64 z_111].toArray 51) :: (b2, .cells [.int .i64 z_99, .int .i64 z_100].toArray 51) :: T21) ∧ gs = [] ∧ HSub H101 H112 ∧ (z_110, z_111) = r113) ?_ ?_
       ·have hF := hlr113
        rcases ite_some hF with ⟨hc114, hF⟩ | ⟨hc114, hF⟩
        ·refine JC.cond_t (b := p105) rfl hc114 ?_
         refine JC.region (by rfl) ?_
         intro hQ
         refine JL.loadOwn 0 az_51 rfl rfl rfl .none rfl ?_
         refine JL.storeOwn 2 (cs := [.int .i64 y91.Num, .int .i64 y91.Den]) az_51 rfl rfl rfl (one_cons rfl (one_cons rfl one_nil)) rfl rfl .none ?_
         refine JL.done hQ ?_
         obtain rfl := Option.some.inj hF
         refine JQ.mask [false, true, true, true] [] ?_
         exact JQ.join (y91.Num, y91.Den) ⟨rfl, rfl, (HSub.refl _), rfl⟩
        ·refine JC.cond_f (b := p105) rfl hc114 ?_
         refine JC.skip ?_
         obtain rfl := Option.some.inj hF
         refine JQ.mask [false, true, true, true] [] ?_
         exact JQ.join (z_82, z_83) ⟨rfl, rfl, (HSub.refl _), rfl⟩
       ·rintro ⟨z_110, z_111⟩ H112 f bs gs ⟨rfl, rfl, hs112, rfl⟩
        have hF := hKr113
        try dsimp only at hF
        refine JQ.normal_block ?_
        obtain rfl := Option.some.inj hF
        refine JQ.round rfl [(b7, .cells [.int .i64 y6].toArray 3), (b3, .cells [.int .i64 z_110, .int .i64 z_111].toArray 51), (b2, .cells [.int .i64 z_99, .int .i64 z_100].toArray 51)] (HSub.trans hs101 hs112) ?_
        exact ⟨rfl, rfl, (HSub.trans hs86 (HSub.trans hs101 hs112))⟩
   ·rintro D115 ⟨z_82, z_83, z_84, z_85⟩ H86 fr gs rfl ⟨rfl, rfl, hs86⟩ -
    try dsimp only at hF
    refine JQ.normal_block (JQ.go (JC.seq ?_))
    obtain ⟨y118, hy118, hF⟩ := bind_some hF
    obtain ⟨y119, hy119, hF⟩ := bind_some hF
    refine JC.mixed 4 7 #[false, false, false, false, false, false, false] [(b7, .cells [.int .i64 y6].toArray 3), (b3, .cells [.int .i64 z_82, .int .i64 z_83].toArray 51), (b2, .cells [.int .i64 z_84, .int .i64 z_85].toArray 51), (D115, .deferred (some []))] (by rfl) mo_ (by kernel_rfl) (by kernel_rfl) ?_
    intro hQ hE
    refine JA.cut 4 #[true, true, true, false, false, false, false] (fun H120 f bs gs => f 6 = .pointer (some ⟨b2, 0, none⟩) ∧ f 7 = .pointer (some ⟨b3, 0, none⟩) ∧ f 8 = .int .i64 0 ∧ f 61 = .agg [.int .i64 y118.Num, .int .i64 y118.Den].toArray ∧ f 62 = .agg [.int .i64 z_82, .int .i64 z_83].toArray ∧ bs = [(b7, .cells [.int .i64 y6].toArray 3), (b3, .cells [.int .i64 z_82, .int .i64 z_83].toArray 51), (b2, .cells [.int .i64 z_84, .int .i64 z_85].toArray 51), (D115, .deferred (some []))] ∧ gs = [] ∧ HSub H86 H120) ?_ ?_
    ·rintro H120 f bs gs ⟨hf6, hf7, hf8, hf61, hf62, rfl, rfl, hs120⟩
     refine (JA.norm (i := 6) hf6 (JA.norm (i := 7) hf7 (JA.norm (i := 8) hf8 (JA.norm (i := 61) hf61 (JA.norm (i := 62) hf62 ?_)))))
     refine JA.many [3] (by kernel_rfl) (by simp) (all_one ⟨_, #[true, true, true, true, false, false, false], rfl, (by kernel_rfl), ?_⟩)
     refine JL.callS (c_frames_reduced n H120 (Frac.mk z_82 z_83) y119 hy119) rfl en_78 .none rfl ?_
     refine JA.after hE hs120 (.cons_cons _ (.cons_cons _ (.cons_cons _ (.cons_cons _ (List.nil_sublist _))))) ?_
     refine JA.many [4] (by kernel_rfl) (by simp) (all_one ⟨_, #[true, true, true, true, true, false, false], rfl, (by kernel_rfl), ?_⟩)
     refine JL.storeOwn 2 (cs := [.int .i64 y118.Num, .int .i64 y118.Den]) az_51 rfl rfl rfl (one_cons rfl (one_cons rfl one_nil)) rfl rfl .none ?_
     refine JA.sink (by kernel_rfl) ?_
     refine JA.many [5] (by kernel_rfl) (by simp) (all_one ⟨_, #[true, true, true, true, true, true, false], rfl, (by kernel_rfl), ?_⟩)
     refine JL.storeOwn 1 (cs := [.int .i64 y119.Num, .int .i64 y119.Den]) az_51 rfl rfl rfl (one_cons rfl (one_cons rfl one_nil)) rfl rfl .none ?_
     refine JA.sink (by kernel_rfl) ?_
     refine JA.many [6] (by kernel_rfl) (by simp) (all_one ⟨_, #[true, true, true, true, true, true, true], rfl, (by kernel_rfl), ?_⟩)
     refine JL.assign .none rfl ?_
     refine JA.sink (by kernel_rfl) ?_
     refine JA.done hQ (by kernel_rfl) ?_
     refine JQ.go (JC.ret ?_)
     obtain rfl := Option.some.inj hF
     exact JQ.outSM rfl (.cons 3 rfl .nil) (.cell 2 az_51 rfl rfl rfl (.cell 1 az_51 rfl rfl rfl (.tmp .nil))) rfl
    intro nd119_0
    refine JA.take 0 (listed' := #[true, false, false, false, false, false, false]) hQ rfl (by kernel_rfl) (by kernel_rfl) (by kernel_rfl) (by kernel_rfl) (by kernel_rfl) hE (HSub.refl _) (.cons_cons _ (.cons_cons _ (.cons_cons _ (.cons_cons _ (List.nil_sublist _))))) ?_
    refine JL.loadOwn 2 az_51 rfl rfl rfl .none rfl ?_
    refine JA.cont ?_
    refine JA.many [1, 2] (by kernel_rfl) (by simp) (all_cons ⟨_, #[true, true, false, false, false, false, false], rfl, (by kernel_rfl), ?_⟩ (all_one ⟨_, #[true, false, true, false, false, false, false], rfl, (by kernel_rfl), ?_⟩))
    ·skip
     refine JL.callS (c_frames_reduced n H86 (Frac.mk z_84 z_85) y118 hy118) rfl en_78 .none rfl ?_
     refine JA.after hE (HSub.refl _) (.cons_cons _ (.cons_cons _ (.cons_cons _ (.cons_cons _ (List.nil_sublist _))))) ?_
     refine JA.many [2] (by kernel_rfl) (by simp) (all_one ⟨_, #[true, true, true, false, false, false, false], rfl, (by kernel_rfl), ?_⟩)
     refine JL.loadOwn 1 az_51 rfl rfl rfl .none rfl ?_
     refine JA.after hE (HSub.refl _) (.cons_cons _ (.cons_cons _ (.cons_cons _ (.cons_cons _ (List.nil_sublist _))))) ?_
     exact nd119_0 _ _ _ _ ⟨rfl, rfl, rfl, rfl, rfl, rfl, rfl, (HSub.refl _)⟩
    ·skip
     refine JL.loadOwn 1 az_51 rfl rfl rfl .none rfl ?_
     refine JA.after hE (HSub.refl _) (.cons_cons _ (.cons_cons _ (.cons_cons _ (.cons_cons _ (List.nil_sublist _))))) ?_
     refine JA.many [1] (by kernel_rfl) (by simp) (all_one ⟨_, #[true, true, true, false, false, false, false], rfl, (by kernel_rfl), ?_⟩)
     refine JL.callS (c_frames_reduced n H86 (Frac.mk z_84 z_85) y118 hy118) rfl en_78 .none rfl ?_
     refine JA.after hE (HSub.refl _) (.cons_cons _ (.cons_cons _ (.cons_cons _ (.cons_cons _ (List.nil_sublist _))))) ?_
     exact nd119_0 _ _ _ _ ⟨rfl, rfl, rfl, rfl, rfl, rfl, rfl, (HSub.refl _)⟩
   ·rintro _ _ _ _ _ _ _ h; exact h.elim
-- 29 ferrule/ferruleref01.Less
def F_ref01_Less (n : Nat) (a : Frac) (b : Frac) : Option Bool :=
 some (decide ((w64 (a.Num * b.Den)) < (w64 (b.Num * a.Den))))
theorem c_ref01_Less (n : Nat) (H : Hp) (a : Frac) (b : Frac) (y : Bool) (hF : F_ref01_Less n a b = some y) : SC Try.prog 29 [.agg [.int .i64 a.Num, .int .i64 a.Den].toArray, .agg [.int .i64 b.Num, .int .i64 b.Den].toArray] (.bool y) H := by
 rw [F_ref01_Less] at hF
 refine SC.of (N := 16) Try.func29 rfl rfl rfl fun w => ?_
 refine JC.seq (JC.region (by rfl) ?_)
 intro hQ
 refine JL.box (cs := [.int .i64 a.Num, .int .i64 a.Den]) rfl .none rfl ?_
 intro b1
 refine JL.box (cs := [.int .i64 b.Num, .int .i64 b.Den]) rfl .none rfl ?_
 intro b2
 refine JL.assign .none rfl ?_
 refine JL.done hQ (JQ.go (JC.seq (JC.region (by rfl) ?_)))
 intro hQ
 refine JL.fieldAddr fo_51_0 rfl .none rfl ?_
 refine JL.loadOwn 1 az_3 rfl rfl rfl .none rfl ?_
 refine JL.fieldAddr fo_51_1 rfl .none rfl ?_
 refine JL.loadOwn 0 az_3 rfl rfl rfl .none rfl ?_
 refine JL.bin rfl rfl rfl .none rfl ?_
 refine JL.fieldAddr fo_51_0 rfl .none rfl ?_
 refine JL.loadOwn 0 az_3 rfl rfl rfl .none rfl ?_
 refine JL.fieldAddr fo_51_1 rfl .none rfl ?_
 refine JL.loadOwn 1 az_3 rfl rfl rfl .none rfl ?_
 refine JL.bin rfl rfl rfl .none rfl ?_
 refine JL.bin rfl rfl rfl .none rfl ?_
 refine JL.assign .none rfl ?_
 refine JL.done hQ (JQ.go (JC.fresh (fun f => f 4 = .bool (decide ((w64 (a.Num * b.Den)) < (w64 (b.Num * a.Den))))) rfl ?_))
 rintro f hf4
 refine (JC.norm (i := 4) hf4 ?_)
 refine JC.ret ?_
 obtain rfl := Option.some.inj hF
 exact JQ.outS rfl (.tmp .nil) rfl
-- 135 ferrule/frames.binds$1
def F_frames_binds_1 (n : Nat) (x_ : frames_sides) (c_0 : Int) (c_1 : Frame) : Option Bool :=
 (F_frames_sides_binds n x_ c_0 c_1.Ease).bind fun y2 => some y2
theorem c_frames_binds_1 (n : Nat) (H : Hp) (x_ : frames_sides) (c_0 : Int) (c_0_b : Nat) (c_0_c : Cells H c_0_b 0 [.int .i64 c_0]) (c_1 : Frame) (c_1_v0 : Value) (hc_1_0 : SL H 7 R_Section c_1_v0 c_1.Sections) (c_1_b : Nat) (c_1_c : Cells H c_1_b 0 [c_1_v0, .int .i64 c_1.Low, .int .i64 c_1.High, .int .i64 c_1.Ease.Num, .int .i64 c_1.Ease.Den, .int .i64 c_1.Rod, .int .i64 c_1.Case]) (y : Bool) (hF : F_frames_binds_1 n x_ c_0 c_1 = some y) : SC Try.prog 135 [.agg [.int .i64 x_.arm, .int .i64 x_.stretch].toArray, .pointer (some ⟨c_0_b, 0, none⟩), .pointer (some ⟨c_1_b, 0, none⟩)] (.bool y) H := by
 rw [F_frames_binds_1] at hF
 refine SC.of (N := 10) Try.func135 rfl rfl rfl fun w => ?_
 refine JC.seq (JC.region (by rfl) ?_)
 intro hQ
 refine JL.box (cs := [.int .i64 x_.arm, .int .i64 x_.stretch]) rfl .none rfl ?_
 intro b1
 refine JL.assign .none rfl ?_
 refine JL.done hQ (JQ.go (JC.seq (JC.region (by rfl) ?_)))
 intro hQ
 refine JL.loadOwn 0 az_147 rfl rfl rfl .none rfl ?_
 refine JL.loadH 0 az_3 rfl c_0_c rfl .none rfl ?_
 refine JL.fieldAddr fo_53_3 rfl .none rfl ?_
 refine JL.loadH 3 az_51 rfl c_1_c rfl .none rfl ?_
 obtain ⟨y2, hy2, hF⟩ := bind_some hF
 refine JL.callS (c_frames_sides_binds n H x_ c_0 c_1.Ease y2 hy2) rfl en_134 .none rfl ?_
 refine JL.assign .none rfl ?_
 refine JL.done hQ (JQ.go (JC.ret ?_))
 obtain rfl := Option.some.inj hF
 exact JQ.outS rfl (.tmp .nil) rfl
-- 81 ferrule/frames.binds
def F_frames_binds (n : Nat) (f_ : Frame) (section_ : Int) (r : Int) : Option Int :=
 (F_frames_distance n f_ section_ r).bind fun y2 => (geti f_.Sections section_).bind fun y4 => (F_frames_known n y4 (fun a0_ => F_frames_binds_1 n a0_ y2 f_)).bind fun y13 => some y13
theorem c_frames_binds (n : Nat) (H : Hp) (f_ : Frame) (f__v0 : Value) (hf__0 : SL H 7 R_Section f__v0 f_.Sections) (section_ : Int) (r : Int) (y : Int) (hF : F_frames_binds n f_ section_ r = some y) : SC Try.prog 81 [.agg [f__v0, .int .i64 f_.Low, .int .i64 f_.High, .int .i64 f_.Ease.Num, .int .i64 f_.Ease.Den, .int .i64 f_.Rod, .int .i64 f_.Case].toArray, .int .i64 section_, .int .i64 r] (.int .i64 y) H := by
 rw [F_frames_binds] at hF
 refine SC.of (N := 19) Try.func81 rfl rfl rfl fun w => ?_
 refine JC.seq (JC.region (by rfl) ?_)
 intro hQ
 refine JL.box (cs := [f__v0, .int .i64 f_.Low, .int .i64 f_.High, .int .i64 f_.Ease.Num, .int .i64 f_.Ease.Den, .int .i64 f_.Rod, .int .i64 f_.Case]) rfl .none rfl ?_
 intro b1
 refine JL.assign .none rfl ?_
 refine JL.done hQ (JQ.go (JC.seq (JC.region (by rfl) ?_)))
 intro hQ
 refine JL.loadOwn 0 az_53 rfl rfl rfl .none rfl ?_
 refine JL.move .none rfl ?_
 refine JL.move .none rfl ?_
 obtain ⟨y2, hy2, hF⟩ := bind_some hF
 refine JL.callS (c_frames_distance n H f_ f__v0 hf__0 section_ r y2 hy2) rfl en_74 .none rfl ?_
 refine JL.alloc ze_3 .none rfl ?_
 intro b3
 refine JL.storeOwn 0 (cs := [.int .i64 y2]) az_3 rfl rfl rfl (one_cons rfl one_nil) rfl rfl .none ?_
 refine JL.done hQ (JQ.go (JC.seq (JC.region (by rfl) ?_)))
 intro hQ
 refine JL.fieldAddr fo_53_0 rfl .none rfl ?_
 refine JL.loadOwn 1 az_49 rfl rfl rfl .none rfl ?_
 refine JL.move .none rfl ?_
 obtain ⟨y4, hy4, hF⟩ := bind_some hF
 refine JL.indexSL (R := R_Section) sl_49 hf__0 rfl hy4 .none rfl ?_
 rintro b5 o6 cs7 hc8 - rfl
 refine JL.loadH 0 az_68 rfl hc8 rfl .none rfl ?_
 refine JL.makeFunc .none rfl ?_
 refine JL.freezeC 0 (l := [.int .i64 y2]) rfl ?_
 intro H9 hs9 hc10
 refine JL.freezeC 0 (l := [f__v0, .int .i64 f_.Low, .int .i64 f_.High, .int .i64 f_.Ease.Num, .int .i64 f_.Ease.Den, .int .i64 f_.Rod, .int .i64 f_.Case]) rfl ?_
 intro H11 hs11 hc12
 obtain ⟨y13, hy13, hF⟩ := bind_some hF
 refine JL.callS (c_frames_known n H11 y4 (fun a0_ => F_frames_binds_1 n a0_ y2 f_) 135 [.pointer (some ⟨b3, 0, none⟩), .pointer (some ⟨b1, 0, none⟩)] en_135 (fun H' hs' a0_ y' hy' => c_frames_binds_1 n H' a0_ y2 b3 (Cells.mono hs' (Cells.mono hs11 hc10)) f_ f__v0 (SL.mono R_Section_mono hs' (SL.mono R_Section_mono (HSub.trans hs9 hs11) hf__0)) b1 (Cells.mono hs' hc12) y' hy') y13 hy13) rfl en_131 .none rfl ?_
 refine JL.assign .none rfl ?_
 refine JL.done hQ (JQ.go (JC.fresh (fun f => f 6 = .int .i64 y13) rfl ?_))
 rintro f hf6
 refine (JC.norm (i := 6) hf6 ?_)
 refine JC.ret ?_
 obtain rfl := Option.some.inj hF
 exact JQ.outS rfl (.tmp .nil) rfl
-- 31 ferrule/frames.Binds
def F_frames_Binds (n : Nat) (f_ : Frame) (section_ : Int) (r : Int) : Option (Int × Int) :=
 (F_frames_ask n f_ section_ r).bind fun y2 => if (y2 != 0) = true then (some (0, y2)) else ((F_frames_binds n f_ section_ r).bind fun y4 => some (y4, 0))
theorem c_frames_Binds (n : Nat) (H : Hp) (f_ : Frame) (f__v0 : Value) (hf__0 : SL H 7 R_Section f__v0 f_.Sections) (section_ : Int) (r : Int) (y : Int × Int) (hF : F_frames_Binds n f_ section_ r = some y) : SC Try.prog 31 [.agg [f__v0, .int .i64 f_.Low, .int .i64 f_.High, .int .i64 f_.Ease.Num, .int .i64 f_.Ease.Den, .int .i64 f_.Rod, .int .i64 f_.Case].toArray, .int .i64 section_, .int .i64 r] (.tuple [.int .i64 y.1, .int .i64 y.2].toArray) H := by
 rw [F_frames_Binds] at hF
 refine SC.of (N := 20) Try.func31 rfl rfl rfl fun w => ?_
 refine JC.seq (JC.region (by rfl) ?_)
 intro hQ
 refine JL.box (cs := [f__v0, .int .i64 f_.Low, .int .i64 f_.High, .int .i64 f_.Ease.Num, .int .i64 f_.Ease.Den, .int .i64 f_.Rod, .int .i64 f_.Case]) rfl .none rfl ?_
 intro b1
 refine JL.assign .none rfl ?_
 refine JL.assign .none rfl ?_
 refine JL.done hQ (JQ.go (JC.seq (JC.seq (JC.region (by rfl) ?_))))
 intro hQ
 refine JL.loadOwn 0 az_53 rfl rfl rfl .none rfl ?_
 refine JL.move .none rfl ?_
 refine JL.move .none rfl ?_
 obtain ⟨y2, hy2, hF⟩ := bind_some hF
 refine JL.callS (c_frames_ask n H f_ f__v0 hf__0 section_ r y2 hy2) rfl en_73 .none rfl ?_
 refine JL.assign .none rfl ?_
 refine JL.done hQ (JQ.go (JC.seq (JC.region (by rfl) ?_)))
 intro hQ
 refine JL.move .none rfl ?_
 refine JL.bin rfl rfl rfl .none rfl ?_
 refine JL.done hQ (JQ.go ?_)
 rcases ite_some hF with ⟨hc3, hF⟩ | ⟨hc3, hF⟩
 ·refine JC.cond_t (b := (y2 != 0)) rfl hc3 ?_
  refine JC.seq (JC.region (by rfl) ?_)
  intro hQ
  refine JL.move .none rfl ?_
  refine JL.assign .none rfl ?_
  refine JL.assign .none rfl ?_
  refine JL.done hQ (JQ.go (JC.fresh (fun f => f 6 = .int .i64 0 ∧ f 7 = .int .i64 y2) ⟨rfl, rfl⟩ ?_))
  rintro f ⟨hf6, hf7⟩
  refine (JC.norm (i := 6) hf6 (JC.norm (i := 7) hf7 ?_))
  refine JC.ret (JQ.ret_then ?_)
  obtain rfl := Option.some.inj hF
  exact JQ.outS rfl (.tmp (.tmp .nil)) rfl
 ·refine JC.cond_f (b := (y2 != 0)) rfl hc3 ?_
  refine JC.skip (JQ.go (JC.seq (JC.region (by rfl) ?_)))
  intro hQ
  refine JL.loadOwn 0 az_53 rfl rfl rfl .none rfl ?_
  refine JL.move .none rfl ?_
  refine JL.move .none rfl ?_
  obtain ⟨y4, hy4, hF⟩ := bind_some hF
  refine JL.callS (c_frames_binds n H f_ f__v0 hf__0 section_ r y4 hy4) rfl en_81 .none rfl ?_
  refine JL.assign .none rfl ?_
  refine JL.assign .none rfl ?_
  refine JL.done hQ (JQ.go (JC.fresh (fun f => f 6 = .int .i64 y4 ∧ f 7 = .int .i64 0) ⟨rfl, rfl⟩ ?_))
  rintro f ⟨hf6, hf7⟩
  refine (JC.norm (i := 6) hf6 (JC.norm (i := 7) hf7 ?_))
  refine JC.ret ?_
  obtain rfl := Option.some.inj hF
  exact JQ.outS rfl (.tmp (.tmp .nil)) rfl
end Go.Proofs.Yteihdclpiekmaaa
end
section
namespace Go.Dec
theorem w64_nat {i : Nat} (h : i ≤ 4611686018427387904) : w64 ((i : Int) + 1) = ((i + 1 : Nat) : Int) := by
  rw [w64_id] <;> omega
theorem lim_ok {α : Type} {l : List α} (h : l.length ≤ 4294967296) : lim l = some l := by simp [lim, h]
section
variable {S R : Type} {step : S → Option (S ⊕ R)}
theorem loopO_succ {n : Nat} {s : S} : loopO (n + 1) step s = (match step s with | none => none | some (.inl s') => loopO n step s' | some (.inr r) => some r) := by
  rw [loopO]; rcases step s with _ | (_ | _) <;> rfl
theorem loop_done {n : Nat} {s : S} {r : R} (h : step s = some (.inr r)) (hn : 0 < n) : loopO n step s = some r := by
  obtain ⟨m, rfl⟩ : ∃ k, n = k + 1 := ⟨n - 1, by omega⟩
  rw [loopO_succ, h]
/-- a run of states -/
theorem loop_run (s : Nat → S) {r : R} : ∀ (k i n : Nat), (∀ j, i ≤ j → j < i + k → step (s j) = some (.inl (s (j + 1)))) → step (s (i + k)) = some (.inr r) → k < n → loopO n step (s i) = some r := by
  intro k
  induction k with
  | zero => intro i n _ h hn; exact loop_done h hn
  | succ k ih =>
    intro i n h hd hn
    obtain ⟨m, rfl⟩ : ∃ k, n = k + 1 := ⟨n - 1, by omega⟩
    rw [loopO_succ, h i (Nat.le_refl _) (by omega)]
    exact ih (i + 1) m (fun j h1 h2 => h j (by omega) (by omega)) (by rw [show i + 1 + k = i + (k + 1) by omega]; exact hd) (by omega)
/-- a loop that folds a list; I: what is so of the state before round i -/
theorem loop_fold {α β : Type} (l : List α) (enc : Nat → β → S) (g : β → α → β) (fin : β → R) (I : Nat → β → Prop) {n : Nat} (b0 : β) (h0 : I 0 b0)
    (h : ∀ i x b, l[i]? = some x → I i b → step (enc i b) = some (.inl (enc (i + 1) (g b x))) ∧ I (i + 1) (g b x))
    (hd : ∀ b, I l.length b → step (enc l.length b) = some (.inr (fin b))) (hn : l.length < n) : loopO n step (enc 0 b0) = some (fin (l.foldl g b0)) ∧ I l.length (l.foldl g b0) := by
  have key : ∀ (k i : Nat) (b : β) (n : Nat), i + k = l.length → I i b → k < n → loopO n step (enc i b) = some (fin ((l.drop i).foldl g b)) ∧ I l.length ((l.drop i).foldl g b) := by
    intro k
    induction k with
    | zero =>
      intro i b n hi hI hn
      have e : i = l.length := by omega
      subst e
      rw [List.drop_length]
      exact ⟨loop_done (hd b hI) hn, hI⟩
    | succ k ih =>
      intro i b n hi hI hn
      obtain ⟨m, rfl⟩ : ∃ k, n = k + 1 := ⟨n - 1, by omega⟩
      have hlt : i < l.length := by omega
      obtain ⟨h1, h2⟩ := h i l[i] b (List.getElem?_eq_getElem hlt) hI
      rw [loopO_succ, h1, List.drop_eq_getElem_cons hlt, List.foldl_cons]
      exact ih (i + 1) _ m (by omega) h2 (by omega)
  have := key l.length 0 b0 n (by omega) h0 hn
  rwa [List.drop_zero] at this
/-- a search by index -/
theorem loop_all {ρ : Type} {step : Int → Option (Int ⊕ (ρ ⊕ Unit))} (k : Nat) (p : Nat → Bool) (r : ρ) {n : Nat} (hk : k ≤ 4611686018427387904)
    (h : ∀ i, i < k → step (i : Int) = some (bif p i then .inl ((i + 1 : Nat) : Int) else .inr (.inl r))) (hd : step (k : Int) = some (.inr (.inr ()))) (hn : k < n) :
    loopO n step 0 = some (bif (List.range k).all p then .inr () else .inl r) := by
  have key : ∀ (m i n : Nat), i + m = k → m < n → loopO n step (i : Int) = some (bif (List.range' i m).all p then .inr () else .inl r) := by
    intro m
    induction m with
    | zero => intro i n hi hn; have : i = k := by omega
              subst this; rw [loop_done hd (by omega)]; simp
    | succ m ih =>
      intro i n hi hn
      obtain ⟨m', rfl⟩ : ∃ k, n = k + 1 := ⟨n - 1, by omega⟩
      rw [loopO_succ, h i (by omega), List.range'_succ, List.all_cons]
      cases hp : p i with
      | false => simp
      | true => simp only [cond_true, Bool.true_and]; exact ih (i + 1) m' (by omega) (by omega)
  have := key k 0 n (by omega) hn
  rw [List.range_eq_range']
  exact this
/-- a search in a list -/
theorem loop_all_l {α ρ : Type} {step : Int → Option (Int ⊕ (ρ ⊕ Unit))} (l : List α) (p : α → Bool) (r : ρ) {n : Nat} (hk : l.length ≤ 4611686018427387904)
    (h : ∀ i x, l[i]? = some x → i < l.length → step (i : Int) = some (bif p x then .inl ((i + 1 : Nat) : Int) else .inr (.inl r))) (hd : step (l.length : Int) = some (.inr (.inr ()))) (hn : l.length < n) :
    loopO n step 0 = some (bif l.all p then .inr () else .inl r) := by
  have := loop_all l.length (fun i => match l[i]? with | some x => p x | none => true) r hk (fun i hi => by
    rw [h i l[i] (List.getElem?_eq_getElem hi) hi]; simp [hi]) hd hn
  rw [this]
  have e : (List.range l.length).all (fun i => match l[i]? with | some x => p x | none => true) = l.all p := by
    rw [Bool.eq_iff_iff]
    simp only [List.all_eq_true, List.mem_range]
    constructor
    · intro h x hx
      obtain ⟨i, hi⟩ := List.mem_iff_getElem?.1 hx
      have := h i (List.getElem?_eq_some_iff.1 hi).1
      simpa [hi] using this
    · intro h i hi
      simpa [hi] using h _ (List.getElem_mem hi)
  rw [e]
end
/-- the first one that is such -/
theorem first_of {α : Type} {p : α → Bool} : ∀ {s : List α}, s.any p = true → ∃ i : Nat, ∃ x, s[i]? = some x ∧ p x = true ∧ ∀ (j : Nat) y, j < i → s[j]? = some y → p y = false
  | [], h => by simp at h
  | a :: s, h => by
    by_cases ha : p a = true
    · exact ⟨0, a, rfl, ha, by intros; omega⟩
    · have hs : s.any p = true := by simpa [ha] using h
      obtain ⟨i, x, h1, h2, h3⟩ := first_of hs
      refine ⟨i + 1, x, by simpa using h1, h2, fun j y hj hy => ?_⟩
      cases j with
      | zero => simp at hy; subst hy; simpa using ha
      | succ j => exact h3 j y (by omega) (by simpa using hy)
/-- a walk over what an iterator yields -/
def foldO {σ ρ α : Type} (cs : σ → α → Option (σ ⊕ ρ)) : σ → List α → Option (σ ⊕ ρ)
  | s, [] => some (.inl s)
  | s, a :: l => (cs s a).bind fun y => match y with | .inl s' => foldO cs s' l | .inr r => some (.inr r)
theorem foldO_foldl {σ ρ α : Type} {cs : σ → α → Option (σ ⊕ ρ)} (g : σ → α → σ) (I : Nat → σ → Prop) : ∀ (l : List α) (k : Nat) (s : σ), I k s → (∀ i s a, i < k + l.length → a ∈ l → I i s → cs s a = some (.inl (g s a)) ∧ I (i + 1) (g s a)) →
    foldO cs s l = some (.inl (l.foldl g s)) ∧ I (k + l.length) (l.foldl g s)
  | [], k, s, h, _ => ⟨rfl, h⟩
  | a :: l, k, s, h, hs => by
    obtain ⟨h1, h2⟩ := hs k s a (by simp) (List.mem_cons_self ..) h
    obtain ⟨h3, h4⟩ := foldO_foldl g I l (k + 1) _ h2 (fun i s a hi ha => hs i s a (by rw [List.length_cons]; omega) (List.mem_cons_of_mem _ ha))
    refine ⟨by simp [foldO, h1, h3], ?_⟩
    rw [List.length_cons, show k + (l.length + 1) = k + 1 + l.length by omega]
    exact h4
theorem foldO_append {σ ρ α : Type} {cs : σ → α → Option (σ ⊕ ρ)} : ∀ (l m : List α) (s : σ), foldO cs s (l ++ m) = (foldO cs s l).bind fun y => match y with | .inl s' => foldO cs s' m | .inr r => some (.inr r)
  | [], m, s => by simp [foldO]
  | a :: l, m, s => by
    simp only [List.cons_append, foldO]
    cases cs s a with
    | none => rfl
    | some y => cases y with
      | inl s' => simp [foldO_append l m s']
      | inr r => simp
theorem foldl_filter_append {α : Type} (p : α → Bool) : ∀ (l out : List α), l.foldl (fun o x => if p x = true then o ++ [x] else o) out = out ++ l.filter p
  | [], out => by simp
  | a :: l, out => by
    rw [List.foldl_cons, foldl_filter_append p l]
    cases h : p a <;> simp [h]
theorem foldl_count {α : Type} (p : α → Bool) : ∀ (l : List α) (k : Int), l.foldl (fun o x => if p x = true then o + 1 else o) k = k + (l.countP p : Nat)
  | [], k => by simp
  | a :: l, k => by
    rw [List.foldl_cons, foldl_count p l]
    cases h : p a <;> simp [h, List.countP_cons]; omega
theorem foldl_append_map {α β : Type} (f : α → β) : ∀ (l : List α) (out : List β), l.foldl (fun o x => o ++ [f x]) out = out ++ l.map f
  | [], out => by simp
  | a :: l, out => by rw [List.foldl_cons, foldl_append_map f l]; simp
theorem foldl_pair {α β γ : Type} (f : β → α → β) (g : γ → α → γ) : ∀ (l : List α) (b : β) (c : γ), l.foldl (fun s x => (f s.1 x, g s.2 x)) (b, c) = (l.foldl f b, l.foldl g c)
  | [], _, _ => rfl
  | a :: l, b, c => by simp only [List.foldl_cons]; exact foldl_pair f g l _ _
end Go.Dec
end
section
namespace Go.Dec
def span (a b : Int) : List Int := (List.range (b + 1 - a).toNat).map fun j : Nat => a + j
def down (b a : Int) : List Int := (List.range (b + 1 - a).toNat).map fun j : Nat => b - j
theorem span_mem' {a b x : Int} : x ∈ span a b ↔ a ≤ x ∧ x ≤ b := by
  simp only [span, List.mem_map, List.mem_range]
  constructor
  · rintro ⟨j, h, rfl⟩; omega
  · intro h; exact ⟨(x - a).toNat, by omega, by omega⟩
theorem down_mem {a b x : Int} : x ∈ down b a ↔ a ≤ x ∧ x ≤ b := by
  simp only [down, List.mem_map, List.mem_range]
  constructor
  · rintro ⟨j, h, rfl⟩; omega
  · intro h; exact ⟨(b - x).toNat, by omega, by omega⟩
theorem span_len (a b : Int) : (span a b).length = (b + 1 - a).toNat := by simp [span]
theorem span_nil {a b : Int} (h : b < a) : span a b = [] := by
  have : (b + 1 - a).toNat = 0 := by omega
  simp [span, this]
theorem down_nil {a b : Int} (h : b < a) : down b a = [] := by
  have : (b + 1 - a).toNat = 0 := by omega
  simp [down, this]
theorem span_cons {a b : Int} (h : a ≤ b) : span a b = a :: span (a + 1) b := by
  have : (b + 1 - a).toNat = (b + 1 - (a + 1)).toNat + 1 := by omega
  unfold span
  rw [this, List.range_succ_eq_map, List.map_cons, List.map_map]
  simp only [Int.natCast_zero, Int.add_zero]
  congr 1
  apply List.map_congr_left
  intro j _
  simp only [Function.comp]
  omega
theorem down_cons {a b : Int} (h : a ≤ b) : down b a = b :: down (b - 1) a := by
  have : (b + 1 - a).toNat = (b - 1 + 1 - a).toNat + 1 := by omega
  unfold down
  rw [this, List.range_succ_eq_map, List.map_cons, List.map_map]
  simp only [Int.natCast_zero, Int.sub_zero]
  congr 1
  apply List.map_congr_left
  intro j _
  simp only [Function.comp]
  omega
/-- an iterator that counts up -/
theorem loop_up {σ ρ : Type} (cs : σ → Int → Option (σ ⊕ ρ)) {step : Int × σ → Option ((Int × σ) ⊕ (σ ⊕ ρ))} {hi : Int} : ∀ (k : Nat) (lo : Int) (s : σ) (n : Nat), (hi + 1 - lo).toNat = k →
    (∀ b s, lo ≤ b → b ≤ hi → step (b, s) = (cs s b).bind fun y => match y with | .inl s' => some (.inl (b + 1, s')) | .inr e => some (.inr (.inr e))) → (∀ b s, hi < b → b ≤ max lo (hi + 1) → step (b, s) = some (.inr (.inl s))) → k < n →
    loopO n step (lo, s) = foldO cs s (span lo hi) := by
  intro k
  induction k with
  | zero =>
    intro lo s n hk _ hd hn
    rw [span_nil (by omega), loop_done (hd lo s (by omega) (by omega)) hn]
    rfl
  | succ k ih =>
    intro lo s n hk h hd hn
    obtain ⟨m, rfl⟩ : ∃ k, n = k + 1 := ⟨n - 1, by omega⟩
    rw [span_cons (by omega), loopO_succ, h lo s (by omega) (by omega)]
    simp only [foldO]
    cases cs s lo with
    | none => rfl
    | some y => cases y with
      | inl s' =>
        simp only [Option.bind_some]
        exact ih (lo + 1) s' m (by omega) (fun b s h1 h2 => h b s (by omega) h2) (fun b s h1 h2 => hd b s h1 (by omega)) (by omega)
      | inr e => rfl
/-- .. down -/
theorem loop_down {σ ρ : Type} (cs : σ → Int → Option (σ ⊕ ρ)) {step : Int × σ → Option ((Int × σ) ⊕ (σ ⊕ ρ))} {lo : Int} : ∀ (k : Nat) (hi : Int) (s : σ) (n : Nat), (hi + 1 - lo).toNat = k →
    (∀ b s, lo ≤ b → b ≤ hi → step (b, s) = (cs s b).bind fun y => match y with | .inl s' => some (.inl (b - 1, s')) | .inr e => some (.inr (.inr e))) → (∀ b s, b < lo → min hi (lo - 1) ≤ b → step (b, s) = some (.inr (.inl s))) → k < n →
    loopO n step (hi, s) = foldO cs s (down hi lo) := by
  intro k
  induction k with
  | zero =>
    intro hi s n hk _ hd hn
    rw [down_nil (by omega), loop_done (hd hi s (by omega) (by omega)) hn]
    rfl
  | succ k ih =>
    intro hi s n hk h hd hn
    obtain ⟨m, rfl⟩ : ∃ k, n = k + 1 := ⟨n - 1, by omega⟩
    rw [down_cons (by omega), loopO_succ, h hi s (by omega) (by omega)]
    simp only [foldO]
    cases cs s hi with
    | none => rfl
    | some y => cases y with
      | inl s' =>
        simp only [Option.bind_some]
        exact ih (hi - 1) s' m (by omega) (fun b s h1 h2 => h b s h1 (by omega)) (fun b s h1 h2 => hd b s h1 (by omega)) (by omega)
      | inr e => rfl
theorem foldO_flatMap {σ ρ α β : Type} {cs : σ → α → Option (σ ⊕ ρ)} (f : β → List α) : ∀ (l : List β) (s : σ), foldO cs s (l.flatMap f) = foldO (fun s b => foldO cs s (f b)) s l
  | [], s => by simp [foldO]
  | b :: l, s => by
    rw [List.flatMap_cons, foldO_append, foldO]
    congr 1
    funext y
    cases y with
    | inl s' => exact foldO_flatMap f l s'
    | inr r => rfl
theorem foldO_map {σ ρ α β : Type} {cs : σ → α → Option (σ ⊕ ρ)} (f : β → α) : ∀ (l : List β) (s : σ), foldO cs s (l.map f) = foldO (fun s b => cs s (f b)) s l
  | [], s => by simp [foldO]
  | b :: l, s => by
    rw [List.map_cons, foldO, foldO]
    congr 1
    funext y
    cases y with
    | inl s' => exact foldO_map f l s'
    | inr r => rfl
theorem foldO_any {ρ α : Type} {cs : Unit → α → Option (Unit ⊕ ρ)} (p : α → Bool) (r : ρ) : ∀ (l : List α), (∀ a ∈ l, cs () a = some (bif p a then .inr r else .inl ())) → foldO cs () l = some (bif l.any p then .inr r else .inl ())
  | [], _ => rfl
  | a :: l, h => by
    rw [foldO, h a (List.mem_cons_self ..), List.any_cons]
    cases p a with
    | true => rfl
    | false => simp only [cond_false, Option.bind_some, Bool.false_or]; exact foldO_any p r l fun b hb => h b (List.mem_cons_of_mem _ hb)
theorem loop_span_all {ρ : Type} {step : Int → Option (Int ⊕ (ρ ⊕ Unit))} (p : Int → Bool) (r : ρ) {hi : Int} : ∀ (k : Nat) (lo : Int) (n : Nat), (hi + 1 - lo).toNat = k →
    (∀ b, lo ≤ b → b ≤ hi → step b = some (bif p b then .inl (b + 1) else .inr (.inl r))) → (∀ b, hi < b → b ≤ max lo (hi + 1) → step b = some (.inr (.inr ()))) → k < n → loopO n step lo = some (bif (span lo hi).all p then .inr () else .inl r) := by
  intro k
  induction k with
  | zero =>
    intro lo n hk _ hd hn
    rw [span_nil (by omega), loop_done (hd lo (by omega) (by omega)) hn]
    rfl
  | succ k ih =>
    intro lo n hk h hd hn
    obtain ⟨m, rfl⟩ : ∃ k, n = k + 1 := ⟨n - 1, by omega⟩
    rw [span_cons (by omega), loopO_succ, h lo (by omega) (by omega), List.all_cons]
    cases p lo with
    | false => rfl
    | true =>
      simp only [cond_true, Bool.true_and]
      exact ih (lo + 1) m (by omega) (fun b h1 h2 => h b (by omega) h2) (fun b h1 h2 => hd b h1 (by omega)) (by omega)
/-- a loop over a span that folds -/
theorem loop_span_fold {S R β : Type} {step : S → Option (S ⊕ R)} (enc : Int → β → S) (g : β → Int → β) (fin : β → R) (I : Int → β → Prop) {hi : Int} : ∀ (k : Nat) (lo : Int) (b0 : β) (n : Nat), (hi + 1 - lo).toNat = k → I lo b0 →
    (∀ i b, lo ≤ i → i ≤ hi → I i b → step (enc i b) = some (.inl (enc (i + 1) (g b i))) ∧ I (i + 1) (g b i)) → (∀ i b, hi < i → i ≤ max lo (hi + 1) → I i b → step (enc i b) = some (.inr (fin b))) → k < n →
    loopO n step (enc lo b0) = some (fin ((span lo hi).foldl g b0)) ∧ I (max lo (hi + 1)) ((span lo hi).foldl g b0) := by
  intro k
  induction k with
  | zero =>
    intro lo b0 n hk h0 _ hd hn
    rw [span_nil (by omega), loop_done (hd lo b0 (by omega) (by omega) h0) hn]
    rw [show max lo (hi + 1) = lo by omega]
    exact ⟨rfl, h0⟩
  | succ k ih =>
    intro lo b0 n hk h0 h hd hn
    obtain ⟨m, rfl⟩ : ∃ k, n = k + 1 := ⟨n - 1, by omega⟩
    obtain ⟨h1, h2⟩ := h lo b0 (by omega) (by omega) h0
    rw [span_cons (by omega), loopO_succ, h1, List.foldl_cons]
    have := ih (lo + 1) (g b0 lo) m (by omega) h2 (fun i b h1 h2 => h i b (by omega) h2) (fun i b h1 h2 => hd i b h1 (by omega)) (by omega)
    rw [show max (lo + 1) (hi + 1) = max lo (hi + 1) by omega] at this
    exact this
theorem loop_find {ρ : Type} {step : Int → Option (Int ⊕ (ρ ⊕ Unit))} (e : Nat → Option ρ) {n : Nat} (k : Nat) (h : ∀ i, i < k → step (i : Int) = some (match e i with | some r => .inr (.inl r) | none => .inl ((i + 1 : Nat) : Int))) (hd : step (k : Int) = some (.inr (.inr ()))) (hn : k < n) :
    loopO n step 0 = some (match (List.range k).findSome? e with | some r => .inl r | none => .inr ()) := by
  have key : ∀ (m i n : Nat), i + m = k → m < n → loopO n step (i : Int) = some (match (List.range' i m).findSome? e with | some r => .inl r | none => .inr ()) := by
    intro m
    induction m with
    | zero => intro i n hi hn; have : i = k := by omega
              subst this; rw [loop_done hd (by omega)]; rfl
    | succ m ih =>
      intro i n hi hn
      obtain ⟨m', rfl⟩ : ∃ k, n = k + 1 := ⟨n - 1, by omega⟩
      rw [loopO_succ, h i (by omega), List.range'_succ, List.findSome?_cons]
      cases hp : e i with
      | some r => rfl
      | none => exact ih (i + 1) m' (by omega) (by omega)
  have := key k 0 n (by omega) hn
  rw [List.range_eq_range']
  exact this
/-- a loop over a list, with exits, as a walk -/
theorem loop_walk {α β R ρ S : Type} {step : S → Option (S ⊕ R)} (l : List α) (enc : Nat → β → S) (cs : β → α → Option (β ⊕ ρ)) (fin : β → R) (ex : ρ → R) {n : Nat}
    (h : ∀ i x b, l[i]? = some x → step (enc i b) = (cs b x).bind fun y => match y with | .inl b' => some (.inl (enc (i + 1) b')) | .inr r => some (.inr (ex r)))
    (hd : ∀ b, step (enc l.length b) = some (.inr (fin b))) (hn : l.length < n) (b0 : β) : loopO n step (enc 0 b0) = (foldO cs b0 l).bind fun y => match y with | .inl b => some (fin b) | .inr r => some (ex r) := by
  have key : ∀ (k i : Nat) (b : β) (n : Nat), i + k = l.length → k < n → loopO n step (enc i b) = (foldO cs b (l.drop i)).bind fun y => match y with | .inl b => some (fin b) | .inr r => some (ex r) := by
    intro k
    induction k with
    | zero =>
      intro i b n hi hn
      have e : i = l.length := by omega
      subst e
      rw [List.drop_length, loop_done (hd b) hn]; rfl
    | succ k ih =>
      intro i b n hi hn
      obtain ⟨m, rfl⟩ : ∃ k, n = k + 1 := ⟨n - 1, by omega⟩
      have hlt : i < l.length := by omega
      rw [loopO_succ, h i l[i] b (List.getElem?_eq_getElem hlt), List.drop_eq_getElem_cons hlt, foldO]
      cases cs b l[i] with
      | none => rfl
      | some y => cases y with
        | inl b' => simp only [Option.bind_some]; exact ih (i + 1) b' m (by omega) (by omega)
        | inr r => rfl
  have := key l.length 0 b0 n (by omega) hn
  rwa [List.drop_zero] at this
/-- a walk that is left at one thing, and takes down another -/
theorem foldO_two {σ ρ α : Type} {cs : σ → α → Option (σ ⊕ ρ)} (a b : α → Bool) (r : ρ) (v : σ) : ∀ (l : List α) (s : σ), (∀ s x, x ∈ l → cs s x = some (bif a x then .inr r else .inl (bif b x then v else s))) → foldO cs s l = some (bif l.any a then .inr r else .inl (bif l.any b then v else s))
  | [], _, _ => rfl
  | x :: l, s, h => by
    rw [foldO, h s x (List.mem_cons_self ..), List.any_cons, List.any_cons]
    cases a x with
    | true => rfl
    | false =>
      simp only [cond_false, Option.bind_some, Bool.false_or]
      rw [foldO_two a b r v l _ fun s y hy => h s y (List.mem_cons_of_mem _ hy)]
      cases b x <;> cases l.any b <;> rfl
theorem loop_gcd {step : Int × Int → Option ((Int × Int) ⊕ Int)} (h0 : ∀ a, step (a, 0) = some (.inr a)) (h : ∀ a b, b ≠ 0 → step (a, b) = some (.inl (b, a.tmod b))) : ∀ (y x n : Nat), y < n → loopO n step ((x : Int), (y : Int)) = some ((Nat.gcd x y : Nat) : Int) := by
  intro y
  induction y using Nat.strongRecOn with
  | _ y ih =>
    intro x n hn
    obtain ⟨m, rfl⟩ : ∃ k, n = k + 1 := ⟨n - 1, by omega⟩
    rw [loopO_succ]
    by_cases hy : y = 0
    · subst hy
      have := h0 (x : Int)
      simp only [Int.natCast_zero] at *
      rw [this]; simp
    · rw [h _ _ (by omega)]
      simp only
      rw [← Int.ofNat_tmod]
      have hlt := Nat.mod_lt x (Nat.pos_of_ne_zero hy)
      rw [ih (x % y) hlt y m (by omega)]
      rw [Nat.gcd_comm x y, Nat.gcd_rec y x, Nat.gcd_comm]
theorem mul_in {x y A C : Int} (h1 : 0 ≤ x) (h2 : x ≤ A) (h3 : 0 ≤ y) (h4 : y ≤ C) : 0 ≤ x * y ∧ x * y ≤ A * C := by
  refine ⟨Int.mul_nonneg h1 h3, ?_⟩
  have a := Int.mul_le_mul_of_nonneg_right h2 h3
  have b := Int.mul_le_mul_of_nonneg_left h4 (show 0 ≤ A by omega)
  omega
theorem mul_abs {x y A C : Int} (h1 : -A ≤ x) (h2 : x ≤ A) (h3 : 0 ≤ y) (h4 : y ≤ C) : -(A * C) ≤ x * y ∧ x * y ≤ A * C := by
  have hA : 0 ≤ A := by omega
  have a := Int.mul_le_mul_of_nonneg_right h2 h3
  have a' := Int.mul_le_mul_of_nonneg_right h1 h3
  have b := Int.mul_le_mul_of_nonneg_left h4 hA
  rw [Int.neg_mul] at a'
  omega
end Go.Dec
end
