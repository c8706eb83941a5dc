/-
  Printed by a program: functions of the translation as plain functions, and their contracts.
-/
import Derived.Test.YtcpnnfdhafbemaaGenK12
namespace Go.Proofs.Ytcpnnfdhafbemaa
open Go Go.RowKit Go.Dec
set_option linter.unusedVariables false
-- 40 ferrule/ferruleref05.StandsIn
def F_ref05_StandsIn_s1 (n : Nat) (d : Canopy) (class_ : List Gust) (t : ref05_Truth) : Int → Option (Int ⊕ (Bool ⊕ Unit))
  | i_202 => if decide (i_202 < (class_.length : Int)) = true then ((geti class_ i_202).bind fun y213 => (F_ref05_Rounds n d y213 t).bind fun y218 => (F_ref05_went n y218 (d.Ribs.length : Int)).bind fun y220 => if decide (0 < (y220.length : Int)) = true then (some (Sum.inr (Sum.inl false))) else (some (Sum.inl (w64 (i_202 + 1))))) else (some (Sum.inr (Sum.inr ())))
def F_ref05_StandsIn (n : Nat) (d : Canopy) (class_ : List Gust) (t : ref05_Truth) : Option Bool :=
  (loopO n (F_ref05_StandsIn_s1 n d class_ t) 0).bind fun r123 => match r123 with | .inl o => some o | .inr _ => some true
set_option maxRecDepth 100000 in
set_option maxHeartbeats 40000000 in
theorem c_ref05_StandsIn (n : Nat) (H : Hp) (d : Canopy) (d_v0 : Value) (hd_0 : SL H 7 R_Section d_v0 d.Frame.Sections) (d_v7 : Value) (hd_7 : SL H 2 R_Span d_v7 d.Ribs) (d_v8 : Value) (hd_8 : SL H 1 RInt d_v8 d.Shares) (class_ : List Gust) (class__v0 : Value) (hclass__0 : SL H 2 R_Gust class__v0 class_) (t : ref05_Truth) (t_v1 : Value) (ht_1 : SL H 1 RInt t_v1 t.Strengths) (y : Bool) (hF : F_ref05_StandsIn n d class_ t = some y) : SC Try.prog 40 [.agg [d_v0, .int .i64 d.Frame.Low, .int .i64 d.Frame.High, .int .i64 d.Frame.Ease.Num, .int .i64 d.Frame.Ease.Den, .int .i64 d.Frame.Rod, .int .i64 d.Frame.Case, d_v7, d_v8].toArray, class__v0, .agg [.int .i64 t.Lift, t_v1].toArray] (.bool y) H := by
  rw [F_ref05_StandsIn] at hF
  refine SC.of (N := 27) Try.func40 rfl rfl rfl fun w => ?_
  refine JC.seq ?_
  refine JC.region (by rfl) ?_
  intro hQ
  refine JL.box (cs := [d_v0, .int .i64 d.Frame.Low, .int .i64 d.Frame.High, .int .i64 d.Frame.Ease.Num, .int .i64 d.Frame.Ease.Den, .int .i64 d.Frame.Rod, .int .i64 d.Frame.Case, d_v7, d_v8]) rfl .none rfl ?_
  intro b1
  refine JL.box (cs := [.int .i64 t.Lift, t_v1]) rfl .none rfl ?_
  intro b2
  refine JL.assign .none rfl ?_
  refine JL.done hQ ?_
  refine JQ.go ?_
  refine JC.seq ?_
  refine JC.seq ?_
  refine JC.region (by rfl) ?_
  intro hQ
  refine JL.assign .none rfl ?_
  refine JL.done hQ ?_
  refine JQ.go ?_
  obtain ⟨r123, hlr123, hKr123⟩ := bind_some hF
  refine JC.join (fun (_ : Unit) H122 f bs gs => bs = [] ∧ gs = [] ∧ HSub H H122 ∧ Sum.inr () = r123) ?_ ?_
  · skip
    refine JC.block ?_
    refine JC.loop hlr123 (fun (i_202 : Int) H203 f bs gs => f 1 = class__v0 ∧ f 3 = .pointer (some ⟨b1, 0, none⟩) ∧ f 5 = .pointer (some ⟨b2, 0, none⟩) ∧ f 7 = .int .i64 i_202 ∧ bs = [(b2, .cells [.int .i64 t.Lift, t_v1].toArray 78), (b1, .cells [d_v0, .int .i64 d.Frame.Low, .int .i64 d.Frame.High, .int .i64 d.Frame.Ease.Num, .int .i64 d.Frame.Ease.Den, .int .i64 d.Frame.Rod, .int .i64 d.Frame.Case, d_v7, d_v8].toArray 30)] ∧ gs = [] ∧ HSub H H203) ⟨rfl, rfl, rfl, rfl, rfl, rfl, (HSub.refl _)⟩ ?_
    rintro i_202 x205 H203 f bs gs ⟨hf1, hf3, hf5, hf7, rfl, rfl, hs203⟩ hF hr204
    rw [F_ref05_StandsIn_s1] at hF
    refine (JC.norm (i := 1) hf1 (JC.norm (i := 3) hf3 (JC.norm (i := 5) hf5 (JC.norm (i := 7) hf7 ?_))))
    refine JC.seq ?_
    refine JC.seq ?_
    refine JC.region (by rfl) ?_
    intro hQ
    refine JL.move .none rfl ?_
    refine JL.move .none rfl ?_
    refine JL.lenSL (R := R_Gust) ul_34 (SL.mono R_Gust_mono hs203 hclass__0) .none rfl ?_
    refine JL.bin rfl rfl rfl .none rfl ?_
    refine JL.done hQ ?_
    refine JQ.go ?_
    rcases ite_some hF with ⟨hc206, hF⟩ | ⟨hc206, hF⟩
    · refine JC.cond_t (b := decide (i_202 < (class_.length : Int))) rfl hc206 ?_
      refine JC.skip ?_
      refine JQ.go ?_
      refine JC.seq ?_
      refine JC.block ?_
      refine JC.seq ?_
      obtain ⟨y213, hy213, hF⟩ := bind_some hF
      obtain ⟨y218, hy218, hF⟩ := bind_some hF
      obtain ⟨y220, hy220, hF⟩ := bind_some hF
      refine JC.mixed 13 13 #[false, false, false, false, false, false, false, false, false, false, false, false, false] [(b2, .cells [.int .i64 t.Lift, t_v1].toArray 78), (b1, .cells [d_v0, .int .i64 d.Frame.Low, .int .i64 d.Frame.High, .int .i64 d.Frame.Ease.Num, .int .i64 d.Frame.Ease.Den, .int .i64 d.Frame.Rod, .int .i64 d.Frame.Case, d_v7, d_v8].toArray 30)] (by rfl) mo_ (by kernel_rfl) (by kernel_rfl) ?_
      intro hQ hE
      refine JA.take 0 (listed' := #[true, false, false, false, false, false, false, false, false, false, false, false, false]) hQ rfl (by kernel_rfl) (by kernel_rfl) (by kernel_rfl) (by kernel_rfl) (by kernel_rfl) hE (HSub.refl _) (.cons_cons _ (.cons_cons _ (List.nil_sublist _))) ?_
      refine JL.loadOwn 1 az_30 rfl rfl rfl .none rfl ?_
      refine JA.cont ?_
      refine JA.take 1 (listed' := #[true, true, false, false, false, false, false, false, false, false, false, false, false]) hQ rfl (by kernel_rfl) (by kernel_rfl) (by kernel_rfl) (by kernel_rfl) (by kernel_rfl) hE (HSub.refl _) (.cons_cons _ (.cons_cons _ (List.nil_sublist _))) ?_
      refine JL.move .none rfl ?_
      refine JA.cont ?_
      refine JA.take 2 (listed' := #[true, true, true, false, false, false, false, false, false, false, false, false, false]) hQ rfl (by kernel_rfl) (by kernel_rfl) (by kernel_rfl) (by kernel_rfl) (by kernel_rfl) hE (HSub.refl _) (.cons_cons _ (.cons_cons _ (List.nil_sublist _))) ?_
      refine JL.move .none rfl ?_
      refine JA.cont ?_
      refine JA.take 3 (listed' := #[true, true, true, true, false, false, false, false, false, false, false, false, false]) hQ rfl (by kernel_rfl) (by kernel_rfl) (by kernel_rfl) (by kernel_rfl) (by kernel_rfl) hE (HSub.refl _) (.cons_cons _ (.cons_cons _ (List.nil_sublist _))) ?_
      refine JL.indexSL (R := R_Gust) sl_34 (SL.mono R_Gust_mono hs203 hclass__0) rfl hy213 .none rfl ?_
      rintro b236 o237 cs238 hc239 - rfl
      refine JA.cont ?_
      refine JA.take 4 (listed' := #[true, true, true, true, true, false, false, false, false, false, false, false, false]) hQ rfl (by kernel_rfl) (by kernel_rfl) (by kernel_rfl) (by kernel_rfl) (by kernel_rfl) hE (HSub.refl _) (.cons_cons _ (.cons_cons _ (List.nil_sublist _))) ?_
      refine JL.loadH 0 az_32 rfl hc239 rfl .none rfl ?_
      refine JA.cont ?_
      refine JA.take 5 (listed' := #[true, true, true, true, true, true, false, false, false, false, false, false, false]) hQ rfl (by kernel_rfl) (by kernel_rfl) (by kernel_rfl) (by kernel_rfl) (by kernel_rfl) hE (HSub.refl _) (.cons_cons _ (.cons_cons _ (List.nil_sublist _))) ?_
      refine JL.loadOwn 0 az_78 rfl rfl rfl .none rfl ?_
      refine JA.cont ?_
      refine JA.take 7 (listed' := #[true, true, true, true, true, true, false, true, false, false, false, false, false]) hQ rfl (by kernel_rfl) (by kernel_rfl) (by kernel_rfl) (by kernel_rfl) (by kernel_rfl) hE (HSub.refl _) (.cons_cons _ (.cons_cons _ (List.nil_sublist _))) ?_
      refine JL.fieldAddr fo_30_1 rfl .none rfl ?_
      refine JA.cont ?_
      refine JA.take 8 (listed' := #[true, true, true, true, true, true, false, true, true, false, false, false, false]) hQ rfl (by kernel_rfl) (by kernel_rfl) (by kernel_rfl) (by kernel_rfl) (by kernel_rfl) hE (HSub.refl _) (.cons_cons _ (.cons_cons _ (List.nil_sublist _))) ?_
      refine JL.loadOwn 1 az_27 rfl rfl rfl .none rfl ?_
      refine JA.cont ?_
      refine JA.take 9 (listed' := #[true, true, true, true, true, true, false, true, true, true, false, false, false]) hQ rfl (by kernel_rfl) (by kernel_rfl) (by kernel_rfl) (by kernel_rfl) (by kernel_rfl) hE (HSub.refl _) (.cons_cons _ (.cons_cons _ (List.nil_sublist _))) ?_
      refine JL.lenSL (R := R_Span) ul_27 (SL.mono R_Span_mono hs203 hd_7) .none rfl ?_
      refine JA.cont ?_
      refine JA.many [6] (by kernel_rfl) (by simp) (all_one ⟨_, #[true, true, true, true, true, true, true, true, true, true, false, false, false], rfl, (by kernel_rfl), ?_⟩)
      refine JL.callH (c_ref05_Rounds n H203 d d_v0 (SL.mono R_Section_mono hs203 hd_0) d_v7 (SL.mono R_Span_mono hs203 hd_7) d_v8 (SL.mono RInt.mono hs203 hd_8) y213 t t_v1 (SL.mono RInt.mono hs203 ht_1) y218 hy218) rfl en_38 .none rfl ?_
      intro H240 y218a_v0 hs240 hy218a_0
      refine JA.after hE hs240 (.cons_cons _ (.cons_cons _ (List.nil_sublist _))) ?_
      refine JA.many [10] (by kernel_rfl) (by simp) (all_one ⟨_, #[true, true, true, true, true, true, true, true, true, true, true, false, false], rfl, (by kernel_rfl), ?_⟩)
      refine JL.callH (c_ref05_went n H240 y218 y218a_v0 hy218a_0 (d.Ribs.length : Int) y220 hy220) rfl en_61 .none rfl ?_
      intro H241 y220a_v0 hs241 hy220a_0
      refine JA.after hE (HSub.trans hs240 hs241) (.cons_cons _ (.cons_cons _ (List.nil_sublist _))) ?_
      refine JA.many [11] (by kernel_rfl) (by simp) (all_one ⟨_, #[true, true, true, true, true, true, true, true, true, true, true, true, false], rfl, (by kernel_rfl), ?_⟩)
      refine JL.lenSL (R := RInt) ul_28 hy220a_0 .none rfl ?_
      refine JA.after hE (HSub.trans hs240 hs241) (.cons_cons _ (.cons_cons _ (List.nil_sublist _))) ?_
      refine JA.take 12 (listed' := #[true, true, true, true, true, true, true, true, true, true, true, true, true]) hQ rfl (by kernel_rfl) (by kernel_rfl) (by kernel_rfl) (by kernel_rfl) (by kernel_rfl) hE (HSub.trans hs240 hs241) (.cons_cons _ (.cons_cons _ (List.nil_sublist _))) ?_
      refine JL.bin rfl rfl rfl .none rfl ?_
      refine JA.cont ?_
      refine JA.done hQ (by kernel_rfl) ?_
      refine JQ.go ?_
      refine JC.fresh (fun f => f 1 = class__v0 ∧ f 3 = .pointer (some ⟨b1, 0, none⟩) ∧ f 5 = .pointer (some ⟨b2, 0, none⟩) ∧ f 7 = .int .i64 i_202 ∧ f 26 = .bool (decide (0 < (y220.length : Int)))) ⟨rfl, rfl, rfl, rfl, rfl⟩ ?_
      rintro f ⟨hf1, hf3, hf5, hf7, hf26⟩
      refine (JC.norm (i := 1) hf1 (JC.norm (i := 3) hf3 (JC.norm (i := 5) hf5 (JC.norm (i := 7) hf7 (JC.norm (i := 26) hf26 ?_)))))
      rcases ite_some hF with ⟨hc242, hF⟩ | ⟨hc242, hF⟩
      · refine JC.cond_t (b := decide (0 < (y220.length : Int))) rfl hc242 ?_
        refine JC.seq ?_
        refine JC.region (by rfl) ?_
        intro hQ
        refine JL.assign .none rfl ?_
        refine JL.done hQ ?_
        refine JQ.go ?_
        refine JC.ret ?_
        refine JQ.ret_block ?_
        refine JQ.ret_then ?_
        refine JQ.ret_then ?_
        refine JQ.ret_block ?_
        refine JQ.ret_join ?_
        refine JQ.ret_then ?_
        obtain rfl := Option.some.inj hF
        have ehr204 := hr204 _ rfl
        subst ehr204
        have hF := hKr123
        try dsimp only at hF
        obtain rfl := Option.some.inj hF
        exact JQ.outS rfl (.tmp .nil) rfl
      · refine JC.cond_f (b := decide (0 < (y220.length : Int))) rfl hc242 ?_
        refine JC.skip ?_
        refine JQ.normal_block ?_
        refine JQ.go ?_
        refine JC.region (by rfl) ?_
        intro hQ
        refine JL.move .none rfl ?_
        refine JL.bin rfl rfl rfl .none rfl ?_
        refine JL.assign .none rfl ?_
        refine JL.done hQ ?_
        obtain rfl := Option.some.inj hF
        exact JQ.next rfl ⟨rfl, rfl, rfl, rfl, rfl, rfl, (HSub.trans hs203 (HSub.trans hs240 hs241))⟩
    · refine JC.cond_f (b := decide (i_202 < (class_.length : Int))) rfl hc206 ?_
      refine JC.exit ?_
      refine JQ.exit_then ?_
      refine JQ.exit_then ?_
      refine JQ.exit_block ?_
      obtain rfl := Option.some.inj hF
      have ehr204 := hr204 _ rfl
      subst ehr204
      refine JQ.mask [false, false] [] ?_
      exact JQ.join () ⟨rfl, rfl, hs203, rfl⟩
  · rintro _ H122 f bs gs ⟨rfl, rfl, hs122, rfl⟩
    have hF := hKr123
    try dsimp only at hF
    refine JQ.go ?_
    refine JC.seq ?_
    refine JC.region (by rfl) ?_
    intro hQ
    refine JL.assign .none rfl ?_
    refine JL.done hQ ?_
    refine JQ.go ?_
    refine JC.ret ?_
    obtain rfl := Option.some.inj hF
    exact JQ.outS rfl (.tmp .nil) rfl

-- 32 ferrule/ferruleref05.Stands
def F_ref05_Stands (n : Nat) (d : Canopy) (class_ : List Gust) : Option (Int × Int) :=
  (F_ref05_check n d class_).bind fun y2 => if (y2 != 0) = true then (some (0, y2)) else ((F_ref05_ends n d).bind fun y4 => (F_ref05_StandsIn n d class_ y4.2).bind fun y9 => if y9 = true then (some (1, 0)) else ((F_ref05_StandsIn n d class_ y4.1).bind fun y11 => if (!y11) = true then (some (2, 0)) else (some (3, 0))))
set_option maxRecDepth 100000 in
set_option maxHeartbeats 40000000 in
theorem c_ref05_Stands (n : Nat) (H : Hp) (d : Canopy) (d_v0 : Value) (hd_0 : SL H 7 R_Section d_v0 d.Frame.Sections) (d_v7 : Value) (hd_7 : SL H 2 R_Span d_v7 d.Ribs) (d_v8 : Value) (hd_8 : SL H 1 RInt d_v8 d.Shares) (class_ : List Gust) (class__v0 : Value) (hclass__0 : SL H 2 R_Gust class__v0 class_) (y : Int × Int) (hF : F_ref05_Stands n d class_ = some y) : SC Try.prog 32 [.agg [d_v0, .int .i64 d.Frame.Low, .int .i64 d.Frame.High, .int .i64 d.Frame.Ease.Num, .int .i64 d.Frame.Ease.Den, .int .i64 d.Frame.Rod, .int .i64 d.Frame.Case, d_v7, d_v8].toArray, class__v0] (.tuple [.int .i64 y.1, .int .i64 y.2].toArray) H := by
  rw [F_ref05_Stands] at hF
  refine SC.of (N := 31) Try.func32 rfl rfl rfl fun w => ?_
  refine JC.seq ?_
  refine JC.region (by rfl) ?_
  intro hQ
  refine JL.box (cs := [d_v0, .int .i64 d.Frame.Low, .int .i64 d.Frame.High, .int .i64 d.Frame.Ease.Num, .int .i64 d.Frame.Ease.Den, .int .i64 d.Frame.Rod, .int .i64 d.Frame.Case, d_v7, d_v8]) rfl .none rfl ?_
  intro b1
  refine JL.assign .none rfl ?_
  refine JL.assign .none rfl ?_
  refine JL.done hQ ?_
  refine JQ.go ?_
  refine JC.seq ?_
  refine JC.seq ?_
  refine JC.region (by rfl) ?_
  intro hQ
  refine JL.loadOwn 0 az_30 rfl rfl rfl .none rfl ?_
  refine JL.move .none rfl ?_
  obtain ⟨y2, hy2, hF⟩ := bind_some hF
  refine JL.callS (c_ref05_check n H d d_v0 hd_0 d_v7 hd_7 d_v8 hd_8 class_ class__v0 hclass__0 y2 hy2) rfl en_59 .none rfl ?_
  refine JL.assign .none rfl ?_
  refine JL.done hQ ?_
  refine JQ.go ?_
  refine JC.seq ?_
  refine JC.region (by rfl) ?_
  intro hQ
  refine JL.move .none rfl ?_
  refine JL.bin rfl rfl rfl .none rfl ?_
  refine JL.done hQ ?_
  refine JQ.go ?_
  rcases ite_some hF with ⟨hc3, hF⟩ | ⟨hc3, hF⟩
  · refine JC.cond_t (b := (y2 != 0)) rfl hc3 ?_
    refine JC.seq ?_
    refine JC.region (by rfl) ?_
    intro hQ
    refine JL.move .none rfl ?_
    refine JL.assign .none rfl ?_
    refine JL.assign .none rfl ?_
    refine JL.done hQ ?_
    refine JQ.go ?_
    refine JC.ret ?_
    refine JQ.ret_then ?_
    obtain rfl := Option.some.inj hF
    exact JQ.outS rfl (.tmp (.tmp .nil)) rfl
  · refine JC.cond_f (b := (y2 != 0)) rfl hc3 ?_
    refine JC.skip ?_
    refine JQ.go ?_
    refine JC.seq ?_
    refine JC.region (by rfl) ?_
    intro hQ
    refine JL.loadOwn 0 az_30 rfl rfl rfl .none rfl ?_
    obtain ⟨y4, hy4, hF⟩ := bind_some hF
    refine JL.callH (c_ref05_ends n H d d_v0 hd_0 d_v7 hd_7 d_v8 hd_8 y4 hy4) rfl en_60 .none rfl ?_
    rintro H5 vv6 hs5 ⟨y4a_v1, y4b_v1, rfl, hy4a_1, hy4b_1⟩
    refine JL.move .none rfl ?_
    refine JL.extract rfl rfl .none rfl ?_
    refine JL.extract rfl rfl .none rfl ?_
    refine JL.alloc ze_78 .none rfl ?_
    intro b7
    refine JL.alloc ze_78 .none rfl ?_
    intro b8
    refine JL.storeOwn 1 (cs := [.int .i64 y4.1.Lift, y4a_v1]) az_78 rfl rfl rfl (one_cons rfl (one_cons (SL.one hy4a_1) one_nil)) rfl rfl .none ?_
    refine JL.storeOwn 0 (cs := [.int .i64 y4.2.Lift, y4b_v1]) az_78 rfl rfl rfl (one_cons rfl (one_cons (SL.one hy4b_1) one_nil)) rfl rfl .none ?_
    refine JL.done hQ ?_
    refine JQ.go ?_
    refine JC.fresh (fun f => f 1 = class__v0 ∧ f 2 = .pointer (some ⟨b1, 0, none⟩) ∧ f 4 = .int .i64 0 ∧ f 5 = .int .i64 0 ∧ f 7 = .pointer (some ⟨b7, 0, none⟩) ∧ f 8 = .pointer (some ⟨b8, 0, none⟩)) ⟨rfl, rfl, rfl, rfl, rfl, rfl⟩ ?_
    rintro f ⟨hf1, hf2, hf4, hf5, hf7, hf8⟩
    refine (JC.norm (i := 1) hf1 (JC.norm (i := 2) hf2 (JC.norm (i := 4) hf4 (JC.norm (i := 5) hf5 (JC.norm (i := 7) hf7 (JC.norm (i := 8) hf8 ?_))))))
    refine JC.seq ?_
    refine JC.block ?_
    refine JC.seq ?_
    refine JC.region (by rfl) ?_
    intro hQ
    refine JL.loadOwn 2 az_30 rfl rfl rfl .none rfl ?_
    refine JL.move .none rfl ?_
    refine JL.loadOwn 0 az_78 rfl rfl rfl .none rfl ?_
    obtain ⟨y9, hy9, hF⟩ := bind_some hF
    refine JL.callS (c_ref05_StandsIn n H5 d d_v0 (SL.mono R_Section_mono hs5 hd_0) d_v7 (SL.mono R_Span_mono hs5 hd_7) d_v8 (SL.mono RInt.mono hs5 hd_8) class_ class__v0 (SL.mono R_Gust_mono hs5 hclass__0) y4.2 y4b_v1 hy4b_1 y9 hy9) rfl en_40 .none rfl ?_
    refine JL.assign .none rfl ?_
    refine JL.done hQ ?_
    refine JQ.go ?_
    rcases ite_some hF with ⟨hc10, hF⟩ | ⟨hc10, hF⟩
    · refine JC.cond_t (b := y9) rfl hc10 ?_
      refine JC.seq ?_
      refine JC.region (by rfl) ?_
      intro hQ
      refine JL.assign .none rfl ?_
      refine JL.assign .none rfl ?_
      refine JL.done hQ ?_
      refine JQ.go ?_
      refine JC.ret ?_
      refine JQ.ret_block ?_
      refine JQ.ret_then ?_
      obtain rfl := Option.some.inj hF
      exact JQ.outS rfl (.tmp (.tmp .nil)) rfl
    · refine JC.cond_f (b := y9) rfl hc10 ?_
      refine JC.seq ?_
      refine JC.region (by rfl) ?_
      intro hQ
      refine JL.loadOwn 2 az_30 rfl rfl rfl .none rfl ?_
      refine JL.move .none rfl ?_
      refine JL.loadOwn 1 az_78 rfl rfl rfl .none rfl ?_
      obtain ⟨y11, hy11, hF⟩ := bind_some hF
      refine JL.callS (c_ref05_StandsIn n H5 d d_v0 (SL.mono R_Section_mono hs5 hd_0) d_v7 (SL.mono R_Span_mono hs5 hd_7) d_v8 (SL.mono RInt.mono hs5 hd_8) class_ class__v0 (SL.mono R_Gust_mono hs5 hclass__0) y4.1 y4a_v1 hy4a_1 y11 hy11) rfl en_40 .none rfl ?_
      refine JL.not rfl .none rfl ?_
      refine JL.assign .none rfl ?_
      refine JL.done hQ ?_
      refine JQ.go ?_
      refine JC.fresh (fun f => f 4 = .int .i64 0 ∧ f 5 = .int .i64 0 ∧ f 25 = .bool (!y11)) ⟨rfl, rfl, rfl⟩ ?_
      rintro f ⟨hf4, hf5, hf25⟩
      refine (JC.norm (i := 4) hf4 (JC.norm (i := 5) hf5 (JC.norm (i := 25) hf25 ?_)))
      rcases ite_some hF with ⟨hc12, hF⟩ | ⟨hc12, hF⟩
      · refine JC.cond_t (b := (!y11)) rfl hc12 ?_
        refine JC.seq ?_
        refine JC.region (by rfl) ?_
        intro hQ
        refine JL.assign .none rfl ?_
        refine JL.assign .none rfl ?_
        refine JL.done hQ ?_
        refine JQ.go ?_
        refine JC.ret ?_
        refine JQ.ret_block ?_
        refine JQ.ret_then ?_
        obtain rfl := Option.some.inj hF
        exact JQ.outS rfl (.tmp (.tmp .nil)) rfl
      · refine JC.cond_f (b := (!y11)) rfl hc12 ?_
        refine JC.skip ?_
        refine JQ.normal_block ?_
        refine JQ.go ?_
        refine JC.seq ?_
        refine JC.region (by rfl) ?_
        intro hQ
        refine JL.assign .none rfl ?_
        refine JL.assign .none rfl ?_
        refine JL.done hQ ?_
        refine JQ.go ?_
        refine JC.ret ?_
        obtain rfl := Option.some.inj hF
        exact JQ.outS rfl (.tmp (.tmp .nil)) rfl

-- 33 ferrule/ferruleref05.First
def F_ref05_First_s1 (n : Nat) (d : Canopy) (class_ : List Gust) (y4 : ref05_Truth × ref05_Truth) : Int → Option (Int ⊕ ((Int × (List Int) × Int) ⊕ Unit))
  | i_208 => if decide (i_208 < (class_.length : Int)) = true then ((geti class_ i_208).bind fun y219 => (F_ref05_Rounds n d y219 y4.2).bind fun y224 => (F_ref05_went n y224 1).bind fun y226 => if decide (0 < (y226.length : Int)) = true then (some (Sum.inr (Sum.inl (i_208, y226, 0)))) else (some (Sum.inl (w64 (i_208 + 1))))) else (some (Sum.inr (Sum.inr ())))
def F_ref05_First (n : Nat) (d : Canopy) (class_ : List Gust) : Option (Int × (List Int) × Int) :=
  (F_ref05_check n d class_).bind fun y2 => if (y2 != 0) = true then (some (0, ([] : List Int), y2)) else ((F_ref05_ends n d).bind fun y4 => (loopO n (F_ref05_First_s1 n d class_ y4) 0).bind fun r129 => match r129 with | .inl o => some o | .inr _ => some (0, ([] : List Int), 3))
set_option maxRecDepth 100000 in
set_option maxHeartbeats 40000000 in
theorem c_ref05_First (n : Nat) (H : Hp) (d : Canopy) (d_v0 : Value) (hd_0 : SL H 7 R_Section d_v0 d.Frame.Sections) (d_v7 : Value) (hd_7 : SL H 2 R_Span d_v7 d.Ribs) (d_v8 : Value) (hd_8 : SL H 1 RInt d_v8 d.Shares) (class_ : List Gust) (class__v0 : Value) (hclass__0 : SL H 2 R_Gust class__v0 class_) (y : Int × (List Int) × Int) (hF : F_ref05_First n d class_ = some y) : HC Try.prog 33 [.agg [d_v0, .int .i64 d.Frame.Low, .int .i64 d.Frame.High, .int .i64 d.Frame.Ease.Num, .int .i64 d.Frame.Ease.Den, .int .i64 d.Frame.Rod, .int .i64 d.Frame.Case, d_v7, d_v8].toArray, class__v0] H (fun H' v => ∃ rb_v0 : Value, v = .tuple [.int .i64 y.1, rb_v0, .int .i64 y.2.2].toArray ∧ SL H' 1 RInt rb_v0 y.2.1) := by
  rw [F_ref05_First] at hF
  refine HC.of (N := 42) Try.func33 rfl rfl rfl fun w => ?_
  refine JC.seq ?_
  refine JC.region (by rfl) ?_
  intro hQ
  refine JL.box (cs := [d_v0, .int .i64 d.Frame.Low, .int .i64 d.Frame.High, .int .i64 d.Frame.Ease.Num, .int .i64 d.Frame.Ease.Den, .int .i64 d.Frame.Rod, .int .i64 d.Frame.Case, d_v7, d_v8]) rfl .none rfl ?_
  intro b1
  refine JL.assign .none rfl ?_
  refine JL.assign .none rfl ?_
  refine JL.assign .none rfl ?_
  refine JL.done hQ ?_
  refine JQ.go ?_
  refine JC.seq ?_
  refine JC.seq ?_
  refine JC.region (by rfl) ?_
  intro hQ
  refine JL.loadOwn 0 az_30 rfl rfl rfl .none rfl ?_
  refine JL.move .none rfl ?_
  obtain ⟨y2, hy2, hF⟩ := bind_some hF
  refine JL.callS (c_ref05_check n H d d_v0 hd_0 d_v7 hd_7 d_v8 hd_8 class_ class__v0 hclass__0 y2 hy2) rfl en_59 .none rfl ?_
  refine JL.assign .none rfl ?_
  refine JL.done hQ ?_
  refine JQ.go ?_
  refine JC.seq ?_
  refine JC.region (by rfl) ?_
  intro hQ
  refine JL.move .none rfl ?_
  refine JL.bin rfl rfl rfl .none rfl ?_
  refine JL.done hQ ?_
  refine JQ.go ?_
  rcases ite_some hF with ⟨hc3, hF⟩ | ⟨hc3, hF⟩
  · refine JC.cond_t (b := (y2 != 0)) rfl hc3 ?_
    refine JC.seq ?_
    refine JC.region (by rfl) ?_
    intro hQ
    refine JL.move .none rfl ?_
    refine JL.assign .none rfl ?_
    refine JL.assign .none rfl ?_
    refine JL.assign .none rfl ?_
    refine JL.done hQ ?_
    refine JQ.go ?_
    refine JC.ret ?_
    refine JQ.ret_then ?_
    obtain rfl := Option.some.inj hF
    exact JQ.outH rfl (.tmp (.tmp (.tmp .nil))) ⟨(.slice none 0 0), rfl, SL.nil⟩
  · refine JC.cond_f (b := (y2 != 0)) rfl hc3 ?_
    refine JC.skip ?_
    refine JQ.go ?_
    refine JC.seq ?_
    refine JC.region (by rfl) ?_
    intro hQ
    refine JL.loadOwn 0 az_30 rfl rfl rfl .none rfl ?_
    obtain ⟨y4, hy4, hF⟩ := bind_some hF
    refine JL.callH (c_ref05_ends n H d d_v0 hd_0 d_v7 hd_7 d_v8 hd_8 y4 hy4) rfl en_60 .none rfl ?_
    rintro H5 vv6 hs5 ⟨y4a_v1, y4b_v1, rfl, hy4a_1, hy4b_1⟩
    refine JL.move .none rfl ?_
    refine JL.extract rfl rfl .none rfl ?_
    refine JL.extract rfl rfl .none rfl ?_
    refine JL.alloc ze_78 .none rfl ?_
    intro b7
    refine JL.alloc ze_78 .none rfl ?_
    intro b8
    refine JL.storeOwn 1 (cs := [.int .i64 y4.1.Lift, y4a_v1]) az_78 rfl rfl rfl (one_cons rfl (one_cons (SL.one hy4a_1) one_nil)) rfl rfl .none ?_
    refine JL.storeOwn 0 (cs := [.int .i64 y4.2.Lift, y4b_v1]) az_78 rfl rfl rfl (one_cons rfl (one_cons (SL.one hy4b_1) one_nil)) rfl rfl .none ?_
    refine JL.done hQ ?_
    refine JQ.go ?_
    refine JC.fresh (fun f => f 1 = class__v0 ∧ f 2 = .pointer (some ⟨b1, 0, none⟩) ∧ f 4 = .int .i64 0 ∧ f 5 = .slice none 0 0 ∧ f 6 = .int .i64 0 ∧ f 9 = .pointer (some ⟨b8, 0, none⟩)) ⟨rfl, rfl, rfl, rfl, rfl, rfl⟩ ?_
    rintro f ⟨hf1, hf2, hf4, hf5, hf6, hf9⟩
    refine (JC.norm (i := 1) hf1 (JC.norm (i := 2) hf2 (JC.norm (i := 4) hf4 (JC.norm (i := 5) hf5 (JC.norm (i := 6) hf6 (JC.norm (i := 9) hf9 ?_))))))
    refine JC.seq ?_
    refine JC.seq ?_
    refine JC.region (by rfl) ?_
    intro hQ
    refine JL.assign .none rfl ?_
    refine JL.done hQ ?_
    refine JQ.go ?_
    obtain ⟨r129, hlr129, hKr129⟩ := bind_some hF
    refine JC.join (fun (_ : Unit) H128 f bs gs => bs = [] ∧ gs = [] ∧ HSub H5 H128 ∧ Sum.inr () = r129) ?_ ?_
    · skip
      refine JC.block ?_
      refine JC.mask [true, false, true] [] ?_
      refine JC.loop hlr129 (fun (i_208 : Int) H209 f bs gs => f 1 = class__v0 ∧ f 2 = .pointer (some ⟨b1, 0, none⟩) ∧ f 9 = .pointer (some ⟨b8, 0, none⟩) ∧ f 10 = .int .i64 i_208 ∧ bs = [(b8, .cells [.int .i64 y4.2.Lift, y4b_v1].toArray 78), (b1, .cells [d_v0, .int .i64 d.Frame.Low, .int .i64 d.Frame.High, .int .i64 d.Frame.Ease.Num, .int .i64 d.Frame.Ease.Den, .int .i64 d.Frame.Rod, .int .i64 d.Frame.Case, d_v7, d_v8].toArray 30)] ∧ gs = [] ∧ HSub H5 H209) ⟨rfl, rfl, rfl, rfl, rfl, rfl, (HSub.refl _)⟩ ?_
      rintro i_208 x211 H209 f bs gs ⟨hf1, hf2, hf9, hf10, rfl, rfl, hs209⟩ hF hr210
      rw [F_ref05_First_s1] at hF
      refine (JC.norm (i := 1) hf1 (JC.norm (i := 2) hf2 (JC.norm (i := 9) hf9 (JC.norm (i := 10) hf10 ?_))))
      refine JC.seq ?_
      refine JC.seq ?_
      refine JC.region (by rfl) ?_
      intro hQ
      refine JL.move .none rfl ?_
      refine JL.move .none rfl ?_
      refine JL.lenSL (R := R_Gust) ul_34 (SL.mono R_Gust_mono (HSub.trans hs5 hs209) hclass__0) .none rfl ?_
      refine JL.bin rfl rfl rfl .none rfl ?_
      refine JL.done hQ ?_
      refine JQ.go ?_
      rcases ite_some hF with ⟨hc212, hF⟩ | ⟨hc212, hF⟩
      · refine JC.cond_t (b := decide (i_208 < (class_.length : Int))) rfl hc212 ?_
        refine JC.skip ?_
        refine JQ.go ?_
        refine JC.seq ?_
        refine JC.block ?_
        refine JC.seq ?_
        obtain ⟨y219, hy219, hF⟩ := bind_some hF
        obtain ⟨y224, hy224, hF⟩ := bind_some hF
        obtain ⟨y226, hy226, hF⟩ := bind_some hF
        refine JC.mixed 9 9 #[false, false, false, false, false, false, false, false, false] [(b8, .cells [.int .i64 y4.2.Lift, y4b_v1].toArray 78), (b1, .cells [d_v0, .int .i64 d.Frame.Low, .int .i64 d.Frame.High, .int .i64 d.Frame.Ease.Num, .int .i64 d.Frame.Ease.Den, .int .i64 d.Frame.Rod, .int .i64 d.Frame.Case, d_v7, d_v8].toArray 30)] (by rfl) mo_ (by kernel_rfl) (by kernel_rfl) ?_
        intro hQ hE
        refine JA.take 0 (listed' := #[true, false, false, false, false, false, false, false, false]) hQ rfl (by kernel_rfl) (by kernel_rfl) (by kernel_rfl) (by kernel_rfl) (by kernel_rfl) hE (HSub.refl _) (.cons_cons _ (.cons_cons _ (List.nil_sublist _))) ?_
        refine JL.loadOwn 1 az_30 rfl rfl rfl .none rfl ?_
        refine JA.cont ?_
        refine JA.take 1 (listed' := #[true, true, false, false, false, false, false, false, false]) hQ rfl (by kernel_rfl) (by kernel_rfl) (by kernel_rfl) (by kernel_rfl) (by kernel_rfl) hE (HSub.refl _) (.cons_cons _ (.cons_cons _ (List.nil_sublist _))) ?_
        refine JL.move .none rfl ?_
        refine JA.cont ?_
        refine JA.take 2 (listed' := #[true, true, true, false, false, false, false, false, false]) hQ rfl (by kernel_rfl) (by kernel_rfl) (by kernel_rfl) (by kernel_rfl) (by kernel_rfl) hE (HSub.refl _) (.cons_cons _ (.cons_cons _ (List.nil_sublist _))) ?_
        refine JL.move .none rfl ?_
        refine JA.cont ?_
        refine JA.take 3 (listed' := #[true, true, true, true, false, false, false, false, false]) hQ rfl (by kernel_rfl) (by kernel_rfl) (by kernel_rfl) (by kernel_rfl) (by kernel_rfl) hE (HSub.refl _) (.cons_cons _ (.cons_cons _ (List.nil_sublist _))) ?_
        refine JL.indexSL (R := R_Gust) sl_34 (SL.mono R_Gust_mono (HSub.trans hs5 hs209) hclass__0) rfl hy219 .none rfl ?_
        rintro b242 o243 cs244 hc245 - rfl
        refine JA.cont ?_
        refine JA.take 4 (listed' := #[true, true, true, true, true, false, false, false, false]) hQ rfl (by kernel_rfl) (by kernel_rfl) (by kernel_rfl) (by kernel_rfl) (by kernel_rfl) hE (HSub.refl _) (.cons_cons _ (.cons_cons _ (List.nil_sublist _))) ?_
        refine JL.loadH 0 az_32 rfl hc245 rfl .none rfl ?_
        refine JA.cont ?_
        refine JA.take 5 (listed' := #[true, true, true, true, true, true, false, false, false]) hQ rfl (by kernel_rfl) (by kernel_rfl) (by kernel_rfl) (by kernel_rfl) (by kernel_rfl) hE (HSub.refl _) (.cons_cons _ (.cons_cons _ (List.nil_sublist _))) ?_
        refine JL.loadOwn 0 az_78 rfl rfl rfl .none rfl ?_
        refine JA.cont ?_
        refine JA.many [6] (by kernel_rfl) (by simp) (all_one ⟨_, #[true, true, true, true, true, true, true, false, false], rfl, (by kernel_rfl), ?_⟩)
        refine JL.callH (c_ref05_Rounds n H209 d d_v0 (SL.mono R_Section_mono (HSub.trans hs5 hs209) hd_0) d_v7 (SL.mono R_Span_mono (HSub.trans hs5 hs209) hd_7) d_v8 (SL.mono RInt.mono (HSub.trans hs5 hs209) hd_8) y219 y4.2 y4b_v1 (SL.mono RInt.mono hs209 hy4b_1) y224 hy224) rfl en_38 .none rfl ?_
        intro H246 y224a_v0 hs246 hy224a_0
        refine JA.after hE hs246 (.cons_cons _ (.cons_cons _ (List.nil_sublist _))) ?_
        refine JA.many [7] (by kernel_rfl) (by simp) (all_one ⟨_, #[true, true, true, true, true, true, true, true, false], rfl, (by kernel_rfl), ?_⟩)
        refine JL.callH (c_ref05_went n H246 y224 y224a_v0 hy224a_0 1 y226 hy226) rfl en_61 .none rfl ?_
        intro H247 y226a_v0 hs247 hy226a_0
        refine JA.after hE (HSub.trans hs246 hs247) (.cons_cons _ (.cons_cons _ (List.nil_sublist _))) ?_
        refine JA.take 8 (listed' := #[true, true, true, true, true, true, true, true, true]) hQ rfl (by kernel_rfl) (by kernel_rfl) (by kernel_rfl) (by kernel_rfl) (by kernel_rfl) hE (HSub.trans hs246 hs247) (.cons_cons _ (.cons_cons _ (List.nil_sublist _))) ?_
        refine JL.assign .none rfl ?_
        refine JA.cont ?_
        refine JA.done hQ (by kernel_rfl) ?_
        refine JQ.go ?_
        refine JC.fresh (fun f => f 1 = class__v0 ∧ f 2 = .pointer (some ⟨b1, 0, none⟩) ∧ f 9 = .pointer (some ⟨b8, 0, none⟩) ∧ f 10 = .int .i64 i_208 ∧ f 11 = y226a_v0) ⟨rfl, rfl, rfl, rfl, rfl⟩ ?_
        rintro f ⟨hf1, hf2, hf9, hf10, hf11⟩
        refine (JC.norm (i := 1) hf1 (JC.norm (i := 2) hf2 (JC.norm (i := 9) hf9 (JC.norm (i := 10) hf10 (JC.norm (i := 11) hf11 ?_)))))
        refine JC.seq ?_
        refine JC.region (by rfl) ?_
        intro hQ
        refine JL.move .none rfl ?_
        refine JL.lenSL (R := RInt) ul_28 hy226a_0 .none rfl ?_
        refine JL.bin rfl rfl rfl .none rfl ?_
        refine JL.done hQ ?_
        refine JQ.go ?_
        rcases ite_some hF with ⟨hc248, hF⟩ | ⟨hc248, hF⟩
        · refine JC.cond_t (b := decide (0 < (y226.length : Int))) rfl hc248 ?_
          refine JC.seq ?_
          refine JC.region (by rfl) ?_
          intro hQ
          refine JL.move .none rfl ?_
          refine JL.move .none rfl ?_
          refine JL.assign .none rfl ?_
          refine JL.assign .none rfl ?_
          refine JL.assign .none rfl ?_
          refine JL.done hQ ?_
          refine JQ.go ?_
          refine JC.ret ?_
          refine JQ.ret_block ?_
          refine JQ.ret_then ?_
          refine JQ.ret_then ?_
          refine JQ.ret_block ?_
          refine JQ.ret_join ?_
          refine JQ.ret_then ?_
          obtain rfl := Option.some.inj hF
          have ehr210 := hr210 _ rfl
          subst ehr210
          have hF := hKr129
          try dsimp only at hF
          obtain rfl := Option.some.inj hF
          exact JQ.outH rfl (.tmp (.tmp (.tmp .nil))) ⟨y226a_v0, rfl, hy226a_0⟩
        · refine JC.cond_f (b := decide (0 < (y226.length : Int))) rfl hc248 ?_
          refine JC.skip ?_
          refine JQ.normal_block ?_
          refine JQ.go ?_
          refine JC.region (by rfl) ?_
          intro hQ
          refine JL.move .none rfl ?_
          refine JL.bin rfl rfl rfl .none rfl ?_
          refine JL.assign .none rfl ?_
          refine JL.done hQ ?_
          obtain rfl := Option.some.inj hF
          exact JQ.next rfl ⟨rfl, rfl, rfl, rfl, rfl, rfl, (HSub.trans hs209 (HSub.trans hs246 hs247))⟩
      · refine JC.cond_f (b := decide (i_208 < (class_.length : Int))) rfl hc212 ?_
        refine JC.exit ?_
        refine JQ.exit_then ?_
        refine JQ.exit_then ?_
        refine JQ.exit_block ?_
        obtain rfl := Option.some.inj hF
        have ehr210 := hr210 _ rfl
        subst ehr210
        refine JQ.mask [false, false] [] ?_
        exact JQ.join () ⟨rfl, rfl, hs209, rfl⟩
    · rintro _ H128 f bs gs ⟨rfl, rfl, hs128, rfl⟩
      have hF := hKr129
      try dsimp only at hF
      refine JQ.go ?_
      refine JC.seq ?_
      refine JC.region (by rfl) ?_
      intro hQ
      refine JL.assign .none rfl ?_
      refine JL.assign .none rfl ?_
      refine JL.assign .none rfl ?_
      refine JL.done hQ ?_
      refine JQ.go ?_
      refine JC.ret ?_
      obtain rfl := Option.some.inj hF
      exact JQ.outH rfl (.tmp (.tmp (.tmp .nil))) ⟨(.slice none 0 0), rfl, SL.nil⟩

-- 34 ferrule/ferruleref05.Most
def F_ref05_Most_s1 (n : Nat) (d : Canopy) (at_ : Int) (y8 : ref05_Truth × ref05_Truth) : Int × Int → Option ((Int × Int) ⊕ Int)
  | (f_114, n_115) => if decide (f_114 ≤ 99) = true then ((F_ref05_StandsIn n d [(Gust.mk f_114 at_)] y8.2).bind fun y124 => (if y124 = true then (some f_114) else (some n_115)).bind fun n_126 => some (Sum.inl ((w64 (f_114 + 1)), n_126))) else (some (Sum.inr n_115))
def F_ref05_Most (n : Nat) (d : Canopy) (at_ : Int) : Option (Int × Int) :=
  (F_ref05_check n d [(Gust.mk 0 at_)]).bind fun y6 => if (y6 != 0) = true then (some (0, y6)) else ((F_ref05_ends n d).bind fun y8 => (loopO n (F_ref05_Most_s1 n d at_ y8) (0, 0)).bind fun n_70 => some (n_70, 0))
set_option maxRecDepth 100000 in
set_option maxHeartbeats 40000000 in
theorem c_ref05_Most (n : Nat) (H : Hp) (d : Canopy) (d_v0 : Value) (hd_0 : SL H 7 R_Section d_v0 d.Frame.Sections) (d_v7 : Value) (hd_7 : SL H 2 R_Span d_v7 d.Ribs) (d_v8 : Value) (hd_8 : SL H 1 RInt d_v8 d.Shares) (at_ : Int) (y : Int × Int) (hF : F_ref05_Most n d at_ = some y) : SC Try.prog 34 [.agg [d_v0, .int .i64 d.Frame.Low, .int .i64 d.Frame.High, .int .i64 d.Frame.Ease.Num, .int .i64 d.Frame.Ease.Den, .int .i64 d.Frame.Rod, .int .i64 d.Frame.Case, d_v7, d_v8].toArray, .int .i64 at_] (.tuple [.int .i64 y.1, .int .i64 y.2].toArray) H := by
  rw [F_ref05_Most] at hF
  refine SC.of (N := 37) Try.func34 rfl rfl rfl fun w => ?_
  refine JC.seq ?_
  refine JC.region (by rfl) ?_
  intro hQ
  refine JL.box (cs := [d_v0, .int .i64 d.Frame.Low, .int .i64 d.Frame.High, .int .i64 d.Frame.Ease.Num, .int .i64 d.Frame.Ease.Den, .int .i64 d.Frame.Rod, .int .i64 d.Frame.Case, d_v7, d_v8]) rfl .none rfl ?_
  intro b1
  refine JL.assign .none rfl ?_
  refine JL.assign .none rfl ?_
  refine JL.done hQ ?_
  refine JQ.go ?_
  refine JC.seq ?_
  refine JC.seq ?_
  refine JC.region (by rfl) ?_
  intro hQ
  refine JL.loadOwn 0 az_30 rfl rfl rfl .none rfl ?_
  refine JL.move .none rfl ?_
  refine JL.build (l := [.int .i64 0, .int .i64 at_]) (by kernel_rfl) .none rfl ?_
  refine JL.buildSlice (e := 32) (l := [.int .i64 0, .int .i64 at_]) (by kernel_rfl) .none rfl ?_
  intro b2
  refine JL.freezeC 0 (l := [.int .i64 0, .int .i64 at_]) rfl ?_
  intro H3 hs3 hc4
  have hg5 : SL H3 2 R_Gust (.slice (some ⟨b2, 0, none⟩) 1 1) [(Gust.mk 0 at_)] := CH.sl (l := [(Gust.mk 0 at_)]) (CH.cons (cs := [.int .i64 0, .int .i64 at_]) rfl rfl CH.nil) hc4 ⟨by simp, by simp⟩
  obtain ⟨y6, hy6, hF⟩ := bind_some hF
  refine JL.callS (c_ref05_check n H3 d d_v0 (SL.mono R_Section_mono hs3 hd_0) d_v7 (SL.mono R_Span_mono hs3 hd_7) d_v8 (SL.mono RInt.mono hs3 hd_8) [(Gust.mk 0 at_)] (.slice (some ⟨b2, 0, none⟩) 1 1) hg5 y6 hy6) rfl en_59 .none rfl ?_
  refine JL.assign .none rfl ?_
  refine JL.done hQ ?_
  refine JQ.go ?_
  refine JC.seq ?_
  refine JC.region (by rfl) ?_
  intro hQ
  refine JL.move .none rfl ?_
  refine JL.bin rfl rfl rfl .none rfl ?_
  refine JL.done hQ ?_
  refine JQ.go ?_
  rcases ite_some hF with ⟨hc7, hF⟩ | ⟨hc7, hF⟩
  · refine JC.cond_t (b := (y6 != 0)) rfl hc7 ?_
    refine JC.seq ?_
    refine JC.region (by rfl) ?_
    intro hQ
    refine JL.move .none rfl ?_
    refine JL.assign .none rfl ?_
    refine JL.assign .none rfl ?_
    refine JL.done hQ ?_
    refine JQ.go ?_
    refine JC.fresh (fun f => f 4 = .int .i64 0 ∧ f 5 = .int .i64 y6) ⟨rfl, rfl⟩ ?_
    rintro f ⟨hf4, hf5⟩
    refine (JC.norm (i := 4) hf4 (JC.norm (i := 5) hf5 ?_))
    refine JC.ret ?_
    refine JQ.ret_then ?_
    obtain rfl := Option.some.inj hF
    exact JQ.outS rfl (.tmp (.tmp .nil)) rfl
  · refine JC.cond_f (b := (y6 != 0)) rfl hc7 ?_
    refine JC.skip ?_
    refine JQ.go ?_
    refine JC.seq ?_
    refine JC.region (by rfl) ?_
    intro hQ
    refine JL.loadOwn 0 az_30 rfl rfl rfl .none rfl ?_
    obtain ⟨y8, hy8, hF⟩ := bind_some hF
    refine JL.callH (c_ref05_ends n H3 d d_v0 (SL.mono R_Section_mono hs3 hd_0) d_v7 (SL.mono R_Span_mono hs3 hd_7) d_v8 (SL.mono RInt.mono hs3 hd_8) y8 hy8) rfl en_60 .none rfl ?_
    rintro H9 vv10 hs9 ⟨y8a_v1, y8b_v1, rfl, hy8a_1, hy8b_1⟩
    refine JL.move .none rfl ?_
    refine JL.extract rfl rfl .none rfl ?_
    refine JL.extract rfl rfl .none rfl ?_
    refine JL.alloc ze_78 .none rfl ?_
    intro b11
    refine JL.alloc ze_78 .none rfl ?_
    intro b12
    refine JL.storeOwn 1 (cs := [.int .i64 y8.1.Lift, y8a_v1]) az_78 rfl rfl rfl (one_cons rfl (one_cons (SL.one hy8a_1) one_nil)) rfl rfl .none ?_
    refine JL.storeOwn 0 (cs := [.int .i64 y8.2.Lift, y8b_v1]) az_78 rfl rfl rfl (one_cons rfl (one_cons (SL.one hy8b_1) one_nil)) rfl rfl .none ?_
    refine JL.done hQ ?_
    refine JQ.go ?_
    refine JC.fresh (fun f => f 1 = .int .i64 at_ ∧ f 2 = .pointer (some ⟨b1, 0, none⟩) ∧ f 4 = .int .i64 0 ∧ f 5 = .int .i64 0 ∧ f 8 = .pointer (some ⟨b12, 0, none⟩)) ⟨rfl, rfl, rfl, rfl, rfl⟩ ?_
    rintro f ⟨hf1, hf2, hf4, hf5, hf8⟩
    refine (JC.norm (i := 1) hf1 (JC.norm (i := 2) hf2 (JC.norm (i := 4) hf4 (JC.norm (i := 5) hf5 (JC.norm (i := 8) hf8 ?_)))))
    refine JC.seq ?_
    refine JC.region (by rfl) ?_
    intro hQ
    refine JL.assign .none rfl ?_
    refine JL.done hQ ?_
    refine JQ.go ?_
    refine JC.seq ?_
    refine JC.seq ?_
    refine JC.region (by rfl) ?_
    intro hQ
    refine JL.assign .none rfl ?_
    refine JL.done hQ ?_
    refine JQ.go ?_
    obtain ⟨r72, hlr72, hKr72⟩ := bind_some hF
    refine JC.join (fun (n_70 : Int) H71 f bs gs => f 9 = .int .i64 n_70 ∧ bs = [] ∧ gs = [] ∧ HSub H9 H71 ∧ n_70 = r72) ?_ ?_
    · skip
      refine JC.block ?_
      refine JC.mask [true, false, true] [] ?_
      refine JC.loop hlr72 (fun (x : Int × Int) H116 f bs gs => match x with | (f_114, n_115) => f 1 = .int .i64 at_ ∧ f 2 = .pointer (some ⟨b1, 0, none⟩) ∧ f 8 = .pointer (some ⟨b12, 0, none⟩) ∧ f 9 = .int .i64 n_115 ∧ f 10 = .int .i64 f_114 ∧ bs = [(b12, .cells [.int .i64 y8.2.Lift, y8b_v1].toArray 78), (b1, .cells [d_v0, .int .i64 d.Frame.Low, .int .i64 d.Frame.High, .int .i64 d.Frame.Ease.Num, .int .i64 d.Frame.Ease.Den, .int .i64 d.Frame.Rod, .int .i64 d.Frame.Case, d_v7, d_v8].toArray 30)] ∧ gs = [] ∧ HSub H9 H116) ⟨rfl, rfl, rfl, rfl, rfl, rfl, rfl, (HSub.refl _)⟩ ?_
      rintro ⟨f_114, n_115⟩ x118 H116 f bs gs ⟨hf1, hf2, hf8, hf9, hf10, rfl, rfl, hs116⟩ hF hr117
      rw [F_ref05_Most_s1] at hF
      refine (JC.norm (i := 1) hf1 (JC.norm (i := 2) hf2 (JC.norm (i := 8) hf8 (JC.norm (i := 9) hf9 (JC.norm (i := 10) hf10 ?_)))))
      refine JC.seq ?_
      refine JC.seq ?_
      refine JC.region (by rfl) ?_
      intro hQ
      refine JL.move .none rfl ?_
      refine JL.bin rfl rfl rfl .none rfl ?_
      refine JL.done hQ ?_
      refine JQ.go ?_
      rcases ite_some hF with ⟨hc119, hF⟩ | ⟨hc119, hF⟩
      · refine JC.cond_t (b := decide (f_114 ≤ 99)) rfl hc119 ?_
        refine JC.skip ?_
        refine JQ.go ?_
        refine JC.seq ?_
        refine JC.block ?_
        refine JC.seq ?_
        refine JC.region (by rfl) ?_
        intro hQ
        refine JL.loadOwn 1 az_30 rfl rfl rfl .none rfl ?_
        refine JL.move .none rfl ?_
        refine JL.move .none rfl ?_
        refine JL.build (l := [.int .i64 f_114, .int .i64 at_]) (by kernel_rfl) .none rfl ?_
        refine JL.buildSlice (e := 32) (l := [.int .i64 f_114, .int .i64 at_]) (by kernel_rfl) .none rfl ?_
        intro b120
        refine JL.loadOwn 1 az_78 rfl rfl rfl .none rfl ?_
        refine JL.freezeC 0 (l := [.int .i64 f_114, .int .i64 at_]) rfl ?_
        intro H121 hs121 hc122
        have hg123 : SL H121 2 R_Gust (.slice (some ⟨b120, 0, none⟩) 1 1) [(Gust.mk f_114 at_)] := CH.sl (l := [(Gust.mk f_114 at_)]) (CH.cons (cs := [.int .i64 f_114, .int .i64 at_]) rfl rfl CH.nil) hc122 ⟨by simp, by simp⟩
        obtain ⟨y124, hy124, hF⟩ := bind_some hF
        refine JL.callS (c_ref05_StandsIn n H121 d d_v0 (SL.mono R_Section_mono (HSub.trans hs3 (HSub.trans hs9 (HSub.trans hs116 hs121))) hd_0) d_v7 (SL.mono R_Span_mono (HSub.trans hs3 (HSub.trans hs9 (HSub.trans hs116 hs121))) hd_7) d_v8 (SL.mono RInt.mono (HSub.trans hs3 (HSub.trans hs9 (HSub.trans hs116 hs121))) hd_8) [(Gust.mk f_114 at_)] (.slice (some ⟨b120, 0, none⟩) 1 1) hg123 y8.2 y8b_v1 (SL.mono RInt.mono (HSub.trans hs116 hs121) hy8b_1) y124 hy124) rfl en_40 .none rfl ?_
        refine JL.done hQ ?_
        refine JQ.go ?_
        refine JC.fresh (fun f => f 1 = .int .i64 at_ ∧ f 2 = .pointer (some ⟨b1, 0, none⟩) ∧ f 8 = .pointer (some ⟨b12, 0, none⟩) ∧ f 9 = .int .i64 n_115 ∧ f 10 = .int .i64 f_114 ∧ f 34 = .bool y124) ⟨rfl, rfl, rfl, rfl, rfl, rfl⟩ ?_
        rintro f ⟨hf1, hf2, hf8, hf9, hf10, hf34⟩
        refine (JC.norm (i := 1) hf1 (JC.norm (i := 2) hf2 (JC.norm (i := 8) hf8 (JC.norm (i := 9) hf9 (JC.norm (i := 10) hf10 (JC.norm (i := 34) hf34 ?_))))))
        obtain ⟨r128, hlr128, hKr128⟩ := bind_some hF
        refine JC.join (fun (n_126 : Int) H127 f bs gs => f 1 = .int .i64 at_ ∧ f 2 = .pointer (some ⟨b1, 0, none⟩) ∧ f 8 = .pointer (some ⟨b12, 0, none⟩) ∧ f 9 = .int .i64 n_126 ∧ f 10 = .int .i64 f_114 ∧ bs = [(b12, .cells [.int .i64 y8.2.Lift, y8b_v1].toArray 78), (b1, .cells [d_v0, .int .i64 d.Frame.Low, .int .i64 d.Frame.High, .int .i64 d.Frame.Ease.Num, .int .i64 d.Frame.Ease.Den, .int .i64 d.Frame.Rod, .int .i64 d.Frame.Case, d_v7, d_v8].toArray 30)] ∧ gs = [] ∧ HSub H121 H127 ∧ n_126 = r128) ?_ ?_
        · have hF := hlr128
          rcases ite_some hF with ⟨hc129, hF⟩ | ⟨hc129, hF⟩
          · refine JC.cond_t (b := y124) rfl hc129 ?_
            refine JC.region (by rfl) ?_
            intro hQ
            refine JL.move .none rfl ?_
            refine JL.assign .none rfl ?_
            refine JL.done hQ ?_
            obtain rfl := Option.some.inj hF
            exact JQ.join f_114 ⟨rfl, rfl, rfl, rfl, rfl, rfl, rfl, (HSub.refl _), rfl⟩
          · refine JC.cond_f (b := y124) rfl hc129 ?_
            refine JC.skip ?_
            obtain rfl := Option.some.inj hF
            exact JQ.join n_115 ⟨rfl, rfl, rfl, rfl, rfl, rfl, rfl, (HSub.refl _), rfl⟩
        · rintro n_126 H127 f bs gs ⟨hf1, hf2, hf8, hf9, hf10, rfl, rfl, hs127, rfl⟩
          have hF := hKr128
          try dsimp only at hF
          refine (JQ.norm (i := 1) hf1 (JQ.norm (i := 2) hf2 (JQ.norm (i := 8) hf8 (JQ.norm (i := 9) hf9 (JQ.norm (i := 10) hf10 ?_)))))
          refine JQ.normal_block ?_
          refine JQ.go ?_
          refine JC.region (by rfl) ?_
          intro hQ
          refine JL.move .none rfl ?_
          refine JL.bin rfl rfl rfl .none rfl ?_
          refine JL.assign .none rfl ?_
          refine JL.done hQ ?_
          obtain rfl := Option.some.inj hF
          exact JQ.next rfl ⟨rfl, rfl, rfl, rfl, rfl, rfl, rfl, (HSub.trans hs116 (HSub.trans hs121 hs127))⟩
      · refine JC.cond_f (b := decide (f_114 ≤ 99)) rfl hc119 ?_
        refine JC.exit ?_
        refine JQ.exit_then ?_
        refine JQ.exit_then ?_
        refine JQ.exit_block ?_
        obtain rfl := Option.some.inj hF
        have ehr117 := hr117 _ rfl
        subst ehr117
        refine JQ.mask [false, false] [] ?_
        exact JQ.join n_115 ⟨rfl, rfl, rfl, hs116, rfl⟩
    · rintro n_70 H71 f bs gs ⟨hf9, rfl, rfl, hs71, rfl⟩
      have hF := hKr72
      try dsimp only at hF
      refine (JQ.norm (i := 9) hf9 ?_)
      refine JQ.go ?_
      refine JC.seq ?_
      refine JC.region (by rfl) ?_
      intro hQ
      refine JL.move .none rfl ?_
      refine JL.assign .none rfl ?_
      refine JL.assign .none rfl ?_
      refine JL.done hQ ?_
      refine JQ.go ?_
      refine JC.ret ?_
      obtain rfl := Option.some.inj hF
      exact JQ.outS rfl (.tmp (.tmp .nil)) rfl

end Go.Proofs.Ytcpnnfdhafbemaa
