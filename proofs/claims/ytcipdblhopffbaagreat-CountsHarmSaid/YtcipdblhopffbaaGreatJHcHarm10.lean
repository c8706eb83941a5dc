/-
  A part of the proof of HcHarm: the texts HaGenK17, HaGenK18, HaGenK19, EngP.
-/
import Derived.Test.YtcipdblhopffbaaGreatJHcHarm9
section
set_option maxRecDepth 100000
set_option maxHeartbeats 40000000
namespace Go.Proofs.YtcipdblhopffbaaGreat
open Go Go.RowKit Go.Dec
set_option linter.unusedVariables false
-- 57 ferrule/ferruleref05.went
def F_ref05_went_s1 (n : Nat) (rounds : List Int) (last : Int) : Int × List Int → Option ((Int × List Int) ⊕ (List Int))
 | (i_163, out_164) => if decide (i_163 < (rounds.length : Int)) = true then ((geti rounds i_163).bind fun y169 => (F_ref05_within n y169 1 last).bind fun y174 => (if y174 = true then ((lim (out_164 ++ [i_163])).bind fun l186 => some l186) else (some out_164)).bind fun out_181 => some (Sum.inl ((w64 (i_163 + 1)), out_181))) else (some (Sum.inr out_164))
def F_ref05_went (n : Nat) (rounds : List Int) (last : Int) : Option (List Int) :=
 (loopO n (F_ref05_went_s1 n rounds last) (0, ([] : List Int))).bind fun out_110 => some out_110
theorem c_ref05_went (n : Nat) (H : Hp) (rounds : List Int) (rounds_v0 : Value) (hrounds_0 : SL H 1 RInt rounds_v0 rounds) (last : Int) (y : (List Int)) (hF : F_ref05_went n rounds last = some y) : HC Tryz.prog 57 [rounds_v0, .int .i64 last] H (fun H' ra_v0 => SL H' 1 RInt ra_v0 y) := by
 rw [F_ref05_went] at hF
 refine HC.of (N := 24) Tryz.func57 rfl rfl rfl fun w => ?_
 refine JC.seq (JC.region (by rfl) ?_)
 intro hQ
 refine JL.assign .none rfl (JL.done hQ (JQ.go (JC.seq (JC.region (by rfl) ?_))))
 intro hQ
 refine JL.assign .none rfl (JL.done hQ (JQ.go (JC.seq (JC.seq (JC.region (by rfl) ?_)))))
 intro hQ
 refine JL.assign .none rfl (JL.done hQ (JQ.go (JC.newNil (e := 3) (sz := 1) ?_)))
 obtain ⟨r112, hlr112, hKr112⟩ := bind_some hF
 refine JC.join (fun (out_110 : List Int) H111 f bs gs => ∃ (vout_110 : Value) (xsout_110 : List Value), f 5 = vout_110 ∧ bs = [] ∧ gs = [⟨vout_110, 3, 1, out_110.length, xsout_110⟩] ∧ CH H111 1 RInt xsout_110 out_110 ∧ HSub H H111 ∧ out_110 = r112) ?_ ?_
 ·skip
  refine JC.block (JC.loop hlr112 (fun (x : Int × List Int) H165 f bs gs => match x with | (i_163, out_164) => ∃ (vout_164 : Value) (xsout_164 : List Value), f 0 = rounds_v0 ∧ f 1 = .int .i64 last ∧ f 5 = vout_164 ∧ f 6 = .int .i64 i_163 ∧ bs = [] ∧ gs = [⟨vout_164, 3, 1, out_164.length, xsout_164⟩] ∧ CH H165 1 RInt xsout_164 out_164 ∧ HSub H H165) ⟨(.slice none 0 0), [], rfl, rfl, rfl, rfl, rfl, rfl, CH.nil, (HSub.refl _)⟩ ?_)
  rintro ⟨i_163, out_164⟩ x167 H165 f bs gs ⟨vout_164, xsout_164, hf0, hf1, hf5, hf6, rfl, rfl, hout_164, hs165⟩ hF hr166
  rw [F_ref05_went_s1] at hF
  refine (JC.norm (i := 0) hf0 (JC.norm (i := 1) hf1 (JC.norm (i := 5) hf5 (JC.norm (i := 6) hf6 ?_))))
  refine JC.seq (JC.seq (JC.region (by rfl) ?_))
  intro hQ
  refine JL.move .none rfl (JL.move .none rfl (JL.lenSL (R := RInt) ul_28 (SL.mono RInt.mono hs165 hrounds_0) .none rfl ?_))
  refine JL.bin rfl rfl rfl .none rfl (JL.done hQ (JQ.go ?_))
  rcases ite_some hF with ⟨hc168, hF⟩ | ⟨hc168, hF⟩
  ·refine JC.cond_t (b := decide (i_163 < (rounds.length : Int))) rfl hc168 ?_
   refine JC.skip (JQ.go (JC.seq (JC.block (JC.seq (JC.region (by rfl) ?_)))))
   intro hQ
   refine JL.move .none rfl (JL.move .none rfl ?_)
   obtain ⟨y169, hy169, hF⟩ := bind_some hF
   refine JL.indexSL (R := RInt) sl_28 (SL.mono RInt.mono hs165 hrounds_0) rfl hy169 .none rfl ?_
   rintro b170 o171 cs172 hc173 - rfl
   refine JL.loadH 0 az_3 rfl hc173 rfl .none rfl ?_
   refine JL.move .none rfl ?_
   obtain ⟨y174, hy174, hF⟩ := bind_some hF
   refine JL.callS (c_ref05_within n H165 y169 1 last y174 hy174) rfl en_52 .none rfl ?_
   refine JL.done hQ (JQ.go (JC.fresh (fun f => f 0 = rounds_v0 ∧ f 1 = .int .i64 last ∧ f 5 = vout_164 ∧ f 6 = .int .i64 i_163 ∧ f 18 = .bool y174) ⟨rfl, rfl, rfl, rfl, rfl⟩ ?_))
   rintro f ⟨hf0, hf1, hf5, hf6, hf18⟩
   refine (JC.norm (i := 0) hf0 (JC.norm (i := 1) hf1 (JC.norm (i := 5) hf5 (JC.norm (i := 6) hf6 (JC.norm (i := 18) hf18 ?_)))))
   obtain ⟨r183, hlr183, hKr183⟩ := bind_some hF
   refine JC.join (fun (out_181 : List Int) H182 f bs gs => ∃ (vout_181 : Value) (xsout_181 : List Value), f 0 = rounds_v0 ∧ f 1 = .int .i64 last ∧ f 5 = vout_181 ∧ f 6 = .int .i64 i_163 ∧ bs = [] ∧ gs = [⟨vout_181, 3, 1, out_181.length, xsout_181⟩] ∧ CH H182 1 RInt xsout_181 out_181 ∧ HSub H165 H182 ∧ out_181 = r183) ?_ ?_
   ·have hF := hlr183
    rcases ite_some hF with ⟨hc184, hF⟩ | ⟨hc184, hF⟩
    ·refine JC.cond_t (b := y174) rfl hc184 ?_
     refine JC.region (by rfl) ?_
     intro hQ
     refine JL.move .none rfl (JL.move .none rfl (JL.buildSlice (e := 3) (l := [.int .i64 i_163]) (by kernel_rfl) .none rfl ?_))
     intro b185
     obtain ⟨l186, hl186, hF⟩ := bind_some hF
     refine JL.appO (R := RInt) 0 0 (l := out_164) (m := [i_163]) ap_28 rfl ⟨rfl, rfl⟩ rfl hout_164 rfl rfl rfl (CH.cons (cs := [.int .i64 i_163]) rfl rfl CH.nil) rfl (one_cons rfl one_nil) hl186 .none rfl ?_
     intro v187 xs188 hch189
     refine JL.assign .none rfl (JL.done hQ ?_)
     obtain rfl := Option.some.inj hF
     refine JQ.mask [false] [true] ?_
     exact JQ.join l186 ⟨v187, xs188, rfl, rfl, rfl, rfl, rfl, rfl, hch189, (HSub.refl _), rfl⟩
    ·refine JC.cond_f (b := y174) rfl hc184 ?_
     refine JC.skip ?_
     obtain rfl := Option.some.inj hF
     exact JQ.join out_164 ⟨vout_164, xsout_164, rfl, rfl, rfl, rfl, rfl, rfl, hout_164, (HSub.refl _), rfl⟩
   ·rintro out_181 H182 f bs gs ⟨vout_181, xsout_181, hf0, hf1, hf5, hf6, rfl, rfl, hout_181, hs182, rfl⟩
    have hF := hKr183
    try dsimp only at hF
    refine (JQ.norm (i := 0) hf0 (JQ.norm (i := 1) hf1 (JQ.norm (i := 5) hf5 (JQ.norm (i := 6) hf6 ?_))))
    refine JQ.normal_block (JQ.go (JC.region (by rfl) ?_))
    intro hQ
    refine JL.move .none rfl (JL.bin rfl rfl rfl .none rfl (JL.assign .none rfl (JL.done hQ ?_)))
    obtain rfl := Option.some.inj hF
    exact JQ.next rfl ⟨vout_181, xsout_181, rfl, rfl, rfl, rfl, rfl, rfl, hout_181, (HSub.trans hs165 hs182)⟩
  ·refine JC.cond_f (b := decide (i_163 < (rounds.length : Int))) rfl hc168 ?_
   refine JC.exit (JQ.exit_then (JQ.exit_then (JQ.exit_block ?_)))
   obtain rfl := Option.some.inj hF
   have ehr166 := hr166 _ rfl
   subst ehr166
   exact JQ.join out_164 ⟨vout_164, xsout_164, rfl, rfl, rfl, hout_164, hs165, rfl⟩
 ·rintro out_110 H111 f bs gs ⟨vout_110, xsout_110, hf5, rfl, rfl, hout_110, hs111, rfl⟩
  have hF := hKr112
  try dsimp only at hF
  refine (JQ.norm (i := 5) hf5 ?_)
  refine JQ.go (JC.seq (JC.region (by rfl) ?_))
  intro hQ
  refine JL.move .none rfl (JL.assign .none rfl (JL.done hQ (JQ.go (JC.ret (JQ.freezeG 0 (R := RInt) rfl RInt.mono hout_110 rfl ?_)))))
  intro H190 hs190 hg191
  obtain rfl := Option.some.inj hF
  exact JQ.outH rfl (.tmp .nil) hg191
-- 20 ferrule/ferruleref05.StandsIn
def F_ref05_StandsIn_s1 (n : Nat) (d : Canopy) (class_ : List Gust) (t : ref05_Truth) : Int → Option (Int ⊕ (Bool ⊕ Unit))
 | i_202 => if decide (i_202 < (class_.length : Int)) = true then ((geti class_ i_202).bind fun y213 => (F_ref05_Rounds n d y213 t).bind fun y218 => (F_ref05_went n y218 (d.Ribs.length : Int)).bind fun y220 => if decide (0 < (y220.length : Int)) = true then (some (Sum.inr (Sum.inl false))) else (some (Sum.inl (w64 (i_202 + 1))))) else (some (Sum.inr (Sum.inr ())))
def F_ref05_StandsIn (n : Nat) (d : Canopy) (class_ : List Gust) (t : ref05_Truth) : Option Bool :=
 (loopO n (F_ref05_StandsIn_s1 n d class_ t) 0).bind fun r123 => match r123 with | .inl o => some o | .inr _ => some true
theorem c_ref05_StandsIn (n : Nat) (H : Hp) (d : Canopy) (d_v0 : Value) (hd_0 : SL H 7 R_Section d_v0 d.Frame.Sections) (d_v7 : Value) (hd_7 : SL H 2 R_Span d_v7 d.Ribs) (d_v8 : Value) (hd_8 : SL H 1 RInt d_v8 d.Shares) (class_ : List Gust) (class__v0 : Value) (hclass__0 : SL H 2 R_Gust class__v0 class_) (t : ref05_Truth) (t_v1 : Value) (ht_1 : SL H 1 RInt t_v1 t.Strengths) (y : Bool) (hF : F_ref05_StandsIn n d class_ t = some y) : SC Tryz.prog 20 [.agg [d_v0, .int .i64 d.Frame.Low, .int .i64 d.Frame.High, .int .i64 d.Frame.Ease.Num, .int .i64 d.Frame.Ease.Den, .int .i64 d.Frame.Rod, .int .i64 d.Frame.Case, d_v7, d_v8].toArray, class__v0, .agg [.int .i64 t.Lift, t_v1].toArray] (.bool y) H := by
 rw [F_ref05_StandsIn] at hF
 refine SC.of (N := 27) Tryz.func20 rfl rfl rfl fun w => ?_
 refine JC.seq (JC.region (by rfl) ?_)
 intro hQ
 refine JL.box (cs := [d_v0, .int .i64 d.Frame.Low, .int .i64 d.Frame.High, .int .i64 d.Frame.Ease.Num, .int .i64 d.Frame.Ease.Den, .int .i64 d.Frame.Rod, .int .i64 d.Frame.Case, d_v7, d_v8]) rfl .none rfl ?_
 intro b1
 refine JL.box (cs := [.int .i64 t.Lift, t_v1]) rfl .none rfl ?_
 intro b2
 refine JL.assign .none rfl (JL.done hQ (JQ.go (JC.seq (JC.seq (JC.region (by rfl) ?_)))))
 intro hQ
 refine JL.assign .none rfl (JL.done hQ (JQ.go ?_))
 obtain ⟨r123, hlr123, hKr123⟩ := bind_some hF
 refine JC.join (fun (_ : Unit) H122 f bs gs => bs = [] ∧ gs = [] ∧ HSub H H122 ∧ Sum.inr () = r123) ?_ ?_
 ·skip
  refine JC.block (JC.loop hlr123 (fun (i_202 : Int) H203 f bs gs => f 1 = class__v0 ∧ f 3 = .pointer (some ⟨b1, 0, none⟩) ∧ f 5 = .pointer (some ⟨b2, 0, none⟩) ∧ f 7 = .int .i64 i_202 ∧ bs = [(b2, .cells [.int .i64 t.Lift, t_v1].toArray 59), (b1, .cells [d_v0, .int .i64 d.Frame.Low, .int .i64 d.Frame.High, .int .i64 d.Frame.Ease.Num, .int .i64 d.Frame.Ease.Den, .int .i64 d.Frame.Rod, .int .i64 d.Frame.Case, d_v7, d_v8].toArray 30)] ∧ gs = [] ∧ HSub H H203) ⟨rfl, rfl, rfl, rfl, rfl, rfl, (HSub.refl _)⟩ ?_)
  rintro i_202 x205 H203 f bs gs ⟨hf1, hf3, hf5, hf7, rfl, rfl, hs203⟩ hF hr204
  rw [F_ref05_StandsIn_s1] at hF
  refine (JC.norm (i := 1) hf1 (JC.norm (i := 3) hf3 (JC.norm (i := 5) hf5 (JC.norm (i := 7) hf7 ?_))))
  refine JC.seq (JC.seq (JC.region (by rfl) ?_))
  intro hQ
  refine JL.move .none rfl (JL.move .none rfl (JL.lenSL (R := R_Gust) ul_65 (SL.mono R_Gust_mono hs203 hclass__0) .none rfl ?_))
  refine JL.bin rfl rfl rfl .none rfl (JL.done hQ (JQ.go ?_))
  rcases ite_some hF with ⟨hc206, hF⟩ | ⟨hc206, hF⟩
  ·refine JC.cond_t (b := decide (i_202 < (class_.length : Int))) rfl hc206 ?_
   refine JC.skip (JQ.go (JC.seq (JC.block (JC.seq ?_))))
   obtain ⟨y213, hy213, hF⟩ := bind_some hF
   obtain ⟨y218, hy218, hF⟩ := bind_some hF
   obtain ⟨y220, hy220, hF⟩ := bind_some hF
   refine JC.mixed 13 13 (tf 0 13) [(b2, .cells [.int .i64 t.Lift, t_v1].toArray 59), (b1, .cells [d_v0, .int .i64 d.Frame.Low, .int .i64 d.Frame.High, .int .i64 d.Frame.Ease.Num, .int .i64 d.Frame.Ease.Den, .int .i64 d.Frame.Rod, .int .i64 d.Frame.Case, d_v7, d_v8].toArray 30)] (by rfl) mo_ (by kernel_rfl) (by kernel_rfl) ?_
   intro hQ hE
   refine JA.tk 0 (tf 1 12) hQ rfl hE (.cons_cons _ (.cons_cons _ (List.nil_sublist _))) ?_
   refine JL.loadOwn 1 az_30 rfl rfl rfl .none rfl (JA.cont ?_)
   refine JA.tk 1 (tf 2 11) hQ rfl hE (.cons_cons _ (.cons_cons _ (List.nil_sublist _))) ?_
   refine JL.move .none rfl (JA.cont ?_)
   refine JA.tk 2 (tf 3 10) hQ rfl hE (.cons_cons _ (.cons_cons _ (List.nil_sublist _))) ?_
   refine JL.move .none rfl (JA.cont ?_)
   refine JA.tk 3 (tf 4 9) hQ rfl hE (.cons_cons _ (.cons_cons _ (List.nil_sublist _))) ?_
   refine JL.indexSL (R := R_Gust) sl_65 (SL.mono R_Gust_mono hs203 hclass__0) rfl hy213 .none rfl ?_
   rintro b236 o237 cs238 hc239 - rfl
   refine JA.cont ?_
   refine JA.tk 4 (tf 5 8) hQ rfl hE (.cons_cons _ (.cons_cons _ (List.nil_sublist _))) ?_
   refine JL.loadH 0 az_64 rfl hc239 rfl .none rfl ?_
   refine JA.cont ?_
   refine JA.tk 5 (tf 6 7) hQ rfl hE (.cons_cons _ (.cons_cons _ (List.nil_sublist _))) ?_
   refine JL.loadOwn 0 az_59 rfl rfl rfl .none rfl (JA.cont ?_)
   refine JA.tk 7 #[true, true, true, true, true, true, false, true, false, false, false, false, false] hQ rfl hE (.cons_cons _ (.cons_cons _ (List.nil_sublist _))) ?_
   refine JL.fieldAddr fo_30_1 rfl .none rfl (JA.cont ?_)
   refine JA.tk 8 #[true, true, true, true, true, true, false, true, true, false, false, false, false] hQ rfl hE (.cons_cons _ (.cons_cons _ (List.nil_sublist _))) ?_
   refine JL.loadOwn 1 az_27 rfl rfl rfl .none rfl (JA.cont ?_)
   refine JA.tk 9 #[true, true, true, true, true, true, false, true, true, true, false, false, false] hQ rfl hE (.cons_cons _ (.cons_cons _ (List.nil_sublist _))) ?_
   refine JL.lenSL (R := R_Span) ul_27 (SL.mono R_Span_mono hs203 hd_7) .none rfl ?_
   refine JA.cont ?_
   refine JA.many [6] (by kernel_rfl) (by simp) (all_one ⟨_, (tf 10 3), rfl, (by kernel_rfl), ?_⟩)
   refine JL.callH (c_ref05_Rounds n H203 d d_v0 (SL.mono R_Section_mono hs203 hd_0) d_v7 (SL.mono R_Span_mono hs203 hd_7) d_v8 (SL.mono RInt.mono hs203 hd_8) y213 t t_v1 (SL.mono RInt.mono hs203 ht_1) y218 hy218) rfl en_58 .none rfl ?_
   intro H240 y218a_v0 hs240 hy218a_0
   refine JA.after hE hs240 (.cons_cons _ (.cons_cons _ (List.nil_sublist _))) ?_
   refine JA.many [10] (by kernel_rfl) (by simp) (all_one ⟨_, (tf 11 2), rfl, (by kernel_rfl), ?_⟩)
   refine JL.callH (c_ref05_went n H240 y218 y218a_v0 hy218a_0 (d.Ribs.length : Int) y220 hy220) rfl en_57 .none rfl ?_
   intro H241 y220a_v0 hs241 hy220a_0
   refine JA.after hE (HSub.trans hs240 hs241) (.cons_cons _ (.cons_cons _ (List.nil_sublist _))) ?_
   refine JA.many [11] (by kernel_rfl) (by simp) (all_one ⟨_, (tf 12 1), rfl, (by kernel_rfl), ?_⟩)
   refine JL.lenSL (R := RInt) ul_28 hy220a_0 .none rfl ?_
   refine JA.after hE (HSub.trans hs240 hs241) (.cons_cons _ (.cons_cons _ (List.nil_sublist _))) ?_
   refine JA.take 12 (listed' := (tf 13 0)) hQ rfl (by kernel_rfl) (by kernel_rfl) (by kernel_rfl) (by kernel_rfl) (by kernel_rfl) hE (HSub.trans hs240 hs241) (.cons_cons _ (.cons_cons _ (List.nil_sublist _))) ?_
   refine JL.bin rfl rfl rfl .none rfl (JA.cont ?_)
   refine JA.done hQ (by kernel_rfl) ?_
   refine JQ.go (JC.fresh (fun f => f 1 = class__v0 ∧ f 3 = .pointer (some ⟨b1, 0, none⟩) ∧ f 5 = .pointer (some ⟨b2, 0, none⟩) ∧ f 7 = .int .i64 i_202 ∧ f 26 = .bool (decide (0 < (y220.length : Int)))) ⟨rfl, rfl, rfl, rfl, rfl⟩ ?_)
   rintro f ⟨hf1, hf3, hf5, hf7, hf26⟩
   refine (JC.norm (i := 1) hf1 (JC.norm (i := 3) hf3 (JC.norm (i := 5) hf5 (JC.norm (i := 7) hf7 (JC.norm (i := 26) hf26 ?_)))))
   rcases ite_some hF with ⟨hc242, hF⟩ | ⟨hc242, hF⟩
   ·refine JC.cond_t (b := decide (0 < (y220.length : Int))) rfl hc242 ?_
    refine JC.seq (JC.region (by rfl) ?_)
    intro hQ
    refine JL.assign .none rfl (JL.done hQ (JQ.go (JC.ret (JQ.ret_block (JQ.ret_then (JQ.ret_then (JQ.ret_block (JQ.ret_join (JQ.ret_then ?_)))))))))
    obtain rfl := Option.some.inj hF
    have ehr204 := hr204 _ rfl
    subst ehr204
    have hF := hKr123
    try dsimp only at hF
    obtain rfl := Option.some.inj hF
    exact JQ.outS rfl (.tmp .nil) rfl
   ·refine JC.cond_f (b := decide (0 < (y220.length : Int))) rfl hc242 ?_
    refine JC.skip (JQ.normal_block (JQ.go (JC.region (by rfl) ?_)))
    intro hQ
    refine JL.move .none rfl (JL.bin rfl rfl rfl .none rfl (JL.assign .none rfl (JL.done hQ ?_)))
    obtain rfl := Option.some.inj hF
    exact JQ.next rfl ⟨rfl, rfl, rfl, rfl, rfl, rfl, (HSub.trans hs203 (HSub.trans hs240 hs241))⟩
  ·refine JC.cond_f (b := decide (i_202 < (class_.length : Int))) rfl hc206 ?_
   refine JC.exit (JQ.exit_then (JQ.exit_then (JQ.exit_block ?_)))
   obtain rfl := Option.some.inj hF
   have ehr204 := hr204 _ rfl
   subst ehr204
   refine JQ.mask [false, false] [] ?_
   exact JQ.join () ⟨rfl, rfl, hs203, rfl⟩
 ·rintro _ H122 f bs gs ⟨rfl, rfl, hs122, rfl⟩
  have hF := hKr123
  try dsimp only at hF
  refine JQ.go (JC.seq (JC.region (by rfl) ?_))
  intro hQ
  refine JL.assign .none rfl (JL.done hQ (JQ.go (JC.ret ?_)))
  obtain rfl := Option.some.inj hF
  exact JQ.outS rfl (.tmp .nil) rfl
-- 77 ferrule/ferruleref05.Stands
def F_ref05_Stands (n : Nat) (d : Canopy) (class_ : List Gust) : Option (Int × Int) :=
 (F_ref05_check n d class_).bind fun y2 => if (y2 != 0) = true then (some (0, y2)) else ((F_ref05_ends n d).bind fun y4 => (F_ref05_StandsIn n d class_ y4.2).bind fun y9 => if y9 = true then (some (1, 0)) else ((F_ref05_StandsIn n d class_ y4.1).bind fun y11 => if (!y11) = true then (some (2, 0)) else (some (3, 0))))
theorem c_ref05_Stands (n : Nat) (H : Hp) (d : Canopy) (d_v0 : Value) (hd_0 : SL H 7 R_Section d_v0 d.Frame.Sections) (d_v7 : Value) (hd_7 : SL H 2 R_Span d_v7 d.Ribs) (d_v8 : Value) (hd_8 : SL H 1 RInt d_v8 d.Shares) (class_ : List Gust) (class__v0 : Value) (hclass__0 : SL H 2 R_Gust class__v0 class_) (y : Int × Int) (hF : F_ref05_Stands n d class_ = some y) : SC Tryz.prog 77 [.agg [d_v0, .int .i64 d.Frame.Low, .int .i64 d.Frame.High, .int .i64 d.Frame.Ease.Num, .int .i64 d.Frame.Ease.Den, .int .i64 d.Frame.Rod, .int .i64 d.Frame.Case, d_v7, d_v8].toArray, class__v0] (.tuple [.int .i64 y.1, .int .i64 y.2].toArray) H := by
 rw [F_ref05_Stands] at hF
 refine SC.of (N := 31) Tryz.func77 rfl rfl rfl fun w => ?_
 refine JC.seq (JC.region (by rfl) ?_)
 intro hQ
 refine JL.box (cs := [d_v0, .int .i64 d.Frame.Low, .int .i64 d.Frame.High, .int .i64 d.Frame.Ease.Num, .int .i64 d.Frame.Ease.Den, .int .i64 d.Frame.Rod, .int .i64 d.Frame.Case, d_v7, d_v8]) rfl .none rfl ?_
 intro b1
 refine JL.assign .none rfl (JL.assign .none rfl (JL.done hQ (JQ.go (JC.seq (JC.seq (JC.region (by rfl) ?_))))))
 intro hQ
 refine JL.loadOwn 0 az_30 rfl rfl rfl .none rfl (JL.move .none rfl ?_)
 obtain ⟨y2, hy2, hF⟩ := bind_some hF
 refine JL.callS (c_ref05_check n H d d_v0 hd_0 d_v7 hd_7 d_v8 hd_8 class_ class__v0 hclass__0 y2 hy2) rfl en_98 .none rfl ?_
 refine JL.assign .none rfl (JL.done hQ (JQ.go (JC.seq (JC.region (by rfl) ?_))))
 intro hQ
 refine JL.move .none rfl (JL.bin rfl rfl rfl .none rfl (JL.done hQ (JQ.go ?_)))
 rcases ite_some hF with ⟨hc3, hF⟩ | ⟨hc3, hF⟩
 ·refine JC.cond_t (b := (y2 != 0)) rfl hc3 ?_
  refine JC.seq (JC.region (by rfl) ?_)
  intro hQ
  refine JL.move .none rfl (JL.assign .none rfl (JL.assign .none rfl (JL.done hQ (JQ.go (JC.ret (JQ.ret_then ?_))))))
  obtain rfl := Option.some.inj hF
  exact JQ.outS rfl (.tmp (.tmp .nil)) rfl
 ·refine JC.cond_f (b := (y2 != 0)) rfl hc3 ?_
  refine JC.skip (JQ.go (JC.seq (JC.region (by rfl) ?_)))
  intro hQ
  refine JL.loadOwn 0 az_30 rfl rfl rfl .none rfl ?_
  obtain ⟨y4, hy4, hF⟩ := bind_some hF
  refine JL.callH (c_ref05_ends n H d d_v0 hd_0 d_v7 hd_7 d_v8 hd_8 y4 hy4) rfl en_99 .none rfl ?_
  rintro H5 vv6 hs5 ⟨y4a_v1, y4b_v1, rfl, hy4a_1, hy4b_1⟩
  refine JL.move .none rfl (JL.extract rfl rfl .none rfl (JL.extract rfl rfl .none rfl (JL.alloc ze_59 .none rfl ?_)))
  intro b7
  refine JL.alloc ze_59 .none rfl ?_
  intro b8
  refine JL.storeOwn 1 (cs := [.int .i64 y4.1.Lift, y4a_v1]) az_59 rfl rfl rfl (one_cons rfl (one_cons (SL.one hy4a_1) one_nil)) rfl rfl .none ?_
  refine JL.storeOwn 0 (cs := [.int .i64 y4.2.Lift, y4b_v1]) az_59 rfl rfl rfl (one_cons rfl (one_cons (SL.one hy4b_1) one_nil)) rfl rfl .none ?_
  refine JL.done hQ (JQ.go (JC.fresh (fun f => f 1 = class__v0 ∧ f 2 = .pointer (some ⟨b1, 0, none⟩) ∧ f 4 = .int .i64 0 ∧ f 5 = .int .i64 0 ∧ f 7 = .pointer (some ⟨b7, 0, none⟩) ∧ f 8 = .pointer (some ⟨b8, 0, none⟩)) ⟨rfl, rfl, rfl, rfl, rfl, rfl⟩ ?_))
  rintro f ⟨hf1, hf2, hf4, hf5, hf7, hf8⟩
  refine (JC.norm (i := 1) hf1 (JC.norm (i := 2) hf2 (JC.norm (i := 4) hf4 (JC.norm (i := 5) hf5 (JC.norm (i := 7) hf7 (JC.norm (i := 8) hf8 ?_))))))
  refine JC.seq (JC.block (JC.seq (JC.region (by rfl) ?_)))
  intro hQ
  refine JL.loadOwn 2 az_30 rfl rfl rfl .none rfl (JL.move .none rfl (JL.loadOwn 0 az_59 rfl rfl rfl .none rfl ?_))
  obtain ⟨y9, hy9, hF⟩ := bind_some hF
  refine JL.callS (c_ref05_StandsIn n H5 d d_v0 (SL.mono R_Section_mono hs5 hd_0) d_v7 (SL.mono R_Span_mono hs5 hd_7) d_v8 (SL.mono RInt.mono hs5 hd_8) class_ class__v0 (SL.mono R_Gust_mono hs5 hclass__0) y4.2 y4b_v1 hy4b_1 y9 hy9) rfl en_20 .none rfl ?_
  refine JL.assign .none rfl (JL.done hQ (JQ.go ?_))
  rcases ite_some hF with ⟨hc10, hF⟩ | ⟨hc10, hF⟩
  ·refine JC.cond_t (b := y9) rfl hc10 ?_
   refine JC.seq (JC.region (by rfl) ?_)
   intro hQ
   refine JL.assign .none rfl (JL.assign .none rfl (JL.done hQ (JQ.go (JC.ret (JQ.ret_block (JQ.ret_then ?_))))))
   obtain rfl := Option.some.inj hF
   exact JQ.outS rfl (.tmp (.tmp .nil)) rfl
  ·refine JC.cond_f (b := y9) rfl hc10 ?_
   refine JC.seq (JC.region (by rfl) ?_)
   intro hQ
   refine JL.loadOwn 2 az_30 rfl rfl rfl .none rfl (JL.move .none rfl (JL.loadOwn 1 az_59 rfl rfl rfl .none rfl ?_))
   obtain ⟨y11, hy11, hF⟩ := bind_some hF
   refine JL.callS (c_ref05_StandsIn n H5 d d_v0 (SL.mono R_Section_mono hs5 hd_0) d_v7 (SL.mono R_Span_mono hs5 hd_7) d_v8 (SL.mono RInt.mono hs5 hd_8) class_ class__v0 (SL.mono R_Gust_mono hs5 hclass__0) y4.1 y4a_v1 hy4a_1 y11 hy11) rfl en_20 .none rfl ?_
   refine JL.not rfl .none rfl (JL.assign .none rfl (JL.done hQ (JQ.go (JC.fresh (fun f => f 4 = .int .i64 0 ∧ f 5 = .int .i64 0 ∧ f 25 = .bool (!y11)) ⟨rfl, rfl, rfl⟩ ?_))))
   rintro f ⟨hf4, hf5, hf25⟩
   refine (JC.norm (i := 4) hf4 (JC.norm (i := 5) hf5 (JC.norm (i := 25) hf25 ?_)))
   rcases ite_some hF with ⟨hc12, hF⟩ | ⟨hc12, hF⟩
   ·refine JC.cond_t (b := (!y11)) rfl hc12 ?_
    refine JC.seq (JC.region (by rfl) ?_)
    intro hQ
    refine JL.assign .none rfl (JL.assign .none rfl (JL.done hQ (JQ.go (JC.ret (JQ.ret_block (JQ.ret_then ?_))))))
    obtain rfl := Option.some.inj hF
    exact JQ.outS rfl (.tmp (.tmp .nil)) rfl
   ·refine JC.cond_f (b := (!y11)) rfl hc12 ?_
    refine JC.skip (JQ.normal_block (JQ.go (JC.seq (JC.region (by rfl) ?_))))
    intro hQ
    refine JL.assign .none rfl (JL.assign .none rfl (JL.done hQ (JQ.go (JC.ret ?_))))
    obtain rfl := Option.some.inj hF
    exact JQ.outS rfl (.tmp (.tmp .nil)) rfl
-- 44 ferrule/ferruleref13.stands
def F_ref13_stands_s2 (n : Nat) (r : Run) (i_2395 : Int) : Int × List Int → Option ((Int × List Int) ⊕ (List Int))
 | (f_2729, out_2730) => (geti r.Blows i_2395).bind fun y2734 => if decide (f_2729 ≤ y2734.Force.High) = true then ((geti r.Blows i_2395).bind fun y2745 => (F_ref05_Stands n r.Canopy [(Gust.mk f_2729 y2745.At)]).bind fun y2754 => (lim (out_2730 ++ [y2754.1])).bind fun l2780 => some (Sum.inl ((w64 (f_2729 + 1)), l2780))) else (some (Sum.inr out_2730))
def F_ref13_stands_s1 (n : Nat) (r : Run) : Int × List (List Int) → Option ((Int × List (List Int)) ⊕ (List (List Int)))
 | (i_2395, out_2396) => if decide (i_2395 < (r.Blows.length : Int)) = true then ((geti r.Blows i_2395).bind fun y2401 => (loopO n (F_ref13_stands_s2 n r i_2395) (y2401.Force.Low, ([] : List Int))).bind fun out_2620 => (lim (out_2396 ++ [out_2620])).bind fun l2789 => some (Sum.inl ((w64 (i_2395 + 1)), l2789))) else (some (Sum.inr out_2396))
def F_ref13_stands (n : Nat) (r : Run) : Option (List (List Int)) :=
 (loopO n (F_ref13_stands_s1 n r) (0, ([] : List (List Int)))).bind fun out_1596 => some out_1596
theorem c_ref13_stands (n : Nat) (H : Hp) (r : Run) (r_v0 : Value) (hr_0 : SL H 7 R_Section r_v0 r.Canopy.Frame.Sections) (r_v7 : Value) (hr_7 : SL H 2 R_Span r_v7 r.Canopy.Ribs) (r_v8 : Value) (hr_8 : SL H 1 RInt r_v8 r.Canopy.Shares) (r_v9 : Value) (hr_9 : SL H 3 R_Blow r_v9 r.Blows) (r_v10 : Value) (hr_10 : SL H 2 R_Meter r_v10 r.Meters) (y : (List (List Int))) (hF : F_ref13_stands n r = some y) : HC Tryz.prog 44 [.agg [r_v0, .int .i64 r.Canopy.Frame.Low, .int .i64 r.Canopy.Frame.High, .int .i64 r.Canopy.Frame.Ease.Num, .int .i64 r.Canopy.Frame.Ease.Den, .int .i64 r.Canopy.Frame.Rod, .int .i64 r.Canopy.Frame.Case, r_v7, r_v8, r_v9, r_v10, .int .i64 r.Wrong].toArray] H (fun H' ra_v0 => SL H' 1 (RSl 1 RInt) ra_v0 y) := by
 rw [F_ref13_stands] at hF
 refine HC.of (N := 58) Tryz.func44 rfl rfl rfl fun w => ?_
 refine JC.seq (JC.region (by rfl) ?_)
 intro hQ
 refine JL.box (cs := [r_v0, .int .i64 r.Canopy.Frame.Low, .int .i64 r.Canopy.Frame.High, .int .i64 r.Canopy.Frame.Ease.Num, .int .i64 r.Canopy.Frame.Ease.Den, .int .i64 r.Canopy.Frame.Rod, .int .i64 r.Canopy.Frame.Case, r_v7, r_v8, r_v9, r_v10, .int .i64 r.Wrong]) rfl .none rfl ?_
 intro b1
 refine JL.assign .none rfl (JL.done hQ (JQ.go (JC.seq (JC.region (by rfl) ?_))))
 intro hQ
 refine JL.assign .none rfl (JL.done hQ (JQ.go (JC.seq (JC.seq (JC.region (by rfl) ?_)))))
 intro hQ
 refine JL.assign .none rfl (JL.done hQ (JQ.go (JC.newNil (e := 28) (sz := 1) ?_)))
 obtain ⟨r1598, hlr1598, hKr1598⟩ := bind_some hF
 refine JC.join (fun (out_1596 : List (List Int)) H1597 f bs gs => ∃ (vout_1596 : Value) (xsout_1596 : List Value), f 3 = vout_1596 ∧ bs = [] ∧ gs = [⟨vout_1596, 28, 1, out_1596.length, xsout_1596⟩] ∧ CH H1597 1 (RSl 1 RInt) xsout_1596 out_1596 ∧ HSub H H1597 ∧ out_1596 = r1598) ?_ ?_
 ·skip
  refine JC.block (JC.loop hlr1598 (fun (x : Int × List (List Int)) H2397 f bs gs => match x with | (i_2395, out_2396) => ∃ (vout_2396 : Value) (xsout_2396 : List Value), f 1 = .pointer (some ⟨b1, 0, none⟩) ∧ f 3 = vout_2396 ∧ f 4 = .int .i64 i_2395 ∧ bs = [(b1, .cells [r_v0, .int .i64 r.Canopy.Frame.Low, .int .i64 r.Canopy.Frame.High, .int .i64 r.Canopy.Frame.Ease.Num, .int .i64 r.Canopy.Frame.Ease.Den, .int .i64 r.Canopy.Frame.Rod, .int .i64 r.Canopy.Frame.Case, r_v7, r_v8, r_v9, r_v10, .int .i64 r.Wrong].toArray 34)] ∧ gs = [⟨vout_2396, 28, 1, out_2396.length, xsout_2396⟩] ∧ CH H2397 1 (RSl 1 RInt) xsout_2396 out_2396 ∧ HSub H H2397) ⟨(.slice none 0 0), [], rfl, rfl, rfl, rfl, rfl, CH.nil, (HSub.refl _)⟩ ?_)
  rintro ⟨i_2395, out_2396⟩ x2399 H2397 f bs gs ⟨vout_2396, xsout_2396, hf1, hf3, hf4, rfl, rfl, hout_2396, hs2397⟩ hF hr2398
  rw [F_ref13_stands_s1] at hF
  refine (JC.norm (i := 1) hf1 (JC.norm (i := 3) hf3 (JC.norm (i := 4) hf4 ?_)))
  refine JC.seq (JC.seq (JC.region (by rfl) ?_))
  intro hQ
  refine JL.move .none rfl (JL.fieldAddr fo_34_1 rfl .none rfl (JL.loadOwn 0 az_31 rfl rfl rfl .none rfl (JL.lenSL (R := R_Blow) ul_31 (SL.mono R_Blow_mono hs2397 hr_9) .none rfl ?_)))
  refine JL.bin rfl rfl rfl .none rfl (JL.done hQ (JQ.go ?_))
  rcases ite_some hF with ⟨hc2400, hF⟩ | ⟨hc2400, hF⟩
  ·refine JC.cond_t (b := decide (i_2395 < (r.Blows.length : Int))) rfl hc2400 ?_
   refine JC.skip (JQ.go (JC.seq (JC.block (JC.seq (JC.region (by rfl) ?_)))))
   intro hQ
   refine JL.assign .none rfl (JL.done hQ (JQ.go (JC.seq (JC.seq (JC.region (by rfl) ?_)))))
   intro hQ
   refine JL.fieldAddr fo_34_1 rfl .none rfl (JL.loadOwn 0 az_31 rfl rfl rfl .none rfl (JL.move .none rfl ?_))
   obtain ⟨y2401, hy2401, hF⟩ := bind_some hF
   refine JL.indexSL (R := R_Blow) sl_31 (SL.mono R_Blow_mono hs2397 hr_9) rfl hy2401 .none rfl ?_
   rintro b2402 o2403 cs2404 hc2405 - rfl
   refine JL.fieldAddr fo_62_1 rfl .none rfl (JL.fieldAddr fo_42_0 rfl .none rfl (JL.loadH 1 az_3 rfl hc2405 rfl .none rfl ?_))
   refine JL.assign .none rfl (JL.done hQ (JQ.go (JC.fresh (fun f => f 1 = .pointer (some ⟨b1, 0, none⟩) ∧ f 3 = vout_2396 ∧ f 4 = .int .i64 i_2395 ∧ f 5 = .slice none 0 0 ∧ f 6 = .int .i64 y2401.Force.Low) ⟨rfl, rfl, rfl, rfl, rfl⟩ ?_)))
   rintro f ⟨hf1, hf3, hf4, hf5, hf6⟩
   refine (JC.norm (i := 1) hf1 (JC.norm (i := 3) hf3 (JC.norm (i := 4) hf4 (JC.norm (i := 5) hf5 (JC.norm (i := 6) hf6 ?_)))))
   refine JC.newNil (e := 3) (sz := 1) ?_
   obtain ⟨r2622, hlr2622, hKr2622⟩ := bind_some hF
   refine JC.join (fun (out_2620 : List Int) H2621 f bs gs => ∃ (vout_2620 : Value) (xsout_2620 : List Value), f 1 = .pointer (some ⟨b1, 0, none⟩) ∧ f 3 = vout_2396 ∧ f 4 = .int .i64 i_2395 ∧ f 5 = vout_2620 ∧ bs = [(b1, .cells [r_v0, .int .i64 r.Canopy.Frame.Low, .int .i64 r.Canopy.Frame.High, .int .i64 r.Canopy.Frame.Ease.Num, .int .i64 r.Canopy.Frame.Ease.Den, .int .i64 r.Canopy.Frame.Rod, .int .i64 r.Canopy.Frame.Case, r_v7, r_v8, r_v9, r_v10, .int .i64 r.Wrong].toArray 34)] ∧ gs = [⟨vout_2620, 3, 1, out_2620.length, xsout_2620⟩, ⟨vout_2396, 28, 1, out_2396.length, xsout_2396⟩] ∧ CH H2621 1 RInt xsout_2620 out_2620 ∧ HSub H2397 H2621 ∧ out_2620 = r2622) ?_ ?_
   ·skip
    refine JC.block (JC.loop hlr2622 (fun (x : Int × List Int) H2731 f bs gs => match x with | (f_2729, out_2730) => ∃ (vout_2730 : Value) (xsout_2730 : List Value), f 1 = .pointer (some ⟨b1, 0, none⟩) ∧ f 3 = vout_2396 ∧ f 4 = .int .i64 i_2395 ∧ f 5 = vout_2730 ∧ f 6 = .int .i64 f_2729 ∧ bs = [(b1, .cells [r_v0, .int .i64 r.Canopy.Frame.Low, .int .i64 r.Canopy.Frame.High, .int .i64 r.Canopy.Frame.Ease.Num, .int .i64 r.Canopy.Frame.Ease.Den, .int .i64 r.Canopy.Frame.Rod, .int .i64 r.Canopy.Frame.Case, r_v7, r_v8, r_v9, r_v10, .int .i64 r.Wrong].toArray 34)] ∧ gs = [⟨vout_2730, 3, 1, out_2730.length, xsout_2730⟩, ⟨vout_2396, 28, 1, out_2396.length, xsout_2396⟩] ∧ CH H2731 1 RInt xsout_2730 out_2730 ∧ HSub H2397 H2731) ⟨(.slice none 0 0), [], rfl, rfl, rfl, rfl, rfl, rfl, rfl, CH.nil, (HSub.refl _)⟩ ?_)
    rintro ⟨f_2729, out_2730⟩ x2733 H2731 f bs gs ⟨vout_2730, xsout_2730, hf1, hf3, hf4, hf5, hf6, rfl, rfl, hout_2730, hs2731⟩ hF hr2732
    rw [F_ref13_stands_s2] at hF
    refine (JC.norm (i := 1) hf1 (JC.norm (i := 3) hf3 (JC.norm (i := 4) hf4 (JC.norm (i := 5) hf5 (JC.norm (i := 6) hf6 ?_)))))
    refine JC.seq (JC.seq (JC.region (by rfl) ?_))
    intro hQ
    refine JL.move .none rfl (JL.fieldAddr fo_34_1 rfl .none rfl (JL.loadOwn 0 az_31 rfl rfl rfl .none rfl (JL.move .none rfl ?_)))
    obtain ⟨y2734, hy2734, hF⟩ := bind_some hF
    refine JL.indexSL (R := R_Blow) sl_31 (SL.mono R_Blow_mono (HSub.trans hs2397 hs2731) hr_9) rfl hy2734 .none rfl ?_
    rintro b2735 o2736 cs2737 hc2738 - rfl
    refine JL.fieldAddr fo_62_1 rfl .none rfl (JL.fieldAddr fo_42_1 rfl .none rfl (JL.loadH 2 az_3 rfl hc2738 rfl .none rfl ?_))
    refine JL.bin rfl rfl rfl .none rfl (JL.done hQ (JQ.go (JC.fresh (fun f => f 1 = .pointer (some ⟨b1, 0, none⟩) ∧ f 3 = vout_2396 ∧ f 4 = .int .i64 i_2395 ∧ f 5 = vout_2730 ∧ f 6 = .int .i64 f_2729 ∧ f 31 = .bool (decide (f_2729 ≤ y2734.Force.High))) ⟨rfl, rfl, rfl, rfl, rfl, rfl⟩ ?_)))
    rintro f ⟨hf1, hf3, hf4, hf5, hf6, hf31⟩
    refine (JC.norm (i := 1) hf1 (JC.norm (i := 3) hf3 (JC.norm (i := 4) hf4 (JC.norm (i := 5) hf5 (JC.norm (i := 6) hf6 (JC.norm (i := 31) hf31 ?_))))))
    rcases ite_some hF with ⟨hc2739, hF⟩ | ⟨hc2739, hF⟩
    ·refine JC.cond_t (b := decide (f_2729 ≤ y2734.Force.High)) rfl hc2739 ?_
     refine JC.skip (JQ.go (JC.seq (JC.block (JC.seq ?_))))
     obtain ⟨y2745, hy2745, hF⟩ := bind_some hF
     obtain ⟨y2754, hy2754, hF⟩ := bind_some hF
     refine JC.mixed 17 17 (tf 0 17) [(b1, .cells [r_v0, .int .i64 r.Canopy.Frame.Low, .int .i64 r.Canopy.Frame.High, .int .i64 r.Canopy.Frame.Ease.Num, .int .i64 r.Canopy.Frame.Ease.Den, .int .i64 r.Canopy.Frame.Rod, .int .i64 r.Canopy.Frame.Case, r_v7, r_v8, r_v9, r_v10, .int .i64 r.Wrong].toArray 34)] (by rfl) mo_ (by kernel_rfl) (by kernel_rfl) ?_
     intro hQ hE
     refine JA.tk 0 (tf 1 16) hQ rfl hE (.cons_cons _ (List.nil_sublist _)) ?_
     refine JL.fieldAddr fo_34_0 rfl .none rfl (JA.cont ?_)
     refine JA.tk 1 (tf 2 15) hQ rfl hE (.cons_cons _ (List.nil_sublist _)) ?_
     refine JL.loadOwn 0 az_30 rfl rfl rfl .none rfl (JA.cont ?_)
     refine JA.tk 2 (tf 3 14) hQ rfl hE (.cons_cons _ (List.nil_sublist _)) ?_
     refine JL.move .none rfl (JA.cont ?_)
     refine JA.tk 3 (tf 4 13) hQ rfl hE (.cons_cons _ (List.nil_sublist _)) ?_
     refine JL.fieldAddr fo_34_1 rfl .none rfl (JA.cont ?_)
     refine JA.tk 4 (tf 5 12) hQ rfl hE (.cons_cons _ (List.nil_sublist _)) ?_
     refine JL.loadOwn 0 az_31 rfl rfl rfl .none rfl (JA.cont ?_)
     refine JA.tk 5 (tf 6 11) hQ rfl hE (.cons_cons _ (List.nil_sublist _)) ?_
     refine JL.move .none rfl (JA.cont ?_)
     refine JA.tk 6 (tf 7 10) hQ rfl hE (.cons_cons _ (List.nil_sublist _)) ?_
     refine JL.indexSL (R := R_Blow) sl_31 (SL.mono R_Blow_mono (HSub.trans hs2397 hs2731) hr_9) rfl hy2745 .none rfl ?_
     rintro b2771 o2772 cs2773 hc2774 - rfl
     refine JA.cont ?_
     refine JA.tk 7 (tf 8 9) hQ rfl hE (.cons_cons _ (List.nil_sublist _)) ?_
     refine JL.fieldAddr fo_62_0 rfl .none rfl (JA.cont ?_)
     refine JA.tk 8 (tf 9 8) hQ rfl hE (.cons_cons _ (List.nil_sublist _)) ?_
     refine JL.loadH 0 az_3 rfl hc2774 rfl .none rfl ?_
     refine JA.cont ?_
     refine JA.tk 9 (tf 10 7) hQ rfl hE (.cons_cons _ (List.nil_sublist _)) ?_
     refine JL.build (l := [.int .i64 f_2729, .int .i64 y2745.At]) (by kernel_rfl) .none rfl ?_
     refine JA.cont ?_
     refine JA.many [10] (by kernel_rfl) (by simp) (all_one ⟨_, (tf 11 6), rfl, (by kernel_rfl), ?_⟩)
     refine JL.buildSlice (e := 64) (l := [.int .i64 f_2729, .int .i64 y2745.At]) (by kernel_rfl) .none rfl ?_
     intro b2775
     refine JA.after hE (HSub.refl _) (.cons _ (.cons_cons _ (List.nil_sublist _))) ?_
     refine JA.many [11] (by kernel_rfl) (by simp) (all_one ⟨_, (tf 12 5), rfl, (by kernel_rfl), ?_⟩)
     refine JL.freezeC 0 (l := [.int .i64 f_2729, .int .i64 y2745.At]) rfl ?_
     intro H2776 hs2776 hc2777
     have hg2778 : SL H2776 2 R_Gust (.slice (some ⟨b2775, 0, none⟩) 1 1) [(Gust.mk f_2729 y2745.At)] := CH.sl (l := [(Gust.mk f_2729 y2745.At)]) (CH.cons (cs := [.int .i64 f_2729, .int .i64 y2745.At]) rfl rfl CH.nil) hc2777 ⟨by simp, by simp⟩
     refine JL.callS (c_ref05_Stands n H2776 r.Canopy r_v0 (SL.mono R_Section_mono (HSub.trans hs2397 (HSub.trans hs2731 hs2776)) hr_0) r_v7 (SL.mono R_Span_mono (HSub.trans hs2397 (HSub.trans hs2731 hs2776)) hr_7) r_v8 (SL.mono RInt.mono (HSub.trans hs2397 (HSub.trans hs2731 hs2776)) hr_8) [(Gust.mk f_2729 y2745.At)] (.slice (some ⟨b2775, 0, none⟩) 1 1) hg2778 y2754 hy2754) rfl en_77 .none rfl ?_
     refine JA.after hE hs2776 (.cons_cons _ (List.nil_sublist _)) ?_
     refine JA.take 12 (listed' := (tf 13 4)) hQ rfl (by kernel_rfl) (by kernel_rfl) (by kernel_rfl) (by kernel_rfl) (by kernel_rfl) hE hs2776 (.cons_cons _ (List.nil_sublist _)) ?_
     refine JL.move .none rfl (JA.cont ?_)
     refine JA.take 13 (listed' := (tf 14 3)) hQ rfl (by kernel_rfl) (by kernel_rfl) (by kernel_rfl) (by kernel_rfl) (by kernel_rfl) hE hs2776 (.cons_cons _ (List.nil_sublist _)) ?_
     refine JL.extract rfl rfl .none rfl (JA.cont ?_)
     refine JA.take 14 (listed' := (tf 15 2)) hQ rfl (by kernel_rfl) (by kernel_rfl) (by kernel_rfl) (by kernel_rfl) (by kernel_rfl) hE hs2776 (.cons_cons _ (List.nil_sublist _)) ?_
     refine JL.extract rfl rfl .none rfl (JA.cont ?_)
     refine JA.take 15 (listed' := (tf 16 1)) hQ rfl (by kernel_rfl) (by kernel_rfl) (by kernel_rfl) (by kernel_rfl) (by kernel_rfl) hE hs2776 (.cons_cons _ (List.nil_sublist _)) ?_
     refine JL.assign .none rfl (JA.cont ?_)
     refine JA.take 16 (listed' := (tf 17 0)) hQ rfl (by kernel_rfl) (by kernel_rfl) (by kernel_rfl) (by kernel_rfl) (by kernel_rfl) hE hs2776 (.cons_cons _ (List.nil_sublist _)) ?_
     refine JL.assign .none rfl (JA.cont ?_)
     refine JA.done hQ (by kernel_rfl) ?_
     refine JQ.go (JC.fresh (fun f => f 1 = .pointer (some ⟨b1, 0, none⟩) ∧ f 3 = vout_2396 ∧ f 4 = .int .i64 i_2395 ∧ f 5 = vout_2730 ∧ f 6 = .int .i64 f_2729 ∧ f 7 = .int .i64 y2754.1) ⟨rfl, rfl, rfl, rfl, rfl, rfl⟩ ?_)
     rintro f ⟨hf1, hf3, hf4, hf5, hf6, hf7⟩
     refine (JC.norm (i := 1) hf1 (JC.norm (i := 3) hf3 (JC.norm (i := 4) hf4 (JC.norm (i := 5) hf5 (JC.norm (i := 6) hf6 (JC.norm (i := 7) hf7 ?_))))))
     refine JC.region (by rfl) ?_
     intro hQ
     refine JL.move .none rfl (JL.move .none rfl (JL.buildSlice (e := 3) (l := [.int .i64 y2754.1]) (by kernel_rfl) .none rfl ?_))
     intro b2779
     obtain ⟨l2780, hl2780, hF⟩ := bind_some hF
     refine JL.appO (R := RInt) 0 0 (l := out_2730) (m := [y2754.1]) ap_28 rfl ⟨rfl, rfl⟩ rfl (CH.mono RInt.mono hs2776 hout_2730) rfl rfl rfl (CH.cons (cs := [.int .i64 y2754.1]) rfl rfl CH.nil) rfl (one_cons rfl one_nil) hl2780 .none rfl ?_
     intro v2781 xs2782 hch2783
     refine JL.assign .none rfl (JL.done hQ (JQ.normal_block (JQ.go (JC.region (by rfl) ?_))))
     intro hQ
     refine JL.move .none rfl (JL.bin rfl rfl rfl .none rfl (JL.assign .none rfl (JL.done hQ ?_)))
     obtain rfl := Option.some.inj hF
     refine JQ.mask [false, true] [true, true] ?_
     exact JQ.next rfl ⟨v2781, xs2782, rfl, rfl, rfl, rfl, rfl, rfl, rfl, hch2783, (HSub.trans hs2731 hs2776)⟩
    ·refine JC.cond_f (b := decide (f_2729 ≤ y2734.Force.High)) rfl hc2739 ?_
     refine JC.exit (JQ.exit_then (JQ.exit_then (JQ.exit_block ?_)))
     obtain rfl := Option.some.inj hF
     have ehr2732 := hr2732 _ rfl
     subst ehr2732
     exact JQ.join out_2730 ⟨vout_2730, xsout_2730, rfl, rfl, rfl, rfl, rfl, rfl, hout_2730, hs2731, rfl⟩
   ·rintro out_2620 H2621 f bs gs ⟨vout_2620, xsout_2620, hf1, hf3, hf4, hf5, rfl, rfl, hout_2620, hs2621, rfl⟩
    have hF := hKr2622
    try dsimp only at hF
    refine (JQ.norm (i := 1) hf1 (JQ.norm (i := 3) hf3 (JQ.norm (i := 4) hf4 (JQ.norm (i := 5) hf5 ?_))))
    refine JQ.go (JC.region (by rfl) ?_)
    intro hQ
    refine JL.move .none rfl (JL.move .none rfl (JL.formG 0 rfl (fun a2784 n2785 c2786 hh2787 => ?_)))
    dsimp only at hh2787
    subst hh2787
    refine JL.buildSlice (e := 28) (l := [(.slice a2784 n2785 c2786)]) (by kernel_rfl) .none rfl ?_
    intro b2788
    obtain ⟨l2789, hl2789, hF⟩ := bind_some hF
    refine JL.freezeG 0 (R := RInt) rfl RInt.mono hout_2620 rfl ?_
    intro H2790 hs2790 hg2791
    refine JL.appO (R := (RSl 1 RInt)) 0 0 (l := out_2396) (m := [out_2620]) ap_84 rfl ⟨rfl, rfl⟩ rfl (CH.mono (RSl.mono RInt.mono) (HSub.trans hs2621 hs2790) hout_2396) rfl rfl rfl (CH.cons (cs := [(.slice a2784 n2785 c2786)]) rfl ⟨_, rfl, hg2791⟩ CH.nil) rfl (one_cons (SL.one hg2791) one_nil) hl2789 .none rfl ?_
    intro v2792 xs2793 hch2794
    refine JL.assign .none rfl (JL.done hQ (JQ.normal_block (JQ.go (JC.region (by rfl) ?_))))
    intro hQ
    refine JL.move .none rfl (JL.bin rfl rfl rfl .none rfl (JL.assign .none rfl (JL.done hQ ?_)))
    obtain rfl := Option.some.inj hF
    refine JQ.mask [false, true] [true] ?_
    exact JQ.next rfl ⟨v2792, xs2793, rfl, rfl, rfl, rfl, rfl, hch2794, (HSub.trans hs2397 (HSub.trans hs2621 hs2790))⟩
  ·refine JC.cond_f (b := decide (i_2395 < (r.Blows.length : Int))) rfl hc2400 ?_
   refine JC.exit (JQ.exit_then (JQ.exit_then (JQ.exit_block ?_)))
   obtain rfl := Option.some.inj hF
   have ehr2398 := hr2398 _ rfl
   subst ehr2398
   refine JQ.mask [false] [true] ?_
   exact JQ.join out_2396 ⟨vout_2396, xsout_2396, rfl, rfl, rfl, hout_2396, hs2397, rfl⟩
 ·rintro out_1596 H1597 f bs gs ⟨vout_1596, xsout_1596, hf3, rfl, rfl, hout_1596, hs1597, rfl⟩
  have hF := hKr1598
  try dsimp only at hF
  refine (JQ.norm (i := 3) hf3 ?_)
  refine JQ.go (JC.seq (JC.region (by rfl) ?_))
  intro hQ
  refine JL.move .none rfl (JL.assign .none rfl (JL.done hQ (JQ.go (JC.ret (JQ.freezeG 0 (R := (RSl 1 RInt)) rfl (RSl.mono RInt.mono) hout_1596 rfl ?_)))))
  intro H2795 hs2795 hg2796
  obtain rfl := Option.some.inj hF
  exact JQ.outH rfl (.tmp .nil) hg2796
end Go.Proofs.YtcipdblhopffbaaGreat
end
section
set_option maxRecDepth 100000
set_option maxHeartbeats 40000000
namespace Go.Proofs.YtcipdblhopffbaaGreat
open Go Go.RowKit Go.Dec
set_option linter.unusedVariables false
-- 45 ferrule/ferruleref13.harm
def F_ref13_harm_s1 (n : Nat) (r : Run) (each : List (List Int)) (forces : List Int) : Int × Int × Int → Option ((Int × Int × Int) ⊕ (Int × Int))
 | (low_313, high_314, i_315) => if decide (i_315 < (forces.length : Int)) = true then ((geti each i_315).bind fun y340 => (geti forces i_315).bind fun y345 => (geti r.Blows i_315).bind fun y350 => (geti y340 (w64 (y345 - y350.Force.Low))).bind fun y355 => (if (y355 == 2) = true then (some ((w64 (low_313 + 1)), (w64 (high_314 + 1)))) else ((if (y355 == 3) = true then (some (w64 (high_314 + 1))) else (some high_314)).bind fun high_372 => some (low_313, high_372))).bind fun r369 => match r369 with | (low_366, high_367) => some (Sum.inl (low_366, high_367, (w64 (i_315 + 1))))) else (some (Sum.inr (low_313, high_314)))
def F_ref13_harm (n : Nat) (r : Run) (each : List (List Int)) (forces : List Int) : Option (Int × Int) :=
 (loopO n (F_ref13_harm_s1 n r each forces) (0, 0, 0)).bind fun r190 => match r190 with | (low_187, high_188) => some (low_187, high_188)
theorem c_ref13_harm (n : Nat) (H : Hp) (r : Run) (r_v0 : Value) (hr_0 : SL H 7 R_Section r_v0 r.Canopy.Frame.Sections) (r_v7 : Value) (hr_7 : SL H 2 R_Span r_v7 r.Canopy.Ribs) (r_v8 : Value) (hr_8 : SL H 1 RInt r_v8 r.Canopy.Shares) (r_v9 : Value) (hr_9 : SL H 3 R_Blow r_v9 r.Blows) (r_v10 : Value) (hr_10 : SL H 2 R_Meter r_v10 r.Meters) (each : List (List Int)) (each_v0 : Value) (heach_0 : SL H 1 (RSl 1 RInt) each_v0 each) (forces : List Int) (forces_v0 : Value) (hforces_0 : SL H 1 RInt forces_v0 forces) (y : Int × Int) (hF : F_ref13_harm n r each forces = some y) : SC Tryz.prog 45 [.agg [r_v0, .int .i64 r.Canopy.Frame.Low, .int .i64 r.Canopy.Frame.High, .int .i64 r.Canopy.Frame.Ease.Num, .int .i64 r.Canopy.Frame.Ease.Den, .int .i64 r.Canopy.Frame.Rod, .int .i64 r.Canopy.Frame.Case, r_v7, r_v8, r_v9, r_v10, .int .i64 r.Wrong].toArray, each_v0, forces_v0] (.tuple [.int .i64 y.1, .int .i64 y.2].toArray) H := by
 rw [F_ref13_harm] at hF
 refine SC.of (N := 45) Tryz.func45 rfl rfl rfl fun w => ?_
 refine JC.seq (JC.region (by rfl) ?_)
 intro hQ
 refine JL.box (cs := [r_v0, .int .i64 r.Canopy.Frame.Low, .int .i64 r.Canopy.Frame.High, .int .i64 r.Canopy.Frame.Ease.Num, .int .i64 r.Canopy.Frame.Ease.Den, .int .i64 r.Canopy.Frame.Rod, .int .i64 r.Canopy.Frame.Case, r_v7, r_v8, r_v9, r_v10, .int .i64 r.Wrong]) rfl .none rfl ?_
 intro b1
 refine JL.assign .none rfl (JL.assign .none rfl (JL.done hQ (JQ.go (JC.seq (JC.seq (JC.region (by rfl) ?_))))))
 intro hQ
 refine JL.assign .none rfl (JL.done hQ (JQ.go ?_))
 obtain ⟨r190, hlr190, hKr190⟩ := bind_some hF
 refine JC.join (fun (x : Int × Int) H189 f bs gs => match x with | (low_187, high_188) => f 6 = .int .i64 low_187 ∧ f 7 = .int .i64 high_188 ∧ bs = [] ∧ gs = [] ∧ HSub H H189 ∧ (low_187, high_188) = r190) ?_ ?_
 ·skip
  refine JC.block (JC.loop hlr190 (fun (x : Int × Int × Int) H316 f bs gs => match x with | (low_313, high_314, i_315) => f 1 = each_v0 ∧ f 2 = forces_v0 ∧ f 3 = .pointer (some ⟨b1, 0, none⟩) ∧ f 6 = .int .i64 low_313 ∧ f 7 = .int .i64 high_314 ∧ f 8 = .int .i64 i_315 ∧ bs = [(b1, .cells [r_v0, .int .i64 r.Canopy.Frame.Low, .int .i64 r.Canopy.Frame.High, .int .i64 r.Canopy.Frame.Ease.Num, .int .i64 r.Canopy.Frame.Ease.Den, .int .i64 r.Canopy.Frame.Rod, .int .i64 r.Canopy.Frame.Case, r_v7, r_v8, r_v9, r_v10, .int .i64 r.Wrong].toArray 34)] ∧ gs = [] ∧ HSub H H316) ⟨rfl, rfl, rfl, rfl, rfl, rfl, rfl, rfl, (HSub.refl _)⟩ ?_)
  rintro ⟨low_313, high_314, i_315⟩ x318 H316 f bs gs ⟨hf1, hf2, hf3, hf6, hf7, hf8, rfl, rfl, hs316⟩ hF hr317
  rw [F_ref13_harm_s1] at hF
  refine (JC.norm (i := 1) hf1 (JC.norm (i := 2) hf2 (JC.norm (i := 3) hf3 (JC.norm (i := 6) hf6 (JC.norm (i := 7) hf7 (JC.norm (i := 8) hf8 ?_))))))
  refine JC.seq (JC.seq (JC.region (by rfl) ?_))
  intro hQ
  refine JL.move .none rfl (JL.move .none rfl (JL.lenSL (R := RInt) ul_28 (SL.mono RInt.mono hs316 hforces_0) .none rfl ?_))
  refine JL.bin rfl rfl rfl .none rfl (JL.done hQ (JQ.go ?_))
  rcases ite_some hF with ⟨hc319, hF⟩ | ⟨hc319, hF⟩
  ·refine JC.cond_t (b := decide (i_315 < (forces.length : Int))) rfl hc319 ?_
   refine JC.skip (JQ.go (JC.seq (JC.block (JC.seq (JC.draw (by rfl) mo_ (by kernel_rfl) ?_)))))
   intro hQ
   refine JL.move .none rfl (JL.move .none rfl ?_)
   obtain ⟨y340, hy340, hF⟩ := bind_some hF
   refine JL.indexSL (R := (RSl 1 RInt)) sl_84 (SL.mono (RSl.mono RInt.mono) hs316 heach_0) rfl hy340 .none rfl ?_
   rintro b341 o342 cs343 hc344 - ⟨y340_v0, rfl, hy340_0⟩
   refine JL.loadH 0 az_28 rfl hc344 rfl .none rfl ?_
   refine JL.move .none rfl (JL.move .none rfl ?_)
   obtain ⟨y345, hy345, hF⟩ := bind_some hF
   refine JL.indexSL (R := RInt) sl_28 (SL.mono RInt.mono hs316 hforces_0) rfl hy345 .none rfl ?_
   rintro b346 o347 cs348 hc349 - rfl
   refine JL.loadH 0 az_3 rfl hc349 rfl .none rfl ?_
   refine JL.fieldAddr fo_34_1 rfl .none rfl (JL.loadOwn 0 az_31 rfl rfl rfl .none rfl (JL.move .none rfl ?_))
   obtain ⟨y350, hy350, hF⟩ := bind_some hF
   refine JL.indexSL (R := R_Blow) sl_31 (SL.mono R_Blow_mono hs316 hr_9) rfl hy350 .none rfl ?_
   rintro b351 o352 cs353 hc354 - rfl
   refine JL.fieldAddr fo_62_1 rfl .none rfl (JL.fieldAddr fo_42_0 rfl .none rfl (JL.loadH 1 az_3 rfl hc354 rfl .none rfl ?_))
   refine JL.bin rfl rfl rfl .none rfl ?_
   obtain ⟨y355, hy355, hF⟩ := bind_some hF
   refine JL.indexSL (R := RInt) sl_28 hy340_0 rfl hy355 .none rfl ?_
   rintro b356 o357 cs358 hc359 - rfl
   refine JL.loadH 0 az_3 rfl hc359 rfl .none rfl ?_
   refine JL.doneQ hQ ?_
   refine JQ.go (JC.fresh (fun f => f 1 = each_v0 ∧ f 2 = forces_v0 ∧ f 3 = .pointer (some ⟨b1, 0, none⟩) ∧ f 6 = .int .i64 low_313 ∧ f 7 = .int .i64 high_314 ∧ f 8 = .int .i64 i_315 ∧ f 32 = .int .i64 y355) ⟨rfl, rfl, rfl, rfl, rfl, rfl, rfl⟩ ?_)
   rintro f ⟨hf1, hf2, hf3, hf6, hf7, hf8, hf32⟩
   refine (JC.norm (i := 1) hf1 (JC.norm (i := 2) hf2 (JC.norm (i := 3) hf3 (JC.norm (i := 6) hf6 (JC.norm (i := 7) hf7 (JC.norm (i := 8) hf8 (JC.norm (i := 32) hf32 ?_)))))))
   refine JC.block (JC.seq (JC.region (by rfl) ?_))
   intro hQ
   refine JL.bin rfl rfl rfl .none rfl (JL.assign .none rfl (JL.done hQ (JQ.go ?_)))
   obtain ⟨r369, hlr369, hKr369⟩ := bind_some hF
   refine JC.join (fun (x : Int × Int) H368 f bs gs => match x with | (low_366, high_367) => f 1 = each_v0 ∧ f 2 = forces_v0 ∧ f 3 = .pointer (some ⟨b1, 0, none⟩) ∧ f 6 = .int .i64 low_366 ∧ f 7 = .int .i64 high_367 ∧ f 8 = .int .i64 i_315 ∧ bs = [(b1, .cells [r_v0, .int .i64 r.Canopy.Frame.Low, .int .i64 r.Canopy.Frame.High, .int .i64 r.Canopy.Frame.Ease.Num, .int .i64 r.Canopy.Frame.Ease.Den, .int .i64 r.Canopy.Frame.Rod, .int .i64 r.Canopy.Frame.Case, r_v7, r_v8, r_v9, r_v10, .int .i64 r.Wrong].toArray 34)] ∧ gs = [] ∧ HSub H316 H368 ∧ (low_366, high_367) = r369) ?_ ?_
   ·have hF := hlr369
    rcases ite_some hF with ⟨hc370, hF⟩ | ⟨hc370, hF⟩
    ·refine JC.cond_t (b := (y355 == 2)) rfl hc370 ?_
     refine JC.seq (JC.region (by rfl) ?_)
     intro hQ
     refine JL.move .none rfl (JL.bin rfl rfl rfl .none rfl (JL.assign .none rfl (JL.done hQ (JQ.go (JC.region (by rfl) ?_)))))
     intro hQ
     refine JL.move .none rfl (JL.bin rfl rfl rfl .none rfl (JL.assign .none rfl (JL.done hQ ?_)))
     obtain rfl := Option.some.inj hF
     exact JQ.join ((w64 (low_313 + 1)), (w64 (high_314 + 1))) ⟨rfl, rfl, rfl, rfl, rfl, rfl, rfl, rfl, (HSub.refl _), rfl⟩
    ·refine JC.cond_f (b := (y355 == 2)) rfl hc370 ?_
     refine JC.seq (JC.region (by rfl) ?_)
     intro hQ
     refine JL.bin rfl rfl rfl .none rfl (JL.assign .none rfl (JL.done hQ (JQ.go ?_)))
     obtain ⟨r374, hlr374, hKr374⟩ := bind_some hF
     refine JC.join (fun (high_372 : Int) H373 f bs gs => f 1 = each_v0 ∧ f 2 = forces_v0 ∧ f 3 = .pointer (some ⟨b1, 0, none⟩) ∧ f 6 = .int .i64 low_313 ∧ f 7 = .int .i64 high_372 ∧ f 8 = .int .i64 i_315 ∧ bs = [(b1, .cells [r_v0, .int .i64 r.Canopy.Frame.Low, .int .i64 r.Canopy.Frame.High, .int .i64 r.Canopy.Frame.Ease.Num, .int .i64 r.Canopy.Frame.Ease.Den, .int .i64 r.Canopy.Frame.Rod, .int .i64 r.Canopy.Frame.Case, r_v7, r_v8, r_v9, r_v10, .int .i64 r.Wrong].toArray 34)] ∧ gs = [] ∧ HSub H316 H373 ∧ high_372 = r374) ?_ ?_
     ·have hF := hlr374
      rcases ite_some hF with ⟨hc375, hF⟩ | ⟨hc375, hF⟩
      ·refine JC.cond_t (b := (y355 == 3)) rfl hc375 ?_
       refine JC.region (by rfl) ?_
       intro hQ
       refine JL.move .none rfl (JL.bin rfl rfl rfl .none rfl (JL.assign .none rfl (JL.done hQ ?_)))
       obtain rfl := Option.some.inj hF
       exact JQ.join (w64 (high_314 + 1)) ⟨rfl, rfl, rfl, rfl, rfl, rfl, rfl, rfl, (HSub.refl _), rfl⟩
      ·refine JC.cond_f (b := (y355 == 3)) rfl hc375 ?_
       refine JC.skip ?_
       obtain rfl := Option.some.inj hF
       exact JQ.join high_314 ⟨rfl, rfl, rfl, rfl, rfl, rfl, rfl, rfl, (HSub.refl _), rfl⟩
     ·rintro high_372 H373 f bs gs ⟨hf1, hf2, hf3, hf6, hf7, hf8, rfl, rfl, hs373, rfl⟩
      have hF := hKr374
      try dsimp only at hF
      refine (JQ.norm (i := 1) hf1 (JQ.norm (i := 2) hf2 (JQ.norm (i := 3) hf3 (JQ.norm (i := 6) hf6 (JQ.norm (i := 7) hf7 (JQ.norm (i := 8) hf8 ?_))))))
      obtain rfl := Option.some.inj hF
      exact JQ.join (low_313, high_372) ⟨rfl, rfl, rfl, rfl, rfl, rfl, rfl, rfl, hs373, rfl⟩
   ·rintro ⟨low_366, high_367⟩ H368 f bs gs ⟨hf1, hf2, hf3, hf6, hf7, hf8, rfl, rfl, hs368, rfl⟩
    have hF := hKr369
    try dsimp only at hF
    refine (JQ.norm (i := 1) hf1 (JQ.norm (i := 2) hf2 (JQ.norm (i := 3) hf3 (JQ.norm (i := 6) hf6 (JQ.norm (i := 7) hf7 (JQ.norm (i := 8) hf8 ?_))))))
    refine JQ.normal_block (JQ.normal_block (JQ.go (JC.region (by rfl) ?_)))
    intro hQ
    refine JL.move .none rfl (JL.bin rfl rfl rfl .none rfl (JL.assign .none rfl (JL.done hQ ?_)))
    obtain rfl := Option.some.inj hF
    exact JQ.next rfl ⟨rfl, rfl, rfl, rfl, rfl, rfl, rfl, rfl, (HSub.trans hs316 hs368)⟩
  ·refine JC.cond_f (b := decide (i_315 < (forces.length : Int))) rfl hc319 ?_
   refine JC.exit (JQ.exit_then (JQ.exit_then (JQ.exit_block ?_)))
   obtain rfl := Option.some.inj hF
   have ehr317 := hr317 _ rfl
   subst ehr317
   refine JQ.mask [false] [] ?_
   exact JQ.join (low_313, high_314) ⟨rfl, rfl, rfl, rfl, hs316, rfl⟩
 ·rintro ⟨low_187, high_188⟩ H189 f bs gs ⟨hf6, hf7, rfl, rfl, hs189, rfl⟩
  have hF := hKr190
  try dsimp only at hF
  refine (JQ.norm (i := 6) hf6 (JQ.norm (i := 7) hf7 ?_))
  refine JQ.go (JC.seq (JC.region (by rfl) ?_))
  intro hQ
  refine JL.move .none rfl (JL.move .none rfl (JL.assign .none rfl (JL.assign .none rfl (JL.done hQ (JQ.go (JC.ret ?_))))))
  obtain rfl := Option.some.inj hF
  exact JQ.outS rfl (.tmp (.tmp .nil)) rfl
-- 46 ferrule/ferruleref13.wider
def F_ref13_wider (n : Nat) (s : Span) (n_ : Int) (first : Bool) : Option Span :=
 if first = true then (some (Span.mk n_ n_)) else (some (Span.mk (min s.Low n_) (max s.High n_)))
theorem c_ref13_wider (n : Nat) (H : Hp) (s : Span) (n_ : Int) (first : Bool) (y : Span) (hF : F_ref13_wider n s n_ first = some y) : SC Tryz.prog 46 [.agg [.int .i64 s.Low, .int .i64 s.High].toArray, .int .i64 n_, .bool first] (.agg [.int .i64 y.Low, .int .i64 y.High].toArray) H := by
 rw [F_ref13_wider] at hF
 refine SC.of (N := 20) Tryz.func46 rfl rfl rfl fun w => ?_
 refine JC.seq (JC.region (by rfl) ?_)
 intro hQ
 refine JL.box (cs := [.int .i64 s.Low, .int .i64 s.High]) rfl .none rfl ?_
 intro b1
 refine JL.alloc ze_42 .none rfl ?_
 intro b2
 refine JL.done hQ (JQ.go (JC.seq (JC.seq (JC.region (by rfl) ?_))))
 intro hQ
 refine JL.move .none rfl (JL.done hQ (JQ.go ?_))
 rcases ite_some hF with ⟨hc3, hF⟩ | ⟨hc3, hF⟩
 ·refine JC.cond_t (b := first) rfl hc3 ?_
  refine JC.seq (JC.region (by rfl) ?_)
  intro hQ
  refine JL.move .none rfl (JL.move .none rfl (JL.build (l := [.int .i64 n_, .int .i64 n_]) (by kernel_rfl) .none rfl ?_))
  refine JL.storeOwn 0 (cs := [.int .i64 n_, .int .i64 n_]) az_42 rfl rfl rfl (one_cons rfl (one_cons rfl one_nil)) rfl rfl .none ?_
  refine JL.done hQ (JQ.go (JC.ret (JQ.ret_then ?_)))
  obtain rfl := Option.some.inj hF
  exact JQ.outS rfl (.cell 0 az_42 rfl rfl rfl .nil) rfl
 ·refine JC.cond_f (b := first) rfl hc3 ?_
  refine JC.skip (JQ.go (JC.seq (JC.region (by rfl) ?_)))
  intro hQ
  refine JL.fieldAddr fo_42_0 rfl .none rfl (JL.loadOwn 1 az_3 rfl rfl rfl .none rfl (JL.move .none rfl (JL.min rfl rfl .none rfl ?_)))
  refine JL.fieldAddr fo_42_1 rfl .none rfl (JL.loadOwn 1 az_3 rfl rfl rfl .none rfl (JL.move .none rfl (JL.max rfl rfl .none rfl ?_)))
  refine JL.build (l := [.int .i64 (min s.Low n_), .int .i64 (max s.High n_)]) (by kernel_rfl) .none rfl ?_
  refine JL.storeOwn 0 (cs := [.int .i64 (min s.Low n_), .int .i64 (max s.High n_)]) az_42 rfl rfl rfl (one_cons rfl (one_cons rfl one_nil)) rfl rfl .none ?_
  refine JL.done hQ (JQ.go (JC.fresh (fun f => f 6 = .pointer (some ⟨b2, 0, none⟩)) rfl ?_))
  rintro f hf6
  refine (JC.norm (i := 6) hf6 ?_)
  refine JC.ret ?_
  obtain rfl := Option.some.inj hF
  exact JQ.outS rfl (.cell 0 az_42 rfl rfl rfl .nil) rfl
-- 12 ferrule/ferruleref13.Harm
def F_ref13_Harm_s1 (n : Nat) (r : Run) (y3 : (List (List Int)) × Int) (y8 : (List (List Int))) : Int × Int × Int → Option ((Int × Int × Int) ⊕ (Int × Int))
 | (i_111, z_112, z_113) => if decide (i_111 < (y3.1.length : Int)) = true then ((geti y3.1 i_111).bind fun y124 => (F_ref13_harm n r y8 y124).bind fun y129 => (F_ref13_wider n (Span.mk z_112 z_113) y129.1 (i_111 == 0)).bind fun y130 => (F_ref13_wider n y130 y129.2 false).bind fun y131 => some (Sum.inl ((w64 (i_111 + 1)), y131.Low, y131.High))) else (some (Sum.inr (z_112, z_113)))
def F_ref13_Harm (n : Nat) (r : Run) : Option (Span × Int) :=
 (F_ref13_known n r true).bind fun y3 => if (y3.2 != 0) = true then (some ((Span.mk 0 0), y3.2)) else ((F_ref13_stands n r).bind fun y8 => (loopO n (F_ref13_Harm_s1 n r y3 y8) (0, 0, 0)).bind fun r72 => match r72 with | (z_69, z_70) => some ((Span.mk z_69 z_70), 0))
theorem c_ref13_Harm (n : Nat) (H : Hp) (r : Run) (r_v0 : Value) (hr_0 : SL H 7 R_Section r_v0 r.Canopy.Frame.Sections) (r_v7 : Value) (hr_7 : SL H 2 R_Span r_v7 r.Canopy.Ribs) (r_v8 : Value) (hr_8 : SL H 1 RInt r_v8 r.Canopy.Shares) (r_v9 : Value) (hr_9 : SL H 3 R_Blow r_v9 r.Blows) (r_v10 : Value) (hr_10 : SL H 2 R_Meter r_v10 r.Meters) (y : Span × Int) (hF : F_ref13_Harm n r = some y) : SC Tryz.prog 12 [.agg [r_v0, .int .i64 r.Canopy.Frame.Low, .int .i64 r.Canopy.Frame.High, .int .i64 r.Canopy.Frame.Ease.Num, .int .i64 r.Canopy.Frame.Ease.Den, .int .i64 r.Canopy.Frame.Rod, .int .i64 r.Canopy.Frame.Case, r_v7, r_v8, r_v9, r_v10, .int .i64 r.Wrong].toArray] (.tuple [.agg [.int .i64 y.1.Low, .int .i64 y.1.High].toArray, .int .i64 y.2].toArray) H := by
 rw [F_ref13_Harm] at hF
 refine SC.of (N := 46) Tryz.func12 rfl rfl rfl fun w => ?_
 refine JC.seq (JC.region (by rfl) ?_)
 intro hQ
 refine JL.box (cs := [r_v0, .int .i64 r.Canopy.Frame.Low, .int .i64 r.Canopy.Frame.High, .int .i64 r.Canopy.Frame.Ease.Num, .int .i64 r.Canopy.Frame.Ease.Den, .int .i64 r.Canopy.Frame.Rod, .int .i64 r.Canopy.Frame.Case, r_v7, r_v8, r_v9, r_v10, .int .i64 r.Wrong]) rfl .none rfl ?_
 intro b1
 refine JL.alloc ze_42 .none rfl ?_
 intro b2
 refine JL.assign .none rfl (JL.done hQ (JQ.go (JC.seq (JC.region (by rfl) ?_))))
 intro hQ
 refine JL.loadOwn 1 az_34 rfl rfl rfl .none rfl ?_
 obtain ⟨y3, hy3, hF⟩ := bind_some hF
 refine JL.callH (c_ref13_known n H r r_v0 hr_0 r_v7 hr_7 r_v8 hr_8 r_v9 hr_9 r_v10 hr_10 true y3 hy3) rfl en_43 .none rfl ?_
 rintro H4 vv5 hs4 ⟨y3a_v0, rfl, hy3a_0⟩
 refine JL.move .none rfl (JL.extract rfl rfl .none rfl (JL.extract rfl rfl .none rfl (JL.assign .none rfl (JL.assign .none rfl (JL.done hQ (JQ.go (JC.seq (JC.seq (JC.region (by rfl) ?_)))))))))
 intro hQ
 refine JL.move .none rfl (JL.bin rfl rfl rfl .none rfl (JL.done hQ (JQ.go ?_)))
 rcases ite_some hF with ⟨hc6, hF⟩ | ⟨hc6, hF⟩
 ·refine JC.cond_t (b := (y3.2 != 0)) rfl hc6 ?_
  refine JC.seq (JC.region (by rfl) ?_)
  intro hQ
  refine JL.build (l := [.int .i64 0, .int .i64 0]) (by kernel_rfl) .none rfl ?_
  refine JL.move .none rfl (JL.storeOwn 0 (cs := [.int .i64 0, .int .i64 0]) az_42 rfl rfl rfl (one_cons rfl (one_cons rfl one_nil)) rfl rfl .none ?_)
  refine JL.assign .none rfl (JL.done hQ (JQ.go (JC.fresh (fun f => f 2 = .pointer (some ⟨b2, 0, none⟩) ∧ f 3 = .int .i64 y3.2) ⟨rfl, rfl⟩ ?_)))
  rintro f ⟨hf2, hf3⟩
  refine (JC.norm (i := 2) hf2 (JC.norm (i := 3) hf3 ?_))
  refine JC.ret (JQ.ret_then ?_)
  obtain rfl := Option.some.inj hF
  exact JQ.outS rfl (.cell 0 az_42 rfl rfl rfl (.tmp .nil)) rfl
 ·refine JC.cond_f (b := (y3.2 != 0)) rfl hc6 ?_
  refine JC.skip (JQ.go (JC.seq (JC.region (by rfl) ?_)))
  intro hQ
  refine JL.alloc ze_42 .none rfl ?_
  intro b7
  refine JL.done hQ (JQ.go (JC.fresh (fun f => f 1 = .pointer (some ⟨b1, 0, none⟩) ∧ f 2 = .pointer (some ⟨b2, 0, none⟩) ∧ f 3 = .int .i64 0 ∧ f 4 = y3a_v0 ∧ f 6 = .pointer (some ⟨b7, 0, none⟩)) ⟨rfl, rfl, rfl, rfl, rfl⟩ ?_))
  rintro f ⟨hf1, hf2, hf3, hf4, hf6⟩
  refine (JC.norm (i := 1) hf1 (JC.norm (i := 2) hf2 (JC.norm (i := 3) hf3 (JC.norm (i := 4) hf4 (JC.norm (i := 6) hf6 ?_)))))
  refine JC.seq (JC.region (by rfl) ?_)
  intro hQ
  refine JL.loadOwn 2 az_34 rfl rfl rfl .none rfl ?_
  obtain ⟨y8, hy8, hF⟩ := bind_some hF
  refine JL.callH (c_ref13_stands n H4 r r_v0 (SL.mono R_Section_mono hs4 hr_0) r_v7 (SL.mono R_Span_mono hs4 hr_7) r_v8 (SL.mono RInt.mono hs4 hr_8) r_v9 (SL.mono R_Blow_mono hs4 hr_9) r_v10 (SL.mono R_Meter_mono hs4 hr_10) y8 hy8) rfl en_44 .none rfl ?_
  intro H9 y8a_v0 hs9 hy8a_0
  refine JL.assign .none rfl (JL.done hQ (JQ.go (JC.seq (JC.seq (JC.region (by rfl) ?_)))))
  intro hQ
  refine JL.assign .none rfl (JL.done hQ (JQ.go ?_))
  obtain ⟨r72, hlr72, hKr72⟩ := bind_some hF
  refine JC.join (fun (x : Int × Int) H71 f bs gs => match x with | (z_69, z_70) => f 2 = .pointer (some ⟨b2, 0, none⟩) ∧ f 6 = .pointer (some ⟨b7, 0, none⟩) ∧ bs = [(b7, .cells [.int .i64 z_69, .int .i64 z_70].toArray 42), (b2, .cells [.int .i64 0, .int .i64 0].toArray 42)] ∧ gs = [] ∧ HSub H9 H71 ∧ (z_69, z_70) = r72) ?_ ?_
  ·skip
   refine JC.block (JC.loop hlr72 (fun (x : Int × Int × Int) H114 f bs gs => match x with | (i_111, z_112, z_113) => f 1 = .pointer (some ⟨b1, 0, none⟩) ∧ f 2 = .pointer (some ⟨b2, 0, none⟩) ∧ f 4 = y3a_v0 ∧ f 6 = .pointer (some ⟨b7, 0, none⟩) ∧ f 7 = y8a_v0 ∧ f 8 = .int .i64 i_111 ∧ bs = [(b7, .cells [.int .i64 z_112, .int .i64 z_113].toArray 42), (b2, .cells [.int .i64 0, .int .i64 0].toArray 42), (b1, .cells [r_v0, .int .i64 r.Canopy.Frame.Low, .int .i64 r.Canopy.Frame.High, .int .i64 r.Canopy.Frame.Ease.Num, .int .i64 r.Canopy.Frame.Ease.Den, .int .i64 r.Canopy.Frame.Rod, .int .i64 r.Canopy.Frame.Case, r_v7, r_v8, r_v9, r_v10, .int .i64 r.Wrong].toArray 34)] ∧ gs = [] ∧ HSub H9 H114) ⟨rfl, rfl, rfl, rfl, rfl, rfl, rfl, rfl, (HSub.refl _)⟩ ?_)
   rintro ⟨i_111, z_112, z_113⟩ x116 H114 f bs gs ⟨hf1, hf2, hf4, hf6, hf7, hf8, rfl, rfl, hs114⟩ hF hr115
   rw [F_ref13_Harm_s1] at hF
   refine (JC.norm (i := 1) hf1 (JC.norm (i := 2) hf2 (JC.norm (i := 4) hf4 (JC.norm (i := 6) hf6 (JC.norm (i := 7) hf7 (JC.norm (i := 8) hf8 ?_))))))
   refine JC.seq (JC.seq (JC.region (by rfl) ?_))
   intro hQ
   refine JL.move .none rfl (JL.move .none rfl (JL.lenSL (R := (RSl 1 RInt)) ul_84 (SL.mono (RSl.mono RInt.mono) (HSub.trans hs9 hs114) hy3a_0) .none rfl ?_))
   refine JL.bin rfl rfl rfl .none rfl (JL.done hQ (JQ.go ?_))
   rcases ite_some hF with ⟨hc117, hF⟩ | ⟨hc117, hF⟩
   ·refine JC.cond_t (b := decide (i_111 < (y3.1.length : Int))) rfl hc117 ?_
    refine JC.skip (JQ.go (JC.seq (JC.block (JC.seq (JC.draw (by rfl) mo_ (by kernel_rfl) ?_)))))
    intro hQ
    refine JL.loadOwn 2 az_34 rfl rfl rfl .none rfl (JL.move .none rfl (JL.move .none rfl (JL.move .none rfl ?_)))
    obtain ⟨y124, hy124, hF⟩ := bind_some hF
    refine JL.indexSL (R := (RSl 1 RInt)) sl_84 (SL.mono (RSl.mono RInt.mono) (HSub.trans hs9 hs114) hy3a_0) rfl hy124 .none rfl ?_
    rintro b125 o126 cs127 hc128 - ⟨y124_v0, rfl, hy124_0⟩
    refine JL.loadH 0 az_28 rfl hc128 rfl .none rfl ?_
    obtain ⟨y129, hy129, hF⟩ := bind_some hF
    refine JL.callS (c_ref13_harm n H114 r r_v0 (SL.mono R_Section_mono (HSub.trans hs4 (HSub.trans hs9 hs114)) hr_0) r_v7 (SL.mono R_Span_mono (HSub.trans hs4 (HSub.trans hs9 hs114)) hr_7) r_v8 (SL.mono RInt.mono (HSub.trans hs4 (HSub.trans hs9 hs114)) hr_8) r_v9 (SL.mono R_Blow_mono (HSub.trans hs4 (HSub.trans hs9 hs114)) hr_9) r_v10 (SL.mono R_Meter_mono (HSub.trans hs4 (HSub.trans hs9 hs114)) hr_10) y8 y8a_v0 (SL.mono (RSl.mono RInt.mono) hs114 hy8a_0) y124 y124_v0 hy124_0 y129 hy129) rfl en_45 .none rfl ?_
    refine JL.move .none rfl (JL.extract rfl rfl .none rfl (JL.extract rfl rfl .none rfl (JL.assign .none rfl (JL.assign .none rfl (JL.doneQ hQ ?_)))))
    refine JQ.go (JC.fresh (fun f => f 1 = .pointer (some ⟨b1, 0, none⟩) ∧ f 2 = .pointer (some ⟨b2, 0, none⟩) ∧ f 4 = y3a_v0 ∧ f 6 = .pointer (some ⟨b7, 0, none⟩) ∧ f 7 = y8a_v0 ∧ f 8 = .int .i64 i_111 ∧ f 9 = .int .i64 y129.1 ∧ f 10 = .int .i64 y129.2) ⟨rfl, rfl, rfl, rfl, rfl, rfl, rfl, rfl⟩ ?_)
    rintro f ⟨hf1, hf2, hf4, hf6, hf7, hf8, hf9, hf10⟩
    refine (JC.norm (i := 1) hf1 (JC.norm (i := 2) hf2 (JC.norm (i := 4) hf4 (JC.norm (i := 6) hf6 (JC.norm (i := 7) hf7 (JC.norm (i := 8) hf8 (JC.norm (i := 9) hf9 (JC.norm (i := 10) hf10 ?_))))))))
    refine JC.region (by rfl) ?_
    intro hQ
    refine JL.loadOwn 0 az_42 rfl rfl rfl .none rfl (JL.move .none rfl (JL.move .none rfl (JL.bin rfl rfl rfl .none rfl ?_)))
    obtain ⟨y130, hy130, hF⟩ := bind_some hF
    refine JL.callS (c_ref13_wider n H114 (Span.mk z_112 z_113) y129.1 (i_111 == 0) y130 hy130) rfl en_46 .none rfl ?_
    refine JL.move .none rfl ?_
    obtain ⟨y131, hy131, hF⟩ := bind_some hF
    refine JL.callS (c_ref13_wider n H114 y130 y129.2 false y131 hy131) rfl en_46 .none rfl ?_
    refine JL.storeOwn 0 (cs := [.int .i64 y131.Low, .int .i64 y131.High]) az_42 rfl rfl rfl (one_cons rfl (one_cons rfl one_nil)) rfl rfl .none ?_
    refine JL.done hQ (JQ.normal_block (JQ.go (JC.fresh (fun f => f 1 = .pointer (some ⟨b1, 0, none⟩) ∧ f 2 = .pointer (some ⟨b2, 0, none⟩) ∧ f 4 = y3a_v0 ∧ f 6 = .pointer (some ⟨b7, 0, none⟩) ∧ f 7 = y8a_v0 ∧ f 8 = .int .i64 i_111) ⟨rfl, rfl, rfl, rfl, rfl, rfl⟩ ?_)))
    rintro f ⟨hf1, hf2, hf4, hf6, hf7, hf8⟩
    refine (JC.norm (i := 1) hf1 (JC.norm (i := 2) hf2 (JC.norm (i := 4) hf4 (JC.norm (i := 6) hf6 (JC.norm (i := 7) hf7 (JC.norm (i := 8) hf8 ?_))))))
    refine JC.region (by rfl) ?_
    intro hQ
    refine JL.move .none rfl (JL.bin rfl rfl rfl .none rfl (JL.assign .none rfl (JL.done hQ ?_)))
    obtain rfl := Option.some.inj hF
    exact JQ.next rfl ⟨rfl, rfl, rfl, rfl, rfl, rfl, rfl, rfl, hs114⟩
   ·refine JC.cond_f (b := decide (i_111 < (y3.1.length : Int))) rfl hc117 ?_
    refine JC.exit (JQ.exit_then (JQ.exit_then (JQ.exit_block ?_)))
    obtain rfl := Option.some.inj hF
    have ehr115 := hr115 _ rfl
    subst ehr115
    refine JQ.mask [true, true, false] [] ?_
    exact JQ.join (z_112, z_113) ⟨rfl, rfl, rfl, rfl, hs114, rfl⟩
  ·rintro ⟨z_69, z_70⟩ H71 f bs gs ⟨hf2, hf6, rfl, rfl, hs71, rfl⟩
   have hF := hKr72
   try dsimp only at hF
   refine (JQ.norm (i := 2) hf2 (JQ.norm (i := 6) hf6 ?_))
   refine JQ.go (JC.seq (JC.region (by rfl) ?_))
   intro hQ
   refine JL.loadOwn 0 az_42 rfl rfl rfl .none rfl (JL.storeOwn 1 (cs := [.int .i64 z_69, .int .i64 z_70]) az_42 rfl rfl rfl (one_cons rfl (one_cons rfl one_nil)) rfl rfl .none ?_)
   refine JL.assign .none rfl (JL.done hQ (JQ.go (JC.ret ?_)))
   obtain rfl := Option.some.inj hF
   exact JQ.outS rfl (.cell 1 az_42 rfl rfl rfl (.tmp .nil)) rfl
-- 10 ferrule/ferruleref13.Stood
def F_ref13_Stood (n : Nat) (r : Run) : Option (Int × Int) :=
 (F_ref13_Harm n r).bind fun y2 => if (y2.2 != 0) = true then (some (0, y2.2)) else (if (y2.1.High == 0) = true then (some (1, 0)) else (if decide (0 < y2.1.Low) = true then (some (2, 0)) else (some (3, 0))))
theorem c_ref13_Stood (n : Nat) (H : Hp) (r : Run) (r_v0 : Value) (hr_0 : SL H 7 R_Section r_v0 r.Canopy.Frame.Sections) (r_v7 : Value) (hr_7 : SL H 2 R_Span r_v7 r.Canopy.Ribs) (r_v8 : Value) (hr_8 : SL H 1 RInt r_v8 r.Canopy.Shares) (r_v9 : Value) (hr_9 : SL H 3 R_Blow r_v9 r.Blows) (r_v10 : Value) (hr_10 : SL H 2 R_Meter r_v10 r.Meters) (y : Int × Int) (hF : F_ref13_Stood n r = some y) : SC Tryz.prog 10 [.agg [r_v0, .int .i64 r.Canopy.Frame.Low, .int .i64 r.Canopy.Frame.High, .int .i64 r.Canopy.Frame.Ease.Num, .int .i64 r.Canopy.Frame.Ease.Den, .int .i64 r.Canopy.Frame.Rod, .int .i64 r.Canopy.Frame.Case, r_v7, r_v8, r_v9, r_v10, .int .i64 r.Wrong].toArray] (.tuple [.int .i64 y.1, .int .i64 y.2].toArray) H := by
 rw [F_ref13_Stood] at hF
 refine SC.of (N := 23) Tryz.func10 rfl rfl rfl fun w => ?_
 refine JC.seq (JC.region (by rfl) ?_)
 intro hQ
 refine JL.box (cs := [r_v0, .int .i64 r.Canopy.Frame.Low, .int .i64 r.Canopy.Frame.High, .int .i64 r.Canopy.Frame.Ease.Num, .int .i64 r.Canopy.Frame.Ease.Den, .int .i64 r.Canopy.Frame.Rod, .int .i64 r.Canopy.Frame.Case, r_v7, r_v8, r_v9, r_v10, .int .i64 r.Wrong]) rfl .none rfl ?_
 intro b1
 refine JL.assign .none rfl (JL.assign .none rfl (JL.done hQ (JQ.go (JC.seq (JC.region (by rfl) ?_)))))
 intro hQ
 refine JL.loadOwn 0 az_34 rfl rfl rfl .none rfl ?_
 obtain ⟨y2, hy2, hF⟩ := bind_some hF
 refine JL.callS (c_ref13_Harm n H r r_v0 hr_0 r_v7 hr_7 r_v8 hr_8 r_v9 hr_9 r_v10 hr_10 y2 hy2) rfl en_12 .none rfl ?_
 refine JL.move .none rfl (JL.extract rfl rfl .none rfl (JL.extract rfl rfl .none rfl (JL.alloc ze_42 .none rfl ?_)))
 intro b3
 refine JL.storeOwn 0 (cs := [.int .i64 y2.1.Low, .int .i64 y2.1.High]) az_42 rfl rfl rfl (one_cons rfl (one_cons rfl one_nil)) rfl rfl .none ?_
 refine JL.assign .none rfl (JL.done hQ (JQ.go (JC.seq (JC.block (JC.seq (JC.region (by rfl) ?_))))))
 intro hQ
 refine JL.move .none rfl (JL.bin rfl rfl rfl .none rfl (JL.assign .none rfl (JL.done hQ (JQ.go (JC.fresh (fun f => f 2 = .int .i64 0 ∧ f 3 = .int .i64 0 ∧ f 4 = .pointer (some ⟨b3, 0, none⟩) ∧ f 5 = .int .i64 y2.2 ∧ f 11 = .bool (y2.2 != 0)) ⟨rfl, rfl, rfl, rfl, rfl⟩ ?_)))))
 rintro f ⟨hf2, hf3, hf4, hf5, hf11⟩
 refine (JC.norm (i := 2) hf2 (JC.norm (i := 3) hf3 (JC.norm (i := 4) hf4 (JC.norm (i := 5) hf5 (JC.norm (i := 11) hf11 ?_)))))
 rcases ite_some hF with ⟨hc4, hF⟩ | ⟨hc4, hF⟩
 ·refine JC.cond_t (b := (y2.2 != 0)) rfl hc4 ?_
  refine JC.seq (JC.region (by rfl) ?_)
  intro hQ
  refine JL.move .none rfl (JL.assign .none rfl (JL.assign .none rfl (JL.done hQ (JQ.go (JC.ret (JQ.ret_block (JQ.ret_then ?_)))))))
  obtain rfl := Option.some.inj hF
  exact JQ.outS rfl (.tmp (.tmp .nil)) rfl
 ·refine JC.cond_f (b := (y2.2 != 0)) rfl hc4 ?_
  refine JC.seq (JC.region (by rfl) ?_)
  intro hQ
  refine JL.fieldAddr fo_42_1 rfl .none rfl (JL.loadOwn 0 az_3 rfl rfl rfl .none rfl (JL.bin rfl rfl rfl .none rfl (JL.assign .none rfl (JL.done hQ (JQ.go ?_)))))
  rcases ite_some hF with ⟨hc5, hF⟩ | ⟨hc5, hF⟩
  ·refine JC.cond_t (b := (y2.1.High == 0)) rfl hc5 ?_
   refine JC.seq (JC.region (by rfl) ?_)
   intro hQ
   refine JL.assign .none rfl (JL.assign .none rfl (JL.done hQ (JQ.go (JC.ret (JQ.ret_block (JQ.ret_then ?_))))))
   obtain rfl := Option.some.inj hF
   exact JQ.outS rfl (.tmp (.tmp .nil)) rfl
  ·refine JC.cond_f (b := (y2.1.High == 0)) rfl hc5 ?_
   refine JC.seq (JC.region (by rfl) ?_)
   intro hQ
   refine JL.fieldAddr fo_42_0 rfl .none rfl (JL.loadOwn 0 az_3 rfl rfl rfl .none rfl (JL.bin rfl rfl rfl .none rfl (JL.assign .none rfl (JL.done hQ (JQ.go ?_)))))
   rcases ite_some hF with ⟨hc6, hF⟩ | ⟨hc6, hF⟩
   ·refine JC.cond_t (b := decide (0 < y2.1.Low)) rfl hc6 ?_
    refine JC.seq (JC.region (by rfl) ?_)
    intro hQ
    refine JL.assign .none rfl (JL.assign .none rfl (JL.done hQ (JQ.go (JC.ret (JQ.ret_block (JQ.ret_then ?_))))))
    obtain rfl := Option.some.inj hF
    exact JQ.outS rfl (.tmp (.tmp .nil)) rfl
   ·refine JC.cond_f (b := decide (0 < y2.1.Low)) rfl hc6 ?_
    refine JC.skip (JQ.normal_block (JQ.go (JC.seq (JC.region (by rfl) ?_))))
    intro hQ
    refine JL.assign .none rfl (JL.assign .none rfl (JL.done hQ (JQ.go (JC.ret ?_))))
    obtain rfl := Option.some.inj hF
    exact JQ.outS rfl (.tmp (.tmp .nil)) rfl
end Go.Proofs.YtcipdblhopffbaaGreat
end
section
set_option maxRecDepth 100000
set_option maxHeartbeats 40000000
namespace Go.Proofs.YtcipdblhopffbaaGreat
open Go Go.RowKit Go.Dec
set_option linter.unusedVariables false
-- 13 ferrule/counts.Show
noncomputable def F_counts_Show_s2 (n : Nat) (x_2945 : Int) (z_2946 : List Section) (z_2947 : Int) (z_2948 : Int) (z_2949 : Int) (z_2950 : Int) (z_2951 : Int) (z_2952 : Int) (z_2953 : List Span) (z_2954 : List Int) (z_2955 : List Blow) (z_2956 : List Meter) (z_2957 : Int) (out_2958 : List Int) (y3188 : Blow) : Int → Option (Int ⊕ ((List Section × Int × Int × Int × Int × Int × Int × List Span × List Int × List Blow × List Meter × Int × List Int) ⊕ Unit))
 | force_3363 => if decide (force_3363 ≤ y3188.Force.High) = true then ((F_counts_fixed n (Run.mk (Canopy.mk (Frame.mk z_2946 z_2947 z_2948 (Frac.mk z_2949 z_2950) z_2951 z_2952) z_2953 z_2954) z_2955 z_2956 z_2957) x_2945 force_3363).bind fun y3368 => (F_counts_open n y3368 true (fun a0_ a1_ => F_counts_none n a0_ a1_)).bind fun y3372 => if (y3372.2.2 == 0) = true then ((lim (out_2958 ++ [force_3363])).bind fun l3377 => some (Sum.inr (Sum.inl (y3368.Canopy.Frame.Sections, y3368.Canopy.Frame.Low, y3368.Canopy.Frame.High, y3368.Canopy.Frame.Ease.Num, y3368.Canopy.Frame.Ease.Den, y3368.Canopy.Frame.Rod, y3368.Canopy.Frame.Case, y3368.Canopy.Ribs, y3368.Canopy.Shares, y3368.Blows, y3368.Meters, y3368.Wrong, l3377)))) else (some (Sum.inl (w64 (force_3363 + 1))))) else (some (Sum.inr (Sum.inr ())))
noncomputable def F_counts_Show_s1 (n : Nat) (r : Run) : Int × List Section × Int × Int × Int × Int × Int × Int × List Span × List Int × List Blow × List Meter × Int × List Int → Option ((Int × List Section × Int × Int × Int × Int × Int × Int × List Span × List Int × List Blow × List Meter × Int × List Int) ⊕ (List Int))
 | (x_2945, z_2946, z_2947, z_2948, z_2949, z_2950, z_2951, z_2952, z_2953, z_2954, z_2955, z_2956, z_2957, out_2958) => if decide (x_2945 < (r.Blows.length : Int)) = true then (((geti r.Blows x_2945).bind fun y3188 => (loopO n (F_counts_Show_s2 n x_2945 z_2946 z_2947 z_2948 z_2949 z_2950 z_2951 z_2952 z_2953 z_2954 z_2955 z_2956 z_2957 out_2958 y3188) y3188.Force.Low).bind fun r3296 => match r3296 with | .inl o => some o | .inr _ => some (z_2946, z_2947, z_2948, z_2949, z_2950, z_2951, z_2952, z_2953, z_2954, z_2955, z_2956, z_2957, out_2958)).bind fun r3187 => match r3187 with | (z_3173, z_3174, z_3175, z_3176, z_3177, z_3178, z_3179, z_3180, z_3181, z_3182, z_3183, z_3184, out_3185) => some (Sum.inl ((w64 (x_2945 + 1)), z_3173, z_3174, z_3175, z_3176, z_3177, z_3178, z_3179, z_3180, z_3181, z_3182, z_3183, z_3184, out_3185))) else (some (Sum.inr out_2958))
noncomputable def F_counts_Show (n : Nat) (r : Run) : Option ((List Int) × Int) :=
 (F_counts_open n r true (fun a0_ a1_ => F_counts_none n a0_ a1_)).bind fun y2 => if (y2.2.2 != 0) = true then (some (([] : List Int), y2.2.2)) else ((loopO n (F_counts_Show_s1 n r) (0, r.Canopy.Frame.Sections, r.Canopy.Frame.Low, r.Canopy.Frame.High, r.Canopy.Frame.Ease.Num, r.Canopy.Frame.Ease.Den, r.Canopy.Frame.Rod, r.Canopy.Frame.Case, r.Canopy.Ribs, r.Canopy.Shares, r.Blows, r.Meters, r.Wrong, ([] : List Int))).bind fun out_2040 => some (out_2040, 0))
theorem c_counts_Show (n : Nat) (H : Hp) (r : Run) (r_v0 : Value) (hr_0 : SL H 7 R_Section r_v0 r.Canopy.Frame.Sections) (r_v7 : Value) (hr_7 : SL H 2 R_Span r_v7 r.Canopy.Ribs) (r_v8 : Value) (hr_8 : SL H 1 RInt r_v8 r.Canopy.Shares) (r_v9 : Value) (hr_9 : SL H 3 R_Blow r_v9 r.Blows) (r_v10 : Value) (hr_10 : SL H 2 R_Meter r_v10 r.Meters) (y : (List Int) × Int) (hF : F_counts_Show n r = some y) : HC Tryz.prog 13 [.agg [r_v0, .int .i64 r.Canopy.Frame.Low, .int .i64 r.Canopy.Frame.High, .int .i64 r.Canopy.Frame.Ease.Num, .int .i64 r.Canopy.Frame.Ease.Den, .int .i64 r.Canopy.Frame.Rod, .int .i64 r.Canopy.Frame.Case, r_v7, r_v8, r_v9, r_v10, .int .i64 r.Wrong].toArray] H (fun H' v => ∃ ra_v0 : Value, v = .tuple [ra_v0, .int .i64 y.2].toArray ∧ SL H' 1 RInt ra_v0 y.1) := by
 rw [F_counts_Show] at hF
 refine HC.of (N := 61) Tryz.func13 rfl rfl rfl fun w => ?_
 refine JC.seq (JC.region (by rfl) ?_)
 intro hQ
 refine JL.box (cs := [r_v0, .int .i64 r.Canopy.Frame.Low, .int .i64 r.Canopy.Frame.High, .int .i64 r.Canopy.Frame.Ease.Num, .int .i64 r.Canopy.Frame.Ease.Den, .int .i64 r.Canopy.Frame.Rod, .int .i64 r.Canopy.Frame.Case, r_v7, r_v8, r_v9, r_v10, .int .i64 r.Wrong]) rfl .none rfl ?_
 intro b1
 refine JL.assign .none rfl (JL.assign .none rfl (JL.done hQ (JQ.go (JC.scope (JC.seq (JC.seq (JC.region (by rfl) ?_)))))))
 intro hQ
 refine JL.loadOwn 0 az_34 rfl rfl rfl .none rfl ?_
 obtain ⟨y2, hy2, hF⟩ := bind_some hF
 refine JL.callH (c_counts_open n H r r_v0 hr_0 r_v7 hr_7 r_v8 hr_8 r_v9 hr_9 r_v10 hr_10 true (fun a0_ a1_ => F_counts_none n a0_ a1_) 48 [] en_48 (fun H' hs' a0_ a1_ y' hy' => c_counts_none n H' a0_ a1_ y' hy') y2 hy2) rfl en_47 .none rfl ?_
 rintro H3 vv4 hs3 ⟨y2a_v0, y2b_v0, rfl, hy2a_0, hy2b_0⟩
 refine JL.move .none rfl (JL.extract rfl rfl .none rfl (JL.extract rfl rfl .none rfl (JL.extract rfl rfl .none rfl (JL.assign .none rfl (JL.assign .none rfl (JL.assign .none rfl (JL.done hQ (JQ.go (JC.seq (JC.region (by rfl) ?_))))))))))
 intro hQ
 refine JL.move .none rfl (JL.bin rfl rfl rfl .none rfl (JL.done hQ (JQ.go (JC.fresh (fun f => f 1 = .pointer (some ⟨b1, 0, none⟩) ∧ f 2 = .slice none 0 0 ∧ f 3 = .int .i64 0 ∧ f 6 = .int .i64 y2.2.2 ∧ f 22 = .bool (y2.2.2 != 0)) ⟨rfl, rfl, rfl, rfl, rfl⟩ ?_))))
 rintro f ⟨hf1, hf2, hf3, hf6, hf22⟩
 refine (JC.norm (i := 1) hf1 (JC.norm (i := 2) hf2 (JC.norm (i := 3) hf3 (JC.norm (i := 6) hf6 (JC.norm (i := 22) hf22 ?_)))))
 rcases ite_some hF with ⟨hc5, hF⟩ | ⟨hc5, hF⟩
 ·refine JC.cond_t (b := (y2.2.2 != 0)) rfl hc5 ?_
  refine JC.seq (JC.region (by rfl) ?_)
  intro hQ
  refine JL.move .none rfl (JL.assign .none rfl (JL.assign .none rfl (JL.done hQ (JQ.go (JC.ret (JQ.ret_then (JQ.ret_scope ?_)))))))
  obtain rfl := Option.some.inj hF
  exact JQ.outH rfl (.tmp (.tmp .nil)) ⟨(.slice none 0 0), rfl, SL.nil⟩
 ·refine JC.cond_f (b := (y2.2.2 != 0)) rfl hc5 ?_
  refine JC.skip (JQ.go (JC.seq (JC.region (by rfl) ?_)))
  intro hQ
  refine JL.assign .none rfl (JL.done hQ (JQ.go (JC.seq (JC.label (JQ.go (JC.seq (JC.seq (JC.region (by rfl) ?_))))))))
  intro hQ
  refine JL.fieldAddr fo_34_1 rfl .none rfl (JL.loadOwn 0 az_31 rfl rfl rfl .none rfl (JL.lenSL (R := R_Blow) ul_31 (SL.mono R_Blow_mono hs3 hr_9) .none rfl ?_))
  refine JL.move .none rfl (JL.done hQ (JQ.go (JC.newNil (e := 3) (sz := 1) ?_)))
  obtain ⟨r2042, hlr2042, hKr2042⟩ := bind_some hF
  refine JC.join (fun (out_2040 : List Int) H2041 f bs gs => ∃ (vout_2040 : Value) (xsout_2040 : List Value), f 7 = vout_2040 ∧ bs = [] ∧ gs = [⟨vout_2040, 3, 1, out_2040.length, xsout_2040⟩] ∧ CH H2041 1 RInt xsout_2040 out_2040 ∧ HSub H3 H2041 ∧ out_2040 = r2042) ?_ ?_
  ·skip
   refine JC.block (JC.loop hlr2042 (fun (x : Int × List Section × Int × Int × Int × Int × Int × Int × List Span × List Int × List Blow × List Meter × Int × List Int) H2959 f bs gs => match x with | (x_2945, z_2946, z_2947, z_2948, z_2949, z_2950, z_2951, z_2952, z_2953, z_2954, z_2955, z_2956, z_2957, out_2958) => ∃ (vz_2946 : Value) (vz_2953 : Value) (vz_2954 : Value) (vz_2955 : Value) (vz_2956 : Value) (vout_2958 : Value) (xsout_2958 : List Value), f 1 = .pointer (some ⟨b1, 0, none⟩) ∧ f 7 = vout_2958 ∧ f 25 = r_v9 ∧ f 26 = .int .i64 (r.Blows.length : Int) ∧ f 27 = .int .i64 x_2945 ∧ bs = [(b1, .cells [vz_2946, .int .i64 z_2947, .int .i64 z_2948, .int .i64 z_2949, .int .i64 z_2950, .int .i64 z_2951, .int .i64 z_2952, vz_2953, vz_2954, vz_2955, vz_2956, .int .i64 z_2957].toArray 34)] ∧ gs = [⟨vout_2958, 3, 1, out_2958.length, xsout_2958⟩] ∧ SL H2959 7 R_Section vz_2946 z_2946 ∧ SL H2959 2 R_Span vz_2953 z_2953 ∧ SL H2959 1 RInt vz_2954 z_2954 ∧ SL H2959 3 R_Blow vz_2955 z_2955 ∧ SL H2959 2 R_Meter vz_2956 z_2956 ∧ CH H2959 1 RInt xsout_2958 out_2958 ∧ HSub H3 H2959) ⟨r_v0, r_v7, r_v8, r_v9, r_v10, (.slice none 0 0), [], rfl, rfl, rfl, rfl, rfl, rfl, rfl, (SL.mono R_Section_mono hs3 hr_0), (SL.mono R_Span_mono hs3 hr_7), (SL.mono RInt.mono hs3 hr_8), (SL.mono R_Blow_mono hs3 hr_9), (SL.mono R_Meter_mono hs3 hr_10), CH.nil, (HSub.refl _)⟩ ?_)
   rintro ⟨x_2945, z_2946, z_2947, z_2948, z_2949, z_2950, z_2951, z_2952, z_2953, z_2954, z_2955, z_2956, z_2957, out_2958⟩ x2961 H2959 f bs gs ⟨vz_2946, vz_2953, vz_2954, vz_2955, vz_2956, vout_2958, xsout_2958, hf1, hf7, hf25, hf26, hf27, rfl, rfl, hz_2946, hz_2953, hz_2954, hz_2955, hz_2956, hout_2958, hs2959⟩ hF hr2960
   rw [F_counts_Show_s1] at hF
   refine (JC.norm (i := 1) hf1 (JC.norm (i := 7) hf7 (JC.norm (i := 25) hf25 (JC.norm (i := 26) hf26 (JC.norm (i := 27) hf27 ?_)))))
   refine JC.seq (JC.region (by rfl) ?_)
   intro hQ
   refine JL.bin rfl rfl rfl .none rfl (JL.done hQ (JQ.go (JC.seq ?_)))
   rcases ite_some hF with ⟨hc2962, hF⟩ | ⟨hc2962, hF⟩
   ·refine JC.cond_t (b := decide (x_2945 < (r.Blows.length : Int))) rfl hc2962 ?_
    refine JC.skip (JQ.go (JC.seq ?_))
    obtain ⟨r3187, hlr3187, hKr3187⟩ := bind_some hF
    refine JC.join (fun (x : List Section × Int × Int × Int × Int × Int × Int × List Span × List Int × List Blow × List Meter × Int × List Int) H3186 f bs gs => match x with | (z_3173, z_3174, z_3175, z_3176, z_3177, z_3178, z_3179, z_3180, z_3181, z_3182, z_3183, z_3184, out_3185) => ∃ (vz_3173 : Value) (vz_3180 : Value) (vz_3181 : Value) (vz_3182 : Value) (vz_3183 : Value) (vout_3185 : Value) (xsout_3185 : List Value), f 1 = .pointer (some ⟨b1, 0, none⟩) ∧ f 7 = vout_3185 ∧ f 25 = r_v9 ∧ f 26 = .int .i64 (r.Blows.length : Int) ∧ f 27 = .int .i64 x_2945 ∧ bs = [(b1, .cells [vz_3173, .int .i64 z_3174, .int .i64 z_3175, .int .i64 z_3176, .int .i64 z_3177, .int .i64 z_3178, .int .i64 z_3179, vz_3180, vz_3181, vz_3182, vz_3183, .int .i64 z_3184].toArray 34)] ∧ gs = [⟨vout_3185, 3, 1, out_3185.length, xsout_3185⟩] ∧ SL H3186 7 R_Section vz_3173 z_3173 ∧ SL H3186 2 R_Span vz_3180 z_3180 ∧ SL H3186 1 RInt vz_3181 z_3181 ∧ SL H3186 3 R_Blow vz_3182 z_3182 ∧ SL H3186 2 R_Meter vz_3183 z_3183 ∧ CH H3186 1 RInt xsout_3185 out_3185 ∧ HSub H2959 H3186 ∧ (z_3173, z_3174, z_3175, z_3176, z_3177, z_3178, z_3179, z_3180, z_3181, z_3182, z_3183, z_3184, out_3185) = r3187) ?_ ?_
    ·have hF := hlr3187
     refine JC.block (JC.seq (JC.region (by rfl) ?_))
     intro hQ
     refine JL.move .none rfl ?_
     obtain ⟨y3188, hy3188, hF⟩ := bind_some hF
     refine JL.indexSL (R := R_Blow) sl_31 (SL.mono R_Blow_mono (HSub.trans hs3 hs2959) hr_9) rfl hy3188 .none rfl ?_
     rintro b3189 o3190 cs3191 hc3192 - rfl
     refine JL.loadH 0 az_62 rfl hc3192 rfl .none rfl ?_
     refine JL.alloc ze_62 .none rfl ?_
     intro b3193
     refine JL.assign .none rfl (JL.storeOwn 0 (cs := [.int .i64 y3188.At, .int .i64 y3188.Force.Low, .int .i64 y3188.Force.High]) az_62 rfl rfl rfl (one_cons rfl (one_cons rfl (one_cons rfl one_nil))) rfl rfl .none ?_)
     refine JL.done hQ (JQ.go (JC.seq (JC.region (by rfl) ?_)))
     intro hQ
     refine JL.fieldAddr fo_62_1 rfl .none rfl (JL.fieldAddr fo_42_0 rfl .none rfl (JL.loadOwn 0 az_3 rfl rfl rfl .none rfl (JL.assign .none rfl (JL.done hQ (JQ.go ?_)))))
     obtain ⟨r3296, hlr3296, hKr3296⟩ := bind_some hF
     refine JC.join (fun (_ : Unit) H3295 f bs gs => f 1 = .pointer (some ⟨b1, 0, none⟩) ∧ f 7 = vout_2958 ∧ f 25 = r_v9 ∧ f 26 = .int .i64 (r.Blows.length : Int) ∧ f 27 = .int .i64 x_2945 ∧ bs = [(b1, .cells [vz_2946, .int .i64 z_2947, .int .i64 z_2948, .int .i64 z_2949, .int .i64 z_2950, .int .i64 z_2951, .int .i64 z_2952, vz_2953, vz_2954, vz_2955, vz_2956, .int .i64 z_2957].toArray 34)] ∧ gs = [⟨vout_2958, 3, 1, out_2958.length, xsout_2958⟩] ∧ HSub H2959 H3295 ∧ Sum.inr () = r3296) ?_ ?_
     ·skip
      refine JC.block (JC.loop hlr3296 (fun (force_3363 : Int) H3364 f bs gs => f 1 = .pointer (some ⟨b1, 0, none⟩) ∧ f 7 = vout_2958 ∧ f 8 = .int .i64 x_2945 ∧ f 9 = .pointer (some ⟨b3193, 0, none⟩) ∧ f 10 = .int .i64 force_3363 ∧ f 25 = r_v9 ∧ f 26 = .int .i64 (r.Blows.length : Int) ∧ f 27 = .int .i64 x_2945 ∧ bs = [(b3193, .cells [.int .i64 y3188.At, .int .i64 y3188.Force.Low, .int .i64 y3188.Force.High].toArray 62), (b1, .cells [vz_2946, .int .i64 z_2947, .int .i64 z_2948, .int .i64 z_2949, .int .i64 z_2950, .int .i64 z_2951, .int .i64 z_2952, vz_2953, vz_2954, vz_2955, vz_2956, .int .i64 z_2957].toArray 34)] ∧ gs = [⟨vout_2958, 3, 1, out_2958.length, xsout_2958⟩] ∧ HSub H2959 H3364) ⟨rfl, rfl, rfl, rfl, rfl, rfl, rfl, rfl, rfl, rfl, (HSub.refl _)⟩ ?_)
      rintro force_3363 x3366 H3364 f bs gs ⟨hf1, hf7, hf8, hf9, hf10, hf25, hf26, hf27, rfl, rfl, hs3364⟩ hF hr3365
      rw [F_counts_Show_s2] at hF
      refine (JC.norm (i := 1) hf1 (JC.norm (i := 7) hf7 (JC.norm (i := 8) hf8 (JC.norm (i := 9) hf9 (JC.norm (i := 10) hf10 (JC.norm (i := 25) hf25 (JC.norm (i := 26) hf26 (JC.norm (i := 27) hf27 ?_))))))))
      refine JC.seq (JC.seq (JC.region (by rfl) ?_))
      intro hQ
      refine JL.move .none rfl (JL.fieldAddr fo_62_1 rfl .none rfl (JL.fieldAddr fo_42_1 rfl .none rfl (JL.loadOwn 0 az_3 rfl rfl rfl .none rfl (JL.bin rfl rfl rfl .none rfl (JL.done hQ (JQ.go ?_))))))
      rcases ite_some hF with ⟨hc3367, hF⟩ | ⟨hc3367, hF⟩
      ·refine JC.cond_t (b := decide (force_3363 ≤ y3188.Force.High)) rfl hc3367 ?_
       refine JC.skip (JQ.go (JC.seq (JC.block (JC.seq (JC.region (by rfl) ?_)))))
       intro hQ
       refine JL.loadOwn 1 az_34 rfl rfl rfl .none rfl (JL.move .none rfl (JL.move .none rfl ?_))
       obtain ⟨y3368, hy3368, hF⟩ := bind_some hF
       refine JL.callH (c_counts_fixed n H3364 (Run.mk (Canopy.mk (Frame.mk z_2946 z_2947 z_2948 (Frac.mk z_2949 z_2950) z_2951 z_2952) z_2953 z_2954) z_2955 z_2956 z_2957) vz_2946 (SL.mono R_Section_mono hs3364 hz_2946) vz_2953 (SL.mono R_Span_mono hs3364 hz_2953) vz_2954 (SL.mono RInt.mono hs3364 hz_2954) vz_2955 (SL.mono R_Blow_mono hs3364 hz_2955) vz_2956 (SL.mono R_Meter_mono hs3364 hz_2956) x_2945 force_3363 y3368 hy3368) rfl en_49 .none rfl ?_
       rintro H3369 vv3370 hs3369 ⟨y3368a_v0, y3368a_v7, y3368a_v8, y3368a_v9, y3368a_v10, rfl, hy3368a_0, hy3368a_7, hy3368a_8, hy3368a_9, hy3368a_10⟩
       refine JL.alloc ze_34 .none rfl ?_
       intro b3371
       refine JL.storeOwn 0 (cs := [y3368a_v0, .int .i64 y3368.Canopy.Frame.Low, .int .i64 y3368.Canopy.Frame.High, .int .i64 y3368.Canopy.Frame.Ease.Num, .int .i64 y3368.Canopy.Frame.Ease.Den, .int .i64 y3368.Canopy.Frame.Rod, .int .i64 y3368.Canopy.Frame.Case, y3368a_v7, y3368a_v8, y3368a_v9, y3368a_v10, .int .i64 y3368.Wrong]) az_34 rfl rfl rfl (one_cons (SL.one hy3368a_0) (one_cons rfl (one_cons rfl (one_cons rfl (one_cons rfl (one_cons rfl (one_cons rfl (one_cons (SL.one hy3368a_7) (one_cons (SL.one hy3368a_8) (one_cons (SL.one hy3368a_9) (one_cons (SL.one hy3368a_10) (one_cons rfl one_nil)))))))))))) rfl rfl .none ?_
       refine JL.done hQ (JQ.go (JC.fresh (fun f => f 1 = .pointer (some ⟨b1, 0, none⟩) ∧ f 7 = vout_2958 ∧ f 8 = .int .i64 x_2945 ∧ f 9 = .pointer (some ⟨b3193, 0, none⟩) ∧ f 10 = .int .i64 force_3363 ∧ f 11 = .pointer (some ⟨b3371, 0, none⟩) ∧ f 25 = r_v9 ∧ f 26 = .int .i64 (r.Blows.length : Int) ∧ f 27 = .int .i64 x_2945) ⟨rfl, rfl, rfl, rfl, rfl, rfl, rfl, rfl, rfl⟩ ?_))
       rintro f ⟨hf1, hf7, hf8, hf9, hf10, hf11, hf25, hf26, hf27⟩
       refine (JC.norm (i := 1) hf1 (JC.norm (i := 7) hf7 (JC.norm (i := 8) hf8 (JC.norm (i := 9) hf9 (JC.norm (i := 10) hf10 (JC.norm (i := 11) hf11 (JC.norm (i := 25) hf25 (JC.norm (i := 26) hf26 (JC.norm (i := 27) hf27 ?_)))))))))
       refine JC.seq (JC.region (by rfl) ?_)
       intro hQ
       refine JL.loadOwn 0 az_34 rfl rfl rfl .none rfl ?_
       obtain ⟨y3372, hy3372, hF⟩ := bind_some hF
       refine JL.callH (c_counts_open n H3369 y3368 y3368a_v0 hy3368a_0 y3368a_v7 hy3368a_7 y3368a_v8 hy3368a_8 y3368a_v9 hy3368a_9 y3368a_v10 hy3368a_10 true (fun a0_ a1_ => F_counts_none n a0_ a1_) 48 [] en_48 (fun H' hs' a0_ a1_ y' hy' => c_counts_none n H' a0_ a1_ y' hy') y3372 hy3372) rfl en_47 .none rfl ?_
       rintro H3373 vv3374 hs3373 ⟨y3372a_v0, y3372b_v0, rfl, hy3372a_0, hy3372b_0⟩
       refine JL.move .none rfl (JL.extract rfl rfl .none rfl (JL.extract rfl rfl .none rfl (JL.extract rfl rfl .none rfl (JL.assign .none rfl (JL.assign .none rfl (JL.assign .none rfl (JL.done hQ (JQ.go (JC.fresh (fun f => f 1 = .pointer (some ⟨b1, 0, none⟩) ∧ f 7 = vout_2958 ∧ f 8 = .int .i64 x_2945 ∧ f 9 = .pointer (some ⟨b3193, 0, none⟩) ∧ f 10 = .int .i64 force_3363 ∧ f 11 = .pointer (some ⟨b3371, 0, none⟩) ∧ f 14 = .int .i64 y3372.2.2 ∧ f 25 = r_v9 ∧ f 26 = .int .i64 (r.Blows.length : Int) ∧ f 27 = .int .i64 x_2945) ⟨rfl, rfl, rfl, rfl, rfl, rfl, rfl, rfl, rfl, rfl⟩ ?_)))))))))
       rintro f ⟨hf1, hf7, hf8, hf9, hf10, hf11, hf14, hf25, hf26, hf27⟩
       refine (JC.norm (i := 1) hf1 (JC.norm (i := 7) hf7 (JC.norm (i := 8) hf8 (JC.norm (i := 9) hf9 (JC.norm (i := 10) hf10 (JC.norm (i := 11) hf11 (JC.norm (i := 14) hf14 (JC.norm (i := 25) hf25 (JC.norm (i := 26) hf26 (JC.norm (i := 27) hf27 ?_))))))))))
       refine JC.seq (JC.region (by rfl) ?_)
       intro hQ
       refine JL.move .none rfl (JL.bin rfl rfl rfl .none rfl (JL.done hQ (JQ.go ?_)))
       rcases ite_some hF with ⟨hc3375, hF⟩ | ⟨hc3375, hF⟩
       ·refine JC.cond_t (b := (y3372.2.2 == 0)) rfl hc3375 ?_
        refine JC.seq ?_
        obtain ⟨l3377, hl3377, hF⟩ := bind_some hF
        refine JC.mixed 7 7 (tf 0 7) [(b3371, .cells [y3368a_v0, .int .i64 y3368.Canopy.Frame.Low, .int .i64 y3368.Canopy.Frame.High, .int .i64 y3368.Canopy.Frame.Ease.Num, .int .i64 y3368.Canopy.Frame.Ease.Den, .int .i64 y3368.Canopy.Frame.Rod, .int .i64 y3368.Canopy.Frame.Case, y3368a_v7, y3368a_v8, y3368a_v9, y3368a_v10, .int .i64 y3368.Wrong].toArray 34), (b3193, .cells [.int .i64 y3188.At, .int .i64 y3188.Force.Low, .int .i64 y3188.Force.High].toArray 62)] (by rfl) mo_ (by kernel_rfl) (by kernel_rfl) ?_
        intro hQ hE
        refine JA.tk 0 (tf 1 6) hQ rfl hE (.cons_cons _ (.cons_cons _ (.cons _ (List.nil_sublist _)))) ?_
        refine JL.loadOwn 0 az_34 rfl rfl rfl .none rfl (JA.cont ?_)
        refine JA.tk 1 (tf 2 5) hQ rfl hE (.cons_cons _ (.cons_cons _ (.cons _ (List.nil_sublist _)))) ?_
        refine JL.move .none rfl (JA.cont ?_)
        refine JA.tk 2 (tf 3 4) hQ rfl hE (.cons_cons _ (.cons_cons _ (.cons _ (List.nil_sublist _)))) ?_
        refine JL.move .none rfl (JA.cont ?_)
        refine JA.many [3] (by kernel_rfl) (by simp) (all_one ⟨_, (tf 4 3), rfl, (by kernel_rfl), ?_⟩)
        refine JL.buildSlice (e := 3) (l := [.int .i64 force_3363]) (by kernel_rfl) .none rfl ?_
        intro b3394
        refine JA.after hE (HSub.refl _) (.cons _ (.cons_cons _ (.cons_cons _ (.cons _ (List.nil_sublist _))))) ?_
        refine JA.many [4] (by kernel_rfl) (by simp) (all_one ⟨_, (tf 5 2), rfl, (by kernel_rfl), ?_⟩)
        refine JL.appO (R := RInt) 0 0 (l := out_2958) (m := [force_3363]) ap_28 rfl ⟨rfl, rfl⟩ rfl (CH.mono RInt.mono (HSub.trans hs3364 (HSub.trans hs3369 hs3373)) hout_2958) rfl rfl rfl (CH.cons (cs := [.int .i64 force_3363]) rfl rfl CH.nil) rfl (one_cons rfl one_nil) hl3377 .none rfl ?_
        intro v3395 xs3396 hch3397
        refine JA.after hE (HSub.refl _) (.cons _ (.cons_cons _ (.cons_cons _ (.cons _ (List.nil_sublist _))))) ?_
        refine JA.many [5] (by kernel_rfl) (by simp) (all_one ⟨_, (tf 6 1), rfl, (by kernel_rfl), ?_⟩)
        refine JL.storeOwn 3 (cs := [y3368a_v0, .int .i64 y3368.Canopy.Frame.Low, .int .i64 y3368.Canopy.Frame.High, .int .i64 y3368.Canopy.Frame.Ease.Num, .int .i64 y3368.Canopy.Frame.Ease.Den, .int .i64 y3368.Canopy.Frame.Rod, .int .i64 y3368.Canopy.Frame.Case, y3368a_v7, y3368a_v8, y3368a_v9, y3368a_v10, .int .i64 y3368.Wrong]) az_34 rfl rfl rfl (one_cons (SL.one (SL.mono R_Section_mono hs3373 hy3368a_0)) (one_cons rfl (one_cons rfl (one_cons rfl (one_cons rfl (one_cons rfl (one_cons rfl (one_cons (SL.one (SL.mono R_Span_mono hs3373 hy3368a_7)) (one_cons (SL.one (SL.mono RInt.mono hs3373 hy3368a_8)) (one_cons (SL.one (SL.mono R_Blow_mono hs3373 hy3368a_9)) (one_cons (SL.one (SL.mono R_Meter_mono hs3373 hy3368a_10)) (one_cons rfl one_nil)))))))))))) rfl rfl .none ?_
        refine JA.after hE (HSub.refl _) (.cons _ (.cons_cons _ (.cons_cons _ (.cons _ (List.nil_sublist _))))) ?_
        refine JA.tk 6 (tf 7 0) hQ rfl hE (.cons _ (.cons_cons _ (.cons_cons _ (.cons _ (List.nil_sublist _))))) ?_
        refine JL.assign .none rfl (JA.cont ?_)
        refine JA.done hQ (by kernel_rfl) ?_
        refine JQ.go (JC.fresh (fun f => f 1 = .pointer (some ⟨b1, 0, none⟩) ∧ f 7 = v3395 ∧ f 25 = r_v9 ∧ f 26 = .int .i64 (r.Blows.length : Int) ∧ f 27 = .int .i64 x_2945) ⟨rfl, rfl, rfl, rfl, rfl⟩ ?_)
        rintro f ⟨hf1, hf7, hf25, hf26, hf27⟩
        refine (JC.norm (i := 1) hf1 (JC.norm (i := 7) hf7 (JC.norm (i := 25) hf25 (JC.norm (i := 26) hf26 (JC.norm (i := 27) hf27 ?_)))))
        refine JC.exit (JQ.exit_other rfl ?_)
        refine JQ.exit_then (JQ.exit_then (JQ.exit_other rfl ?_))
        refine JQ.exit_join (JQ.exit_block ?_)
        obtain rfl := Option.some.inj hF
        have ehr3365 := hr3365 _ rfl
        subst ehr3365
        have hF := hKr3296
        try dsimp only at hF
        obtain rfl := Option.some.inj hF
        refine JQ.mask [false, false, false, true] [true] ?_
        exact JQ.join (y3368.Canopy.Frame.Sections, y3368.Canopy.Frame.Low, y3368.Canopy.Frame.High, y3368.Canopy.Frame.Ease.Num, y3368.Canopy.Frame.Ease.Den, y3368.Canopy.Frame.Rod, y3368.Canopy.Frame.Case, y3368.Canopy.Ribs, y3368.Canopy.Shares, y3368.Blows, y3368.Meters, y3368.Wrong, l3377) ⟨y3368a_v0, y3368a_v7, y3368a_v8, y3368a_v9, y3368a_v10, v3395, xs3396, rfl, rfl, rfl, rfl, rfl, rfl, rfl, (SL.mono R_Section_mono hs3373 hy3368a_0), (SL.mono R_Span_mono hs3373 hy3368a_7), (SL.mono RInt.mono hs3373 hy3368a_8), (SL.mono R_Blow_mono hs3373 hy3368a_9), (SL.mono R_Meter_mono hs3373 hy3368a_10), hch3397, (HSub.trans hs3364 (HSub.trans hs3369 hs3373)), rfl⟩
       ·refine JC.cond_f (b := (y3372.2.2 == 0)) rfl hc3375 ?_
        refine JC.skip (JQ.normal_block (JQ.go (JC.region (by rfl) ?_)))
        intro hQ
        refine JL.move .none rfl (JL.bin rfl rfl rfl .none rfl (JL.assign .none rfl (JL.done hQ ?_)))
        obtain rfl := Option.some.inj hF
        refine JQ.mask [false, true, true] [true] ?_
        exact JQ.next rfl ⟨rfl, rfl, rfl, rfl, rfl, rfl, rfl, rfl, rfl, rfl, (HSub.trans hs3364 (HSub.trans hs3369 hs3373))⟩
      ·refine JC.cond_f (b := decide (force_3363 ≤ y3188.Force.High)) rfl hc3367 ?_
       refine JC.exit (JQ.exit_then (JQ.exit_then (JQ.exit_block ?_)))
       obtain rfl := Option.some.inj hF
       have ehr3365 := hr3365 _ rfl
       subst ehr3365
       refine JQ.mask [false, true] [true] ?_
       exact JQ.join () ⟨rfl, rfl, rfl, rfl, rfl, rfl, rfl, hs3364, rfl⟩
     ·rintro _ H3295 f bs gs ⟨hf1, hf7, hf25, hf26, hf27, rfl, rfl, hs3295, rfl⟩
      have hF := hKr3296
      try dsimp only at hF
      refine (JQ.norm (i := 1) hf1 (JQ.norm (i := 7) hf7 (JQ.norm (i := 25) hf25 (JQ.norm (i := 26) hf26 (JQ.norm (i := 27) hf27 ?_)))))
      refine JQ.normal_block ?_
      obtain rfl := Option.some.inj hF
      exact JQ.join (z_2946, z_2947, z_2948, z_2949, z_2950, z_2951, z_2952, z_2953, z_2954, z_2955, z_2956, z_2957, out_2958) ⟨vz_2946, vz_2953, vz_2954, vz_2955, vz_2956, vout_2958, xsout_2958, rfl, rfl, rfl, rfl, rfl, rfl, rfl, (SL.mono R_Section_mono hs3295 hz_2946), (SL.mono R_Span_mono hs3295 hz_2953), (SL.mono RInt.mono hs3295 hz_2954), (SL.mono R_Blow_mono hs3295 hz_2955), (SL.mono R_Meter_mono hs3295 hz_2956), (CH.mono RInt.mono hs3295 hout_2958), hs3295, rfl⟩
    ·rintro ⟨z_3173, z_3174, z_3175, z_3176, z_3177, z_3178, z_3179, z_3180, z_3181, z_3182, z_3183, z_3184, out_3185⟩ H3186 f bs gs ⟨vz_3173, vz_3180, vz_3181, vz_3182, vz_3183, vout_3185, xsout_3185, hf1, hf7, hf25, hf26, hf27, rfl, rfl, hz_3173, hz_3180, hz_3181, hz_3182, hz_3183, hout_3185, hs3186, rfl⟩
     have hF := hKr3187
     try dsimp only at hF
     refine (JQ.norm (i := 1) hf1 (JQ.norm (i := 7) hf7 (JQ.norm (i := 25) hf25 (JQ.norm (i := 26) hf26 (JQ.norm (i := 27) hf27 ?_)))))
     refine JQ.go (JC.region (by rfl) ?_)
     intro hQ
     refine JL.bin rfl rfl rfl .none rfl (JL.move .none rfl (JL.done hQ ?_))
     obtain rfl := Option.some.inj hF
     exact JQ.next rfl ⟨vz_3173, vz_3180, vz_3181, vz_3182, vz_3183, vout_3185, xsout_3185, rfl, rfl, rfl, rfl, rfl, rfl, rfl, hz_3173, hz_3180, hz_3181, hz_3182, hz_3183, hout_3185, (HSub.trans hs2959 hs3186)⟩
   ·refine JC.cond_f (b := decide (x_2945 < (r.Blows.length : Int))) rfl hc2962 ?_
    refine JC.exit (JQ.exit_then (JQ.exit_then (JQ.exit_block ?_)))
    obtain rfl := Option.some.inj hF
    have ehr2960 := hr2960 _ rfl
    subst ehr2960
    refine JQ.mask [false] [true] ?_
    exact JQ.join out_2958 ⟨vout_2958, xsout_2958, rfl, rfl, rfl, hout_2958, hs2959, rfl⟩
  ·rintro out_2040 H2041 f bs gs ⟨vout_2040, xsout_2040, hf7, rfl, rfl, hout_2040, hs2041, rfl⟩
   have hF := hKr2042
   try dsimp only at hF
   refine (JQ.norm (i := 7) hf7 ?_)
   refine JQ.go (JC.seq (JC.region (by rfl) ?_))
   intro hQ
   refine JL.move .none rfl (JL.assign .none rfl (JL.assign .none rfl (JL.done hQ (JQ.go (JC.ret (JQ.ret_scope ?_))))))
   refine JQ.freezeG 0 (R := RInt) rfl RInt.mono hout_2040 rfl ?_
   intro H3398 hs3398 hg3399
   obtain rfl := Option.some.inj hF
   exact JQ.outH rfl (.tmp (.tmp .nil)) ⟨vout_2040, rfl, hg3399⟩
-- 14 ferrule/ferruleref13.CheckShow
def F_ref13_CheckShow (n : Nat) (r : Run) : Option Int :=
 (F_ref13_known n r true).bind fun y2 => some y2.2
theorem c_ref13_CheckShow (n : Nat) (H : Hp) (r : Run) (r_v0 : Value) (hr_0 : SL H 7 R_Section r_v0 r.Canopy.Frame.Sections) (r_v7 : Value) (hr_7 : SL H 2 R_Span r_v7 r.Canopy.Ribs) (r_v8 : Value) (hr_8 : SL H 1 RInt r_v8 r.Canopy.Shares) (r_v9 : Value) (hr_9 : SL H 3 R_Blow r_v9 r.Blows) (r_v10 : Value) (hr_10 : SL H 2 R_Meter r_v10 r.Meters) (y : Int) (hF : F_ref13_CheckShow n r = some y) : SC Tryz.prog 14 [.agg [r_v0, .int .i64 r.Canopy.Frame.Low, .int .i64 r.Canopy.Frame.High, .int .i64 r.Canopy.Frame.Ease.Num, .int .i64 r.Canopy.Frame.Ease.Den, .int .i64 r.Canopy.Frame.Rod, .int .i64 r.Canopy.Frame.Case, r_v7, r_v8, r_v9, r_v10, .int .i64 r.Wrong].toArray] (.int .i64 y) H := by
 rw [F_ref13_CheckShow] at hF
 refine SC.of (N := 11) Tryz.func14 rfl rfl rfl fun w => ?_
 refine JC.seq (JC.region (by rfl) ?_)
 intro hQ
 refine JL.box (cs := [r_v0, .int .i64 r.Canopy.Frame.Low, .int .i64 r.Canopy.Frame.High, .int .i64 r.Canopy.Frame.Ease.Num, .int .i64 r.Canopy.Frame.Ease.Den, .int .i64 r.Canopy.Frame.Rod, .int .i64 r.Canopy.Frame.Case, r_v7, r_v8, r_v9, r_v10, .int .i64 r.Wrong]) rfl .none rfl ?_
 intro b1
 refine JL.assign .none rfl (JL.done hQ (JQ.go (JC.seq (JC.region (by rfl) ?_))))
 intro hQ
 refine JL.loadOwn 0 az_34 rfl rfl rfl .none rfl ?_
 obtain ⟨y2, hy2, hF⟩ := bind_some hF
 refine JL.callH (c_ref13_known n H r r_v0 hr_0 r_v7 hr_7 r_v8 hr_8 r_v9 hr_9 r_v10 hr_10 true y2 hy2) rfl en_43 .none rfl ?_
 rintro H3 vv4 hs3 ⟨y2a_v0, rfl, hy2a_0⟩
 refine JL.move .none rfl (JL.extract rfl rfl .none rfl (JL.extract rfl rfl .none rfl (JL.assign .none rfl (JL.assign .none rfl (JL.done hQ (JQ.go (JC.seq (JC.region (by rfl) ?_))))))))
 intro hQ
 refine JL.move .none rfl (JL.assign .none rfl (JL.done hQ (JQ.go (JC.ret ?_))))
 obtain rfl := Option.some.inj hF
 exact JQ.outS rfl (.tmp .nil) rfl
-- 50 ferrule/ferruleref13.IsCase
def F_ref13_IsCase_s1 (n : Nat) (r : Run) (forces : List Int) : Int → Option (Int ⊕ (Bool ⊕ Unit))
 | i_196 => if ((decide (i_196 < (forces.length : Int))) && (decide (i_196 < (r.Blows.length : Int)))) = true then ((geti forces i_196).bind fun y219 => (geti r.Blows i_196).bind fun y224 => (geti r.Blows i_196).bind fun y229 => (F_ref13_within n y219 y224.Force.Low y229.Force.High).bind fun y234 => if (!y234) = true then (some (Sum.inr (Sum.inl false))) else (some (Sum.inl (w64 (i_196 + 1))))) else (some (Sum.inr (Sum.inr ())))
def F_ref13_IsCase (n : Nat) (r : Run) (forces : List Int) : Option Bool :=
 (loopO n (F_ref13_IsCase_s1 n r forces) 0).bind fun r119 => match r119 with | .inl o => some o | .inr _ => some ((forces.length : Int) == (r.Blows.length : Int))
theorem c_ref13_IsCase (n : Nat) (H : Hp) (r : Run) (r_v0 : Value) (hr_0 : SL H 7 R_Section r_v0 r.Canopy.Frame.Sections) (r_v7 : Value) (hr_7 : SL H 2 R_Span r_v7 r.Canopy.Ribs) (r_v8 : Value) (hr_8 : SL H 1 RInt r_v8 r.Canopy.Shares) (r_v9 : Value) (hr_9 : SL H 3 R_Blow r_v9 r.Blows) (r_v10 : Value) (hr_10 : SL H 2 R_Meter r_v10 r.Meters) (forces : List Int) (forces_v0 : Value) (hforces_0 : SL H 1 RInt forces_v0 forces) (y : Bool) (hF : F_ref13_IsCase n r forces = some y) : SC Tryz.prog 50 [.agg [r_v0, .int .i64 r.Canopy.Frame.Low, .int .i64 r.Canopy.Frame.High, .int .i64 r.Canopy.Frame.Ease.Num, .int .i64 r.Canopy.Frame.Ease.Den, .int .i64 r.Canopy.Frame.Rod, .int .i64 r.Canopy.Frame.Case, r_v7, r_v8, r_v9, r_v10, .int .i64 r.Wrong].toArray, forces_v0] (.bool y) H := by
 rw [F_ref13_IsCase] at hF
 refine SC.of (N := 45) Tryz.func50 rfl rfl rfl fun w => ?_
 refine JC.seq (JC.region (by rfl) ?_)
 intro hQ
 refine JL.box (cs := [r_v0, .int .i64 r.Canopy.Frame.Low, .int .i64 r.Canopy.Frame.High, .int .i64 r.Canopy.Frame.Ease.Num, .int .i64 r.Canopy.Frame.Ease.Den, .int .i64 r.Canopy.Frame.Rod, .int .i64 r.Canopy.Frame.Case, r_v7, r_v8, r_v9, r_v10, .int .i64 r.Wrong]) rfl .none rfl ?_
 intro b1
 refine JL.assign .none rfl (JL.done hQ (JQ.go (JC.seq (JC.seq (JC.region (by rfl) ?_)))))
 intro hQ
 refine JL.assign .none rfl (JL.done hQ (JQ.go ?_))
 obtain ⟨r119, hlr119, hKr119⟩ := bind_some hF
 refine JC.join (fun (_ : Unit) H118 f bs gs => f 1 = forces_v0 ∧ f 2 = .pointer (some ⟨b1, 0, none⟩) ∧ bs = [(b1, .cells [r_v0, .int .i64 r.Canopy.Frame.Low, .int .i64 r.Canopy.Frame.High, .int .i64 r.Canopy.Frame.Ease.Num, .int .i64 r.Canopy.Frame.Ease.Den, .int .i64 r.Canopy.Frame.Rod, .int .i64 r.Canopy.Frame.Case, r_v7, r_v8, r_v9, r_v10, .int .i64 r.Wrong].toArray 34)] ∧ gs = [] ∧ HSub H H118 ∧ Sum.inr () = r119) ?_ ?_
 ·skip
  refine JC.block (JC.loop hlr119 (fun (i_196 : Int) H197 f bs gs => f 1 = forces_v0 ∧ f 2 = .pointer (some ⟨b1, 0, none⟩) ∧ f 5 = .int .i64 i_196 ∧ bs = [(b1, .cells [r_v0, .int .i64 r.Canopy.Frame.Low, .int .i64 r.Canopy.Frame.High, .int .i64 r.Canopy.Frame.Ease.Num, .int .i64 r.Canopy.Frame.Ease.Den, .int .i64 r.Canopy.Frame.Rod, .int .i64 r.Canopy.Frame.Case, r_v7, r_v8, r_v9, r_v10, .int .i64 r.Wrong].toArray 34)] ∧ gs = [] ∧ HSub H H197) ⟨rfl, rfl, rfl, rfl, rfl, (HSub.refl _)⟩ ?_)
  rintro i_196 x199 H197 f bs gs ⟨hf1, hf2, hf5, rfl, rfl, hs197⟩ hF hr198
  rw [F_ref13_IsCase_s1] at hF
  refine (JC.norm (i := 1) hf1 (JC.norm (i := 2) hf2 (JC.norm (i := 5) hf5 ?_)))
  refine JC.seq (JC.seq (JC.region (by rfl) ?_))
  intro hQ
  refine JL.move .none rfl (JL.move .none rfl (JL.lenSL (R := RInt) ul_28 (SL.mono RInt.mono hs197 hforces_0) .none rfl ?_))
  refine JL.bin rfl rfl rfl .none rfl (JL.move .none rfl (JL.cut 6 (fun f => f 1 = forces_v0 ∧ f 2 = .pointer (some ⟨b1, 0, none⟩) ∧ f 5 = .int .i64 i_196 ∧ f 16 = .bool ((decide (i_196 < (forces.length : Int))) && (decide (i_196 < (r.Blows.length : Int))))) ?_ ?_))
  ·intro hJ200
   rcases bcases (decide (i_196 < (forces.length : Int))) with hc201 | hc201
   ·skip
    refine JL.move (.some rfl rfl rfl hc201) rfl (JL.fieldAddr fo_34_1 rfl (.some rfl rfl rfl hc201) rfl (JL.loadOwn 0 az_31 rfl rfl rfl (.some rfl rfl rfl hc201) rfl (JL.lenSL (R := R_Blow) ul_31 (SL.mono R_Blow_mono hs197 hr_9) (.some rfl rfl rfl hc201) rfl ?_)))
    exact JL.bin rfl rfl rfl (.some rfl rfl rfl hc201) rfl (JL.pick_t (b := decide (i_196 < (forces.length : Int))) rfl hc201 .none rfl (hJ200 _ ⟨rfl, rfl, rfl, and_t hc201 rfl⟩))
   ·skip
    exact JL.skip (.bool rfl rfl rfl hc201) rfl (JL.skip (.bool rfl rfl rfl hc201) rfl (JL.skip (.bool rfl rfl rfl hc201) rfl (JL.skip (.bool rfl rfl rfl hc201) rfl (JL.skip (.bool rfl rfl rfl hc201) rfl (JL.pick_f (b := decide (i_196 < (forces.length : Int))) rfl hc201 .none rfl (hJ200 _ ⟨rfl, rfl, rfl, and_f hc201 rfl⟩))))))
  ·rintro f ⟨hf1, hf2, hf5, hf16⟩
   refine (JL.norm (i := 1) hf1 (JL.norm (i := 2) hf2 (JL.norm (i := 5) hf5 (JL.norm (i := 16) hf16 ?_))))
   refine JL.done hQ (JQ.go ?_)
   rcases ite_some hF with ⟨hc202, hF⟩ | ⟨hc202, hF⟩
   ·refine JC.cond_t (b := ((decide (i_196 < (forces.length : Int))) && (decide (i_196 < (r.Blows.length : Int))))) rfl hc202 ?_
    refine JC.skip (JQ.go (JC.seq (JC.block (JC.seq (JC.draw (by rfl) mo_ (by kernel_rfl) ?_)))))
    intro hQ
    refine JL.move .none rfl (JL.move .none rfl ?_)
    obtain ⟨y219, hy219, hF⟩ := bind_some hF
    refine JL.indexSL (R := RInt) sl_28 (SL.mono RInt.mono hs197 hforces_0) rfl hy219 .none rfl ?_
    rintro b220 o221 cs222 hc223 - rfl
    refine JL.loadH 0 az_3 rfl hc223 rfl .none rfl ?_
    refine JL.fieldAddr fo_34_1 rfl .none rfl (JL.loadOwn 0 az_31 rfl rfl rfl .none rfl (JL.move .none rfl ?_))
    obtain ⟨y224, hy224, hF⟩ := bind_some hF
    refine JL.indexSL (R := R_Blow) sl_31 (SL.mono R_Blow_mono hs197 hr_9) rfl hy224 .none rfl ?_
    rintro b225 o226 cs227 hc228 - rfl
    refine JL.fieldAddr fo_62_1 rfl .none rfl (JL.fieldAddr fo_42_0 rfl .none rfl (JL.loadH 1 az_3 rfl hc228 rfl .none rfl ?_))
    refine JL.fieldAddr fo_34_1 rfl .none rfl (JL.loadOwn 0 az_31 rfl rfl rfl .none rfl (JL.move .none rfl ?_))
    obtain ⟨y229, hy229, hF⟩ := bind_some hF
    refine JL.indexSL (R := R_Blow) sl_31 (SL.mono R_Blow_mono hs197 hr_9) rfl hy229 .none rfl ?_
    rintro b230 o231 cs232 hc233 - rfl
    refine JL.fieldAddr fo_62_1 rfl .none rfl (JL.fieldAddr fo_42_1 rfl .none rfl (JL.loadH 2 az_3 rfl hc233 rfl .none rfl ?_))
    obtain ⟨y234, hy234, hF⟩ := bind_some hF
    refine JL.callS (c_ref13_within n H197 y219 y224.Force.Low y229.Force.High y234 hy234) rfl en_66 .none rfl ?_
    refine JL.not rfl .none rfl (JL.doneQ hQ ?_)
    refine JQ.go (JC.fresh (fun f => f 1 = forces_v0 ∧ f 2 = .pointer (some ⟨b1, 0, none⟩) ∧ f 5 = .int .i64 i_196 ∧ f 38 = .bool (!y234)) ⟨rfl, rfl, rfl, rfl⟩ ?_)
    rintro f ⟨hf1, hf2, hf5, hf38⟩
    refine (JC.norm (i := 1) hf1 (JC.norm (i := 2) hf2 (JC.norm (i := 5) hf5 (JC.norm (i := 38) hf38 ?_))))
    rcases ite_some hF with ⟨hc235, hF⟩ | ⟨hc235, hF⟩
    ·refine JC.cond_t (b := (!y234)) rfl hc235 ?_
     refine JC.seq (JC.region (by rfl) ?_)
     intro hQ
     refine JL.assign .none rfl (JL.done hQ (JQ.go (JC.ret (JQ.ret_block (JQ.ret_then (JQ.ret_then (JQ.ret_block (JQ.ret_join (JQ.ret_then ?_)))))))))
     obtain rfl := Option.some.inj hF
     have ehr198 := hr198 _ rfl
     subst ehr198
     have hF := hKr119
     try dsimp only at hF
     obtain rfl := Option.some.inj hF
     exact JQ.outS rfl (.tmp .nil) rfl
    ·refine JC.cond_f (b := (!y234)) rfl hc235 ?_
     refine JC.skip (JQ.normal_block (JQ.go (JC.region (by rfl) ?_)))
     intro hQ
     refine JL.move .none rfl (JL.bin rfl rfl rfl .none rfl (JL.assign .none rfl (JL.done hQ ?_)))
     obtain rfl := Option.some.inj hF
     exact JQ.next rfl ⟨rfl, rfl, rfl, rfl, rfl, hs197⟩
   ·refine JC.cond_f (b := ((decide (i_196 < (forces.length : Int))) && (decide (i_196 < (r.Blows.length : Int))))) rfl hc202 ?_
    refine JC.exit (JQ.exit_then (JQ.exit_then (JQ.exit_block ?_)))
    obtain rfl := Option.some.inj hF
    have ehr198 := hr198 _ rfl
    subst ehr198
    exact JQ.join () ⟨rfl, rfl, rfl, rfl, hs197, rfl⟩
 ·rintro _ H118 f bs gs ⟨hf1, hf2, rfl, rfl, hs118, rfl⟩
  have hF := hKr119
  try dsimp only at hF
  refine (JQ.norm (i := 1) hf1 (JQ.norm (i := 2) hf2 ?_))
  refine JQ.go (JC.seq (JC.region (by rfl) ?_))
  intro hQ
  refine JL.move .none rfl (JL.lenSL (R := RInt) ul_28 (SL.mono RInt.mono hs118 hforces_0) .none rfl ?_)
  refine JL.fieldAddr fo_34_1 rfl .none rfl (JL.loadOwn 0 az_31 rfl rfl rfl .none rfl (JL.lenSL (R := R_Blow) ul_31 (SL.mono R_Blow_mono hs118 hr_9) .none rfl ?_))
  refine JL.bin rfl rfl rfl .none rfl (JL.assign .none rfl (JL.done hQ (JQ.go (JC.ret ?_))))
  obtain rfl := Option.some.inj hF
  exact JQ.outS rfl (.tmp .nil) rfl
-- 15 ferrule/ferruleref13.IsTruth
def F_ref13_IsTruth (n : Nat) (r : Run) (forces : List Int) : Option Bool :=
 (F_ref13_IsCase n r forces).bind fun y8 => (if y8 = true then ((F_ref13_Wrongs n r forces).bind fun y13 => some (decide (y13 ≤ r.Wrong))) else (some false) : Option Bool).bind fun p10 => some p10
theorem c_ref13_IsTruth (n : Nat) (H : Hp) (r : Run) (r_v0 : Value) (hr_0 : SL H 7 R_Section r_v0 r.Canopy.Frame.Sections) (r_v7 : Value) (hr_7 : SL H 2 R_Span r_v7 r.Canopy.Ribs) (r_v8 : Value) (hr_8 : SL H 1 RInt r_v8 r.Canopy.Shares) (r_v9 : Value) (hr_9 : SL H 3 R_Blow r_v9 r.Blows) (r_v10 : Value) (hr_10 : SL H 2 R_Meter r_v10 r.Meters) (forces : List Int) (forces_v0 : Value) (hforces_0 : SL H 1 RInt forces_v0 forces) (y : Bool) (hF : F_ref13_IsTruth n r forces = some y) : SC Tryz.prog 15 [.agg [r_v0, .int .i64 r.Canopy.Frame.Low, .int .i64 r.Canopy.Frame.High, .int .i64 r.Canopy.Frame.Ease.Num, .int .i64 r.Canopy.Frame.Ease.Den, .int .i64 r.Canopy.Frame.Rod, .int .i64 r.Canopy.Frame.Case, r_v7, r_v8, r_v9, r_v10, .int .i64 r.Wrong].toArray, forces_v0] (.bool y) H := by
 rw [F_ref13_IsTruth] at hF
 refine SC.of (N := 16) Tryz.func15 rfl rfl rfl fun w => ?_
 refine JC.seq (JC.region (by rfl) ?_)
 intro hQ
 refine JL.box (cs := [r_v0, .int .i64 r.Canopy.Frame.Low, .int .i64 r.Canopy.Frame.High, .int .i64 r.Canopy.Frame.Ease.Num, .int .i64 r.Canopy.Frame.Ease.Den, .int .i64 r.Canopy.Frame.Rod, .int .i64 r.Canopy.Frame.Case, r_v7, r_v8, r_v9, r_v10, .int .i64 r.Wrong]) rfl .none rfl ?_
 intro b1
 refine JL.assign .none rfl (JL.done hQ (JQ.go (JC.seq (JC.draw (by rfl) mo_ (by kernel_rfl) ?_))))
 intro hQ
 refine JL.loadOwn 0 az_34 rfl rfl rfl .none rfl (JL.move .none rfl ?_)
 obtain ⟨y8, hy8, hF⟩ := bind_some hF
 refine JL.callS (c_ref13_IsCase n H r r_v0 hr_0 r_v7 hr_7 r_v8 hr_8 r_v9 hr_9 r_v10 hr_10 forces forces_v0 hforces_0 y8 hy8) rfl en_50 .none rfl ?_
 refine JL.move .none rfl ?_
 obtain ⟨p10, hp10, hF⟩ := bind_some hF
 refine JL.cut 7 (fun f => f 15 = .bool p10) ?_ ?_
 ·intro hJ11
  rcases ite_some hp10 with ⟨hc12, hF⟩ | ⟨hc12, hF⟩
  ·skip
   refine JL.loadOwn 0 az_34 rfl rfl rfl (.some rfl rfl rfl hc12) rfl (JL.move (.some rfl rfl rfl hc12) rfl ?_)
   obtain ⟨y13, hy13, hF⟩ := bind_some hF
   refine JL.callS (c_ref13_Wrongs n H r r_v0 hr_0 r_v7 hr_7 r_v8 hr_8 r_v9 hr_9 r_v10 hr_10 forces forces_v0 hforces_0 y13 hy13) rfl en_51 (.some rfl rfl rfl hc12) rfl ?_
   refine JL.fieldAddr fo_34_3 rfl (.some rfl rfl rfl hc12) rfl (JL.loadOwn 0 az_3 rfl rfl rfl (.some rfl rfl rfl hc12) rfl (JL.bin rfl rfl rfl (.some rfl rfl rfl hc12) rfl (JL.pick_t (b := y8) rfl hc12 .none rfl ?_)))
   obtain rfl := Option.some.inj hF
   exact hJ11 _ (rfl)
  ·skip
   refine JL.skip (.bool rfl rfl rfl hc12) rfl (JL.skip (.bool rfl rfl rfl hc12) rfl (JL.skip (.bool rfl rfl rfl hc12) rfl (JL.skip (.bool rfl rfl rfl hc12) rfl (JL.skip (.bool rfl rfl rfl hc12) rfl (JL.skip (.bool rfl rfl rfl hc12) rfl (JL.pick_f (b := y8) rfl hc12 .none rfl ?_))))))
   obtain rfl := Option.some.inj hF
   exact hJ11 _ (rfl)
 ·rintro f hf15
  refine (JL.norm (i := 15) hf15 ?_)
  refine JL.assign .none rfl (JL.doneQ hQ ?_)
  refine JQ.go (JC.ret ?_)
  obtain rfl := Option.some.inj hF
  exact JQ.outS rfl (.tmp .nil) rfl
end Go.Proofs.YtcipdblhopffbaaGreat
end
section
namespace Go.Dec
/-- from some fuel on it yields y -/
def Ev {β : Type} (F : Nat → Option β) (y : β) : Prop := ∃ N, ∀ n, N ≤ n → F n = some y
theorem Ev.some {β : Type} (y : β) : Ev (fun _ => Option.some y) y := ⟨0, fun _ _ => rfl⟩
theorem Ev.of {β : Type} {F : Nat → Option β} {y : β} (h : ∀ n, F n = Option.some y) : Ev F y := ⟨0, fun n _ => h n⟩
theorem Ev.bind {α β : Type} {F : Nat → Option α} {K : Nat → α → Option β} {x : α} {y : β} (h : Ev F x) (k : Ev (fun n => K n x) y) : Ev (fun n => (F n).bind (K n)) y := by
  obtain ⟨N, hN⟩ := h
  obtain ⟨M, hM⟩ := k
  refine ⟨max N M, fun n hn => ?_⟩
  show (F n).bind (K n) = _
  rw [hN n (by omega)]
  exact hM n (by omega)
theorem Ev.get {β : Type} {F : Nat → Option β} {y : β} (h : Ev F y) : ∃ n, F n = Option.some y := let ⟨N, hN⟩ := h; ⟨N, hN N (Nat.le_refl _)⟩
/-- loops: the step's fuel and the loop's own -/
def EvL {S R : Type} (step : Nat → S → Option (S ⊕ R)) (s : S) (r : R) : Prop := ∃ N, ∀ n m, N ≤ n → N ≤ m → loopO m (step n) s = Option.some r
theorem EvL.done {S R : Type} {step : Nat → S → Option (S ⊕ R)} {s : S} {r : R} (h : Ev (fun n => step n s) (.inr r)) : EvL step s r := by
  obtain ⟨N, hN⟩ := h
  refine ⟨N + 1, fun n m hn hm => ?_⟩
  obtain ⟨m, rfl⟩ : ∃ k, m = k + 1 := ⟨m - 1, by omega⟩
  unfold loopO
  have := hN n (by omega)
  simp only at this
  rw [this]
theorem EvL.next {S R : Type} {step : Nat → S → Option (S ⊕ R)} {s s' : S} {r : R} (h : Ev (fun n => step n s) (.inl s')) (k : EvL step s' r) : EvL step s r := by
  obtain ⟨N, hN⟩ := h
  obtain ⟨M, hM⟩ := k
  refine ⟨max N M + 1, fun n m hn hm => ?_⟩
  obtain ⟨m, rfl⟩ : ∃ k, m = k + 1 := ⟨m - 1, by omega⟩
  unfold loopO
  have := hN n (by omega)
  simp only at this
  rw [this]
  exact hM n m (by omega) (by omega)
theorem EvL.ev {S R : Type} {step : Nat → S → Option (S ⊕ R)} {s : S} {r : R} (h : EvL step s r) : Ev (fun n => loopO n (step n) s) r :=
  let ⟨N, hN⟩ := h; ⟨N, fun n hn => hN n n hn hn⟩
/-- a loop over an index from i to k: s i is the state before round i; all rounds go on -/
theorem EvL.upto {S R : Type} {step : Nat → S → Option (S ⊕ R)} (s : Nat → S) {r : R} : ∀ (k i : Nat), i ≤ k → (∀ j, i ≤ j → j < k → Ev (fun n => step n (s j)) (.inl (s (j + 1)))) → Ev (fun n => step n (s k)) (.inr r) → EvL step (s i) r := by
  intro k i hik h hd
  obtain ⟨d, rfl⟩ : ∃ d, k = i + d := ⟨k - i, by omega⟩
  clear hik
  induction d generalizing i with
  | zero => exact .done hd
  | succ d ih =>
    refine .next (h i (Nat.le_refl _) (by omega)) (ih (i + 1) (fun j h1 h2 => h j (by omega) (by omega)) ?_)
    have : i + 1 + d = i + (d + 1) := by omega
    rw [this]; exact hd
/-- a loop that is left in round k -/
theorem EvL.left {S R : Type} {step : Nat → S → Option (S ⊕ R)} (s : Nat → S) {r : R} (k : Nat) (h : ∀ j, j < k → Ev (fun n => step n (s j)) (.inl (s (j + 1)))) (hd : Ev (fun n => step n (s k)) (.inr r)) : EvL step (s 0) r :=
  EvL.upto s k 0 (Nat.zero_le _) (fun j _ h2 => h j h2) hd
theorem geti_nat {α : Type} (l : List α) (i : Nat) : geti l (i : Int) = l[i]? := by
  unfold geti
  rw [if_pos (by omega)]
  simp
theorem w64_id {n : Int} (h1 : -9223372036854775808 ≤ n) (h2 : n ≤ 9223372036854775807) : w64 n = n := by
  have : w64 n = if n % 18446744073709551616 ≥ 9223372036854775808 then n % 18446744073709551616 - 18446744073709551616 else n % 18446744073709551616 := by
    simp [w64, Go.IntKind.wrap, Go.IntKind.signed, Go.IntKind.bits]
  rw [this]
  split <;> omega
def MonoF {β : Type} (F : Nat → Option β) : Prop := ∀ n m y, n ≤ m → F n = some y → F m = some y
theorem MonoF.const {β : Type} (o : Option β) : MonoF (fun _ => o) := fun _ _ _ _ h => h
theorem MonoF.bind {α β : Type} {F : Nat → Option α} {K : Nat → α → Option β} (h : MonoF F) (k : ∀ x, MonoF (fun n => K n x)) : MonoF (fun n => (F n).bind (K n)) := fun n m y hn hy => by
  obtain ⟨x, h1, h2⟩ := bind_some hy
  show (F m).bind (K m) = _
  rw [h n m x hn h1]
  exact k x n m y hn h2
theorem MonoF.loop {S R : Type} {step : Nat → S → Option (S ⊕ R)} (h : ∀ s, MonoF (fun n => step n s)) (s : S) : MonoF (fun n => loopO n (step n) s) := by
  have key : ∀ (k n m j : Nat) (s : S) (r : R), n ≤ m → k ≤ j → loopO k (step n) s = some r → loopO j (step m) s = some r := by
    intro k
    induction k with
    | zero => intro n m j s r _ _ h; simp [loopO] at h
    | succ k ih =>
      intro n m j s r hn hj hl
      obtain ⟨j, rfl⟩ : ∃ i, j = i + 1 := ⟨j - 1, by omega⟩
      unfold loopO at hl ⊢
      cases hs : step n s with
      | none => rw [hs] at hl; cases hl
      | some x =>
        rw [hs] at hl
        have := h s n m x hn hs
        simp only at this
        rw [this]
        cases x with
        | inl s' => exact ih n m j s' r hn (by omega) hl
        | inr r' => exact hl
  exact fun n m y hn hy => key n n m m s y hn hn hy
theorem MonoF.ev {β : Type} {F : Nat → Option β} (h : MonoF F) {n : Nat} {y : β} (hy : F n = some y) : Ev F y := ⟨n, fun m hm => h n m y hm hy⟩
end Go.Dec
end
