/-
  Printed by a program: functions of the translation as plain functions, and their contracts.
-/
import Derived.Test.YtcpnnfdhafbemaaGenK11
namespace Go.Proofs.Ytcpnnfdhafbemaa
open Go Go.RowKit Go.Dec
set_option linter.unusedVariables false
-- 61 ferrule/ferruleref05.went
def F_ref05_went_s1 (n : Nat) (rounds : List Int) (last : Int) : Int × List Int → Option ((Int × List Int) ⊕ (List Int))
  | (i_163, out_164) => if decide (i_163 < (rounds.length : Int)) = true then ((geti rounds i_163).bind fun y169 => (F_ref05_within n y169 1 last).bind fun y174 => (if y174 = true then ((lim (out_164 ++ [i_163])).bind fun l186 => some l186) else (some out_164)).bind fun out_181 => some (Sum.inl ((w64 (i_163 + 1)), out_181))) else (some (Sum.inr out_164))
def F_ref05_went (n : Nat) (rounds : List Int) (last : Int) : Option (List Int) :=
  (loopO n (F_ref05_went_s1 n rounds last) (0, ([] : List Int))).bind fun out_110 => some out_110
set_option maxRecDepth 100000 in
set_option maxHeartbeats 40000000 in
theorem c_ref05_went (n : Nat) (H : Hp) (rounds : List Int) (rounds_v0 : Value) (hrounds_0 : SL H 1 RInt rounds_v0 rounds) (last : Int) (y : (List Int)) (hF : F_ref05_went n rounds last = some y) : HC Try.prog 61 [rounds_v0, .int .i64 last] H (fun H' ra_v0 => SL H' 1 RInt ra_v0 y) := by
  rw [F_ref05_went] at hF
  refine HC.of (N := 24) Try.func61 rfl rfl rfl fun w => ?_
  refine JC.seq ?_
  refine JC.region (by rfl) ?_
  intro hQ
  refine JL.assign .none rfl ?_
  refine JL.done hQ ?_
  refine JQ.go ?_
  refine JC.seq ?_
  refine JC.region (by rfl) ?_
  intro hQ
  refine JL.assign .none rfl ?_
  refine JL.done hQ ?_
  refine JQ.go ?_
  refine JC.seq ?_
  refine JC.seq ?_
  refine JC.region (by rfl) ?_
  intro hQ
  refine JL.assign .none rfl ?_
  refine JL.done hQ ?_
  refine JQ.go ?_
  refine JC.newNil (e := 3) (sz := 1) ?_
  obtain ⟨r112, hlr112, hKr112⟩ := bind_some hF
  refine JC.join (fun (out_110 : List Int) H111 f bs gs => ∃ (vout_110 : Value) (xsout_110 : List Value), f 5 = vout_110 ∧ bs = [] ∧ gs = [⟨vout_110, 3, 1, out_110.length, xsout_110⟩] ∧ CH H111 1 RInt xsout_110 out_110 ∧ HSub H H111 ∧ out_110 = r112) ?_ ?_
  · skip
    refine JC.block ?_
    refine JC.loop hlr112 (fun (x : Int × List Int) H165 f bs gs => match x with | (i_163, out_164) => ∃ (vout_164 : Value) (xsout_164 : List Value), f 0 = rounds_v0 ∧ f 1 = .int .i64 last ∧ f 5 = vout_164 ∧ f 6 = .int .i64 i_163 ∧ bs = [] ∧ gs = [⟨vout_164, 3, 1, out_164.length, xsout_164⟩] ∧ CH H165 1 RInt xsout_164 out_164 ∧ HSub H H165) ⟨(.slice none 0 0), [], rfl, rfl, rfl, rfl, rfl, rfl, CH.nil, (HSub.refl _)⟩ ?_
    rintro ⟨i_163, out_164⟩ x167 H165 f bs gs ⟨vout_164, xsout_164, hf0, hf1, hf5, hf6, rfl, rfl, hout_164, hs165⟩ hF hr166
    rw [F_ref05_went_s1] at hF
    refine (JC.norm (i := 0) hf0 (JC.norm (i := 1) hf1 (JC.norm (i := 5) hf5 (JC.norm (i := 6) hf6 ?_))))
    refine JC.seq ?_
    refine JC.seq ?_
    refine JC.region (by rfl) ?_
    intro hQ
    refine JL.move .none rfl ?_
    refine JL.move .none rfl ?_
    refine JL.lenSL (R := RInt) ul_28 (SL.mono RInt.mono hs165 hrounds_0) .none rfl ?_
    refine JL.bin rfl rfl rfl .none rfl ?_
    refine JL.done hQ ?_
    refine JQ.go ?_
    rcases ite_some hF with ⟨hc168, hF⟩ | ⟨hc168, hF⟩
    · refine JC.cond_t (b := decide (i_163 < (rounds.length : Int))) rfl hc168 ?_
      refine JC.skip ?_
      refine JQ.go ?_
      refine JC.seq ?_
      refine JC.block ?_
      refine JC.seq ?_
      refine JC.region (by rfl) ?_
      intro hQ
      refine JL.move .none rfl ?_
      refine JL.move .none rfl ?_
      obtain ⟨y169, hy169, hF⟩ := bind_some hF
      refine JL.indexSL (R := RInt) sl_28 (SL.mono RInt.mono hs165 hrounds_0) rfl hy169 .none rfl ?_
      rintro b170 o171 cs172 hc173 - rfl
      refine JL.loadH 0 az_3 rfl hc173 rfl .none rfl ?_
      refine JL.move .none rfl ?_
      obtain ⟨y174, hy174, hF⟩ := bind_some hF
      refine JL.callS (c_ref05_within n H165 y169 1 last y174 hy174) rfl en_55 .none rfl ?_
      refine JL.done hQ ?_
      refine JQ.go ?_
      refine JC.fresh (fun f => f 0 = rounds_v0 ∧ f 1 = .int .i64 last ∧ f 5 = vout_164 ∧ f 6 = .int .i64 i_163 ∧ f 18 = .bool y174) ⟨rfl, rfl, rfl, rfl, rfl⟩ ?_
      rintro f ⟨hf0, hf1, hf5, hf6, hf18⟩
      refine (JC.norm (i := 0) hf0 (JC.norm (i := 1) hf1 (JC.norm (i := 5) hf5 (JC.norm (i := 6) hf6 (JC.norm (i := 18) hf18 ?_)))))
      obtain ⟨r183, hlr183, hKr183⟩ := bind_some hF
      refine JC.join (fun (out_181 : List Int) H182 f bs gs => ∃ (vout_181 : Value) (xsout_181 : List Value), f 0 = rounds_v0 ∧ f 1 = .int .i64 last ∧ f 5 = vout_181 ∧ f 6 = .int .i64 i_163 ∧ bs = [] ∧ gs = [⟨vout_181, 3, 1, out_181.length, xsout_181⟩] ∧ CH H182 1 RInt xsout_181 out_181 ∧ HSub H165 H182 ∧ out_181 = r183) ?_ ?_
      · have hF := hlr183
        rcases ite_some hF with ⟨hc184, hF⟩ | ⟨hc184, hF⟩
        · refine JC.cond_t (b := y174) rfl hc184 ?_
          refine JC.region (by rfl) ?_
          intro hQ
          refine JL.move .none rfl ?_
          refine JL.move .none rfl ?_
          refine JL.buildSlice (e := 3) (l := [.int .i64 i_163]) (by kernel_rfl) .none rfl ?_
          intro b185
          obtain ⟨l186, hl186, hF⟩ := bind_some hF
          refine JL.appO (R := RInt) 0 0 (l := out_164) (m := [i_163]) ap_28 rfl ⟨rfl, rfl⟩ rfl hout_164 rfl rfl rfl (CH.cons (cs := [.int .i64 i_163]) rfl rfl CH.nil) rfl (one_cons rfl one_nil) hl186 .none rfl ?_
          intro v187 xs188 hch189
          refine JL.assign .none rfl ?_
          refine JL.done hQ ?_
          obtain rfl := Option.some.inj hF
          refine JQ.mask [false] [true] ?_
          exact JQ.join l186 ⟨v187, xs188, rfl, rfl, rfl, rfl, rfl, rfl, hch189, (HSub.refl _), rfl⟩
        · refine JC.cond_f (b := y174) rfl hc184 ?_
          refine JC.skip ?_
          obtain rfl := Option.some.inj hF
          exact JQ.join out_164 ⟨vout_164, xsout_164, rfl, rfl, rfl, rfl, rfl, rfl, hout_164, (HSub.refl _), rfl⟩
      · rintro out_181 H182 f bs gs ⟨vout_181, xsout_181, hf0, hf1, hf5, hf6, rfl, rfl, hout_181, hs182, rfl⟩
        have hF := hKr183
        try dsimp only at hF
        refine (JQ.norm (i := 0) hf0 (JQ.norm (i := 1) hf1 (JQ.norm (i := 5) hf5 (JQ.norm (i := 6) hf6 ?_))))
        refine JQ.normal_block ?_
        refine JQ.go ?_
        refine JC.region (by rfl) ?_
        intro hQ
        refine JL.move .none rfl ?_
        refine JL.bin rfl rfl rfl .none rfl ?_
        refine JL.assign .none rfl ?_
        refine JL.done hQ ?_
        obtain rfl := Option.some.inj hF
        exact JQ.next rfl ⟨vout_181, xsout_181, rfl, rfl, rfl, rfl, rfl, rfl, hout_181, (HSub.trans hs165 hs182)⟩
    · refine JC.cond_f (b := decide (i_163 < (rounds.length : Int))) rfl hc168 ?_
      refine JC.exit ?_
      refine JQ.exit_then ?_
      refine JQ.exit_then ?_
      refine JQ.exit_block ?_
      obtain rfl := Option.some.inj hF
      have ehr166 := hr166 _ rfl
      subst ehr166
      exact JQ.join out_164 ⟨vout_164, xsout_164, rfl, rfl, rfl, hout_164, hs165, rfl⟩
  · rintro out_110 H111 f bs gs ⟨vout_110, xsout_110, hf5, rfl, rfl, hout_110, hs111, rfl⟩
    have hF := hKr112
    try dsimp only at hF
    refine (JQ.norm (i := 5) hf5 ?_)
    refine JQ.go ?_
    refine JC.seq ?_
    refine JC.region (by rfl) ?_
    intro hQ
    refine JL.move .none rfl ?_
    refine JL.assign .none rfl ?_
    refine JL.done hQ ?_
    refine JQ.go ?_
    refine JC.ret ?_
    refine JQ.freezeG 0 (R := RInt) rfl RInt.mono hout_110 rfl ?_
    intro H190 hs190 hg191
    obtain rfl := Option.some.inj hF
    exact JQ.outH rfl (.tmp .nil) hg191

-- 23 ferrule/ferruleref05.Goes
def F_ref05_Goes (n : Nat) (d : Canopy) (g : Gust) : Option ((List Int) × (List Int) × Int) :=
  (F_ref05_check n d [g]).bind fun y7 => if (y7 != 0) = true then (some (([] : List Int), ([] : List Int), y7)) else ((F_ref05_ends n d).bind fun y9 => (F_ref05_Rounds n d g y9.1).bind fun y15 => (F_ref05_went n y15 (d.Ribs.length : Int)).bind fun y17 => (F_ref05_Rounds n d g y9.2).bind fun y19 => (F_ref05_went n y19 (d.Ribs.length : Int)).bind fun y21 => some (y17, y21, 0))
set_option maxRecDepth 100000 in
set_option maxHeartbeats 40000000 in
theorem c_ref05_Goes (n : Nat) (H : Hp) (d : Canopy) (d_v0 : Value) (hd_0 : SL H 7 R_Section d_v0 d.Frame.Sections) (d_v7 : Value) (hd_7 : SL H 2 R_Span d_v7 d.Ribs) (d_v8 : Value) (hd_8 : SL H 1 RInt d_v8 d.Shares) (g : Gust) (y : (List Int) × (List Int) × Int) (hF : F_ref05_Goes n d g = some y) : HC Try.prog 23 [.agg [d_v0, .int .i64 d.Frame.Low, .int .i64 d.Frame.High, .int .i64 d.Frame.Ease.Num, .int .i64 d.Frame.Ease.Den, .int .i64 d.Frame.Rod, .int .i64 d.Frame.Case, d_v7, d_v8].toArray, .agg [.int .i64 g.Force, .int .i64 g.At].toArray] H (fun H' v => ∃ ra_v0 rb_v0 : Value, v = .tuple [ra_v0, rb_v0, .int .i64 y.2.2].toArray ∧ SL H' 1 RInt ra_v0 y.1 ∧ SL H' 1 RInt rb_v0 y.2.1) := by
  rw [F_ref05_Goes] at hF
  refine HC.of (N := 38) Try.func23 rfl rfl rfl fun w => ?_
  refine JC.seq ?_
  refine JC.region (by rfl) ?_
  intro hQ
  refine JL.box (cs := [d_v0, .int .i64 d.Frame.Low, .int .i64 d.Frame.High, .int .i64 d.Frame.Ease.Num, .int .i64 d.Frame.Ease.Den, .int .i64 d.Frame.Rod, .int .i64 d.Frame.Case, d_v7, d_v8]) rfl .none rfl ?_
  intro b1
  refine JL.box (cs := [.int .i64 g.Force, .int .i64 g.At]) rfl .none rfl ?_
  intro b2
  refine JL.assign .none rfl ?_
  refine JL.assign .none rfl ?_
  refine JL.assign .none rfl ?_
  refine JL.done hQ ?_
  refine JQ.go ?_
  refine JC.seq ?_
  refine JC.seq ?_
  refine JC.region (by rfl) ?_
  intro hQ
  refine JL.loadOwn 1 az_30 rfl rfl rfl .none rfl ?_
  refine JL.loadOwn 0 az_32 rfl rfl rfl .none rfl ?_
  refine JL.buildSlice (e := 32) (l := [.int .i64 g.Force, .int .i64 g.At]) (by kernel_rfl) .none rfl ?_
  intro b3
  refine JL.freezeC 0 (l := [.int .i64 g.Force, .int .i64 g.At]) rfl ?_
  intro H4 hs4 hc5
  have hg6 : SL H4 2 R_Gust (.slice (some ⟨b3, 0, none⟩) 1 1) [g] := CH.sl (l := [g]) (CH.cons (cs := [.int .i64 g.Force, .int .i64 g.At]) rfl rfl CH.nil) hc5 ⟨by simp, by simp⟩
  obtain ⟨y7, hy7, hF⟩ := bind_some hF
  refine JL.callS (c_ref05_check n H4 d d_v0 (SL.mono R_Section_mono hs4 hd_0) d_v7 (SL.mono R_Span_mono hs4 hd_7) d_v8 (SL.mono RInt.mono hs4 hd_8) [g] (.slice (some ⟨b3, 0, none⟩) 1 1) hg6 y7 hy7) rfl en_59 .none rfl ?_
  refine JL.assign .none rfl ?_
  refine JL.done hQ ?_
  refine JQ.go ?_
  refine JC.seq ?_
  refine JC.region (by rfl) ?_
  intro hQ
  refine JL.move .none rfl ?_
  refine JL.bin rfl rfl rfl .none rfl ?_
  refine JL.done hQ ?_
  refine JQ.go ?_
  rcases ite_some hF with ⟨hc8, hF⟩ | ⟨hc8, hF⟩
  · refine JC.cond_t (b := (y7 != 0)) rfl hc8 ?_
    refine JC.seq ?_
    refine JC.region (by rfl) ?_
    intro hQ
    refine JL.move .none rfl ?_
    refine JL.assign .none rfl ?_
    refine JL.assign .none rfl ?_
    refine JL.assign .none rfl ?_
    refine JL.done hQ ?_
    refine JQ.go ?_
    refine JC.fresh (fun f => f 4 = .slice none 0 0 ∧ f 5 = .slice none 0 0 ∧ f 6 = .int .i64 y7) ⟨rfl, rfl, rfl⟩ ?_
    rintro f ⟨hf4, hf5, hf6⟩
    refine (JC.norm (i := 4) hf4 (JC.norm (i := 5) hf5 (JC.norm (i := 6) hf6 ?_)))
    refine JC.ret ?_
    refine JQ.ret_then ?_
    obtain rfl := Option.some.inj hF
    exact JQ.outH rfl (.tmp (.tmp (.tmp .nil))) ⟨(.slice none 0 0), (.slice none 0 0), rfl, SL.nil, SL.nil⟩
  · refine JC.cond_f (b := (y7 != 0)) rfl hc8 ?_
    refine JC.skip ?_
    refine JQ.go ?_
    refine JC.fresh (fun f => f 2 = .pointer (some ⟨b1, 0, none⟩) ∧ f 3 = .pointer (some ⟨b2, 0, none⟩) ∧ f 4 = .slice none 0 0 ∧ f 5 = .slice none 0 0 ∧ f 6 = .int .i64 0) ⟨rfl, rfl, rfl, rfl, rfl⟩ ?_
    rintro f ⟨hf2, hf3, hf4, hf5, hf6⟩
    refine (JC.norm (i := 2) hf2 (JC.norm (i := 3) hf3 (JC.norm (i := 4) hf4 (JC.norm (i := 5) hf5 (JC.norm (i := 6) hf6 ?_)))))
    refine JC.seq ?_
    refine JC.region (by rfl) ?_
    intro hQ
    refine JL.loadOwn 1 az_30 rfl rfl rfl .none rfl ?_
    obtain ⟨y9, hy9, hF⟩ := bind_some hF
    refine JL.callH (c_ref05_ends n H4 d d_v0 (SL.mono R_Section_mono hs4 hd_0) d_v7 (SL.mono R_Span_mono hs4 hd_7) d_v8 (SL.mono RInt.mono hs4 hd_8) y9 hy9) rfl en_60 .none rfl ?_
    rintro H10 vv11 hs10 ⟨y9a_v1, y9b_v1, rfl, hy9a_1, hy9b_1⟩
    refine JL.move .none rfl ?_
    refine JL.extract rfl rfl .none rfl ?_
    refine JL.extract rfl rfl .none rfl ?_
    refine JL.alloc ze_78 .none rfl ?_
    intro b12
    refine JL.alloc ze_78 .none rfl ?_
    intro b13
    refine JL.storeOwn 1 (cs := [.int .i64 y9.1.Lift, y9a_v1]) az_78 rfl rfl rfl (one_cons rfl (one_cons (SL.one hy9a_1) one_nil)) rfl rfl .none ?_
    refine JL.storeOwn 0 (cs := [.int .i64 y9.2.Lift, y9b_v1]) az_78 rfl rfl rfl (one_cons rfl (one_cons (SL.one hy9b_1) one_nil)) rfl rfl .none ?_
    refine JL.done hQ ?_
    refine JQ.go ?_
    refine JC.seq ?_
    obtain ⟨y15, hy15, hF⟩ := bind_some hF
    obtain ⟨y17, hy17, hF⟩ := bind_some hF
    obtain ⟨y19, hy19, hF⟩ := bind_some hF
    obtain ⟨y21, hy21, hF⟩ := bind_some hF
    refine JC.mixed 19 19 #[false, false, false, false, false, false, false, false, false, false, false, false, false, false, false, false, false, false, false] [(b13, .cells [.int .i64 y9.2.Lift, y9b_v1].toArray 78), (b12, .cells [.int .i64 y9.1.Lift, y9a_v1].toArray 78), (b2, .cells [.int .i64 g.Force, .int .i64 g.At].toArray 32), (b1, .cells [d_v0, .int .i64 d.Frame.Low, .int .i64 d.Frame.High, .int .i64 d.Frame.Ease.Num, .int .i64 d.Frame.Ease.Den, .int .i64 d.Frame.Rod, .int .i64 d.Frame.Case, d_v7, d_v8].toArray 30)] (by rfl) mo_ (by kernel_rfl) (by kernel_rfl) ?_
    intro hQ hE
    refine JA.take 0 (listed' := #[true, false, false, false, false, false, false, false, false, false, false, false, false, false, false, false, false, false, false]) hQ rfl (by kernel_rfl) (by kernel_rfl) (by kernel_rfl) (by kernel_rfl) (by kernel_rfl) hE (HSub.refl _) (.cons_cons _ (.cons_cons _ (.cons_cons _ (.cons_cons _ (List.nil_sublist _))))) ?_
    refine JL.loadOwn 3 az_30 rfl rfl rfl .none rfl ?_
    refine JA.cont ?_
    refine JA.take 1 (listed' := #[true, true, false, false, false, false, false, false, false, false, false, false, false, false, false, false, false, false, false]) hQ rfl (by kernel_rfl) (by kernel_rfl) (by kernel_rfl) (by kernel_rfl) (by kernel_rfl) hE (HSub.refl _) (.cons_cons _ (.cons_cons _ (.cons_cons _ (.cons_cons _ (List.nil_sublist _))))) ?_
    refine JL.loadOwn 2 az_32 rfl rfl rfl .none rfl ?_
    refine JA.cont ?_
    refine JA.take 2 (listed' := #[true, true, true, false, false, false, false, false, false, false, false, false, false, false, false, false, false, false, false]) hQ rfl (by kernel_rfl) (by kernel_rfl) (by kernel_rfl) (by kernel_rfl) (by kernel_rfl) hE (HSub.refl _) (.cons_cons _ (.cons_cons _ (.cons_cons _ (.cons_cons _ (List.nil_sublist _))))) ?_
    refine JL.loadOwn 1 az_78 rfl rfl rfl .none rfl ?_
    refine JA.cont ?_
    refine JA.take 4 (listed' := #[true, true, true, false, true, false, false, false, false, false, false, false, false, false, false, false, false, false, false]) hQ rfl (by kernel_rfl) (by kernel_rfl) (by kernel_rfl) (by kernel_rfl) (by kernel_rfl) hE (HSub.refl _) (.cons_cons _ (.cons_cons _ (.cons_cons _ (.cons_cons _ (List.nil_sublist _))))) ?_
    refine JL.fieldAddr fo_30_1 rfl .none rfl ?_
    refine JA.cont ?_
    refine JA.take 5 (listed' := #[true, true, true, false, true, true, false, false, false, false, false, false, false, false, false, false, false, false, false]) hQ rfl (by kernel_rfl) (by kernel_rfl) (by kernel_rfl) (by kernel_rfl) (by kernel_rfl) hE (HSub.refl _) (.cons_cons _ (.cons_cons _ (.cons_cons _ (.cons_cons _ (List.nil_sublist _))))) ?_
    refine JL.loadOwn 3 az_27 rfl rfl rfl .none rfl ?_
    refine JA.cont ?_
    refine JA.take 6 (listed' := #[true, true, true, false, true, true, true, false, false, false, false, false, false, false, false, false, false, false, false]) hQ rfl (by kernel_rfl) (by kernel_rfl) (by kernel_rfl) (by kernel_rfl) (by kernel_rfl) hE (HSub.refl _) (.cons_cons _ (.cons_cons _ (.cons_cons _ (.cons_cons _ (List.nil_sublist _))))) ?_
    refine JL.lenSL (R := R_Span) ul_27 (SL.mono R_Span_mono (HSub.trans hs4 hs10) hd_7) .none rfl ?_
    refine JA.cont ?_
    refine JA.take 8 (listed' := #[true, true, true, false, true, true, true, false, true, false, false, false, false, false, false, false, false, false, false]) hQ rfl (by kernel_rfl) (by kernel_rfl) (by kernel_rfl) (by kernel_rfl) (by kernel_rfl) hE (HSub.refl _) (.cons_cons _ (.cons_cons _ (.cons_cons _ (.cons_cons _ (List.nil_sublist _))))) ?_
    refine JL.loadOwn 3 az_30 rfl rfl rfl .none rfl ?_
    refine JA.cont ?_
    refine JA.take 9 (listed' := #[true, true, true, false, true, true, true, false, true, true, false, false, false, false, false, false, false, false, false]) hQ rfl (by kernel_rfl) (by kernel_rfl) (by kernel_rfl) (by kernel_rfl) (by kernel_rfl) hE (HSub.refl _) (.cons_cons _ (.cons_cons _ (.cons_cons _ (.cons_cons _ (List.nil_sublist _))))) ?_
    refine JL.loadOwn 2 az_32 rfl rfl rfl .none rfl ?_
    refine JA.cont ?_
    refine JA.take 10 (listed' := #[true, true, true, false, true, true, true, false, true, true, true, false, false, false, false, false, false, false, false]) hQ rfl (by kernel_rfl) (by kernel_rfl) (by kernel_rfl) (by kernel_rfl) (by kernel_rfl) hE (HSub.refl _) (.cons_cons _ (.cons_cons _ (.cons_cons _ (.cons_cons _ (List.nil_sublist _))))) ?_
    refine JL.loadOwn 0 az_78 rfl rfl rfl .none rfl ?_
    refine JA.cont ?_
    refine JA.take 12 (listed' := #[true, true, true, false, true, true, true, false, true, true, true, false, true, false, false, false, false, false, false]) hQ rfl (by kernel_rfl) (by kernel_rfl) (by kernel_rfl) (by kernel_rfl) (by kernel_rfl) hE (HSub.refl _) (.cons_cons _ (.cons_cons _ (.cons_cons _ (.cons_cons _ (List.nil_sublist _))))) ?_
    refine JL.fieldAddr fo_30_1 rfl .none rfl ?_
    refine JA.cont ?_
    refine JA.take 13 (listed' := #[true, true, true, false, true, true, true, false, true, true, true, false, true, true, false, false, false, false, false]) hQ rfl (by kernel_rfl) (by kernel_rfl) (by kernel_rfl) (by kernel_rfl) (by kernel_rfl) hE (HSub.refl _) (.cons_cons _ (.cons_cons _ (.cons_cons _ (.cons_cons _ (List.nil_sublist _))))) ?_
    refine JL.loadOwn 3 az_27 rfl rfl rfl .none rfl ?_
    refine JA.cont ?_
    refine JA.take 14 (listed' := #[true, true, true, false, true, true, true, false, true, true, true, false, true, true, true, false, false, false, false]) hQ rfl (by kernel_rfl) (by kernel_rfl) (by kernel_rfl) (by kernel_rfl) (by kernel_rfl) hE (HSub.refl _) (.cons_cons _ (.cons_cons _ (.cons_cons _ (.cons_cons _ (List.nil_sublist _))))) ?_
    refine JL.lenSL (R := R_Span) ul_27 (SL.mono R_Span_mono (HSub.trans hs4 hs10) hd_7) .none rfl ?_
    refine JA.cont ?_
    refine JA.many [3] (by kernel_rfl) (by simp) (all_one ⟨_, #[true, true, true, true, true, true, true, false, true, true, true, false, true, true, true, false, false, false, false], rfl, (by kernel_rfl), ?_⟩)
    refine JL.callH (c_ref05_Rounds n H10 d d_v0 (SL.mono R_Section_mono (HSub.trans hs4 hs10) hd_0) d_v7 (SL.mono R_Span_mono (HSub.trans hs4 hs10) hd_7) d_v8 (SL.mono RInt.mono (HSub.trans hs4 hs10) hd_8) g y9.1 y9a_v1 hy9a_1 y15 hy15) rfl en_38 .none rfl ?_
    intro H27 y15a_v0 hs27 hy15a_0
    refine JA.after hE hs27 (.cons_cons _ (.cons_cons _ (.cons_cons _ (.cons_cons _ (List.nil_sublist _))))) ?_
    refine JA.many [7] (by kernel_rfl) (by simp) (all_one ⟨_, #[true, true, true, true, true, true, true, true, true, true, true, false, true, true, true, false, false, false, false], rfl, (by kernel_rfl), ?_⟩)
    refine JL.callH (c_ref05_went n H27 y15 y15a_v0 hy15a_0 (d.Ribs.length : Int) y17 hy17) rfl en_61 .none rfl ?_
    intro H28 y17a_v0 hs28 hy17a_0
    refine JA.after hE (HSub.trans hs27 hs28) (.cons_cons _ (.cons_cons _ (.cons_cons _ (.cons_cons _ (List.nil_sublist _))))) ?_
    refine JA.many [11] (by kernel_rfl) (by simp) (all_one ⟨_, #[true, true, true, true, true, true, true, true, true, true, true, true, true, true, true, false, false, false, false], rfl, (by kernel_rfl), ?_⟩)
    refine JL.callH (c_ref05_Rounds n H28 d d_v0 (SL.mono R_Section_mono (HSub.trans hs4 (HSub.trans hs10 (HSub.trans hs27 hs28))) hd_0) d_v7 (SL.mono R_Span_mono (HSub.trans hs4 (HSub.trans hs10 (HSub.trans hs27 hs28))) hd_7) d_v8 (SL.mono RInt.mono (HSub.trans hs4 (HSub.trans hs10 (HSub.trans hs27 hs28))) hd_8) g y9.2 y9b_v1 (SL.mono RInt.mono (HSub.trans hs27 hs28) hy9b_1) y19 hy19) rfl en_38 .none rfl ?_
    intro H29 y19a_v0 hs29 hy19a_0
    refine JA.after hE (HSub.trans hs27 (HSub.trans hs28 hs29)) (.cons_cons _ (.cons_cons _ (.cons_cons _ (.cons_cons _ (List.nil_sublist _))))) ?_
    refine JA.many [15] (by kernel_rfl) (by simp) (all_one ⟨_, #[true, true, true, true, true, true, true, true, true, true, true, true, true, true, true, true, false, false, false], rfl, (by kernel_rfl), ?_⟩)
    refine JL.callH (c_ref05_went n H29 y19 y19a_v0 hy19a_0 (d.Ribs.length : Int) y21 hy21) rfl en_61 .none rfl ?_
    intro H30 y21a_v0 hs30 hy21a_0
    refine JA.after hE (HSub.trans hs27 (HSub.trans hs28 (HSub.trans hs29 hs30))) (.cons_cons _ (.cons_cons _ (.cons_cons _ (.cons_cons _ (List.nil_sublist _))))) ?_
    refine JA.take 16 (listed' := #[true, true, true, true, true, true, true, true, true, true, true, true, true, true, true, true, true, false, false]) hQ rfl (by kernel_rfl) (by kernel_rfl) (by kernel_rfl) (by kernel_rfl) (by kernel_rfl) hE (HSub.trans hs27 (HSub.trans hs28 (HSub.trans hs29 hs30))) (.cons_cons _ (.cons_cons _ (.cons_cons _ (.cons_cons _ (List.nil_sublist _))))) ?_
    refine JL.assign .none rfl ?_
    refine JA.cont ?_
    refine JA.take 17 (listed' := #[true, true, true, true, true, true, true, true, true, true, true, true, true, true, true, true, true, true, false]) hQ rfl (by kernel_rfl) (by kernel_rfl) (by kernel_rfl) (by kernel_rfl) (by kernel_rfl) hE (HSub.trans hs27 (HSub.trans hs28 (HSub.trans hs29 hs30))) (.cons_cons _ (.cons_cons _ (.cons_cons _ (.cons_cons _ (List.nil_sublist _))))) ?_
    refine JL.assign .none rfl ?_
    refine JA.cont ?_
    refine JA.take 18 (listed' := #[true, true, true, true, true, true, true, true, true, true, true, true, true, true, true, true, true, true, true]) hQ rfl (by kernel_rfl) (by kernel_rfl) (by kernel_rfl) (by kernel_rfl) (by kernel_rfl) hE (HSub.trans hs27 (HSub.trans hs28 (HSub.trans hs29 hs30))) (.cons_cons _ (.cons_cons _ (.cons_cons _ (.cons_cons _ (List.nil_sublist _))))) ?_
    refine JL.assign .none rfl ?_
    refine JA.cont ?_
    refine JA.done hQ (by kernel_rfl) ?_
    refine JQ.go ?_
    refine JC.fresh (fun f => f 4 = y17a_v0 ∧ f 5 = y21a_v0 ∧ f 6 = .int .i64 0) ⟨rfl, rfl, rfl⟩ ?_
    rintro f ⟨hf4, hf5, hf6⟩
    refine (JC.norm (i := 4) hf4 (JC.norm (i := 5) hf5 (JC.norm (i := 6) hf6 ?_)))
    refine JC.ret ?_
    obtain rfl := Option.some.inj hF
    exact JQ.outH rfl (.tmp (.tmp (.tmp .nil))) ⟨y17a_v0, y21a_v0, rfl, (SL.mono RInt.mono (HSub.trans hs29 hs30) hy17a_0), hy21a_0⟩

-- 24 ferrule/ferrulelaw05.sameSpans
def F_law05_sameSpans_s1 (n : Nat) (a : List Span) (b : List Span) : Int → Option (Int ⊕ (Bool ⊕ Unit))
  | i_126 => if decide (i_126 < (a.length : Int)) = true then ((geti a i_126).bind fun y141 => (geti b i_126).bind fun y146 => if (!((y141.Low == y146.Low) && (y141.High == y146.High))) = true then (some (Sum.inr (Sum.inl false))) else (some (Sum.inl (w64 (i_126 + 1))))) else (some (Sum.inr (Sum.inr ())))
def F_law05_sameSpans (n : Nat) (a : List Span) (b : List Span) : Option Bool :=
  if ((a.length : Int) != (b.length : Int)) = true then (some false) else ((loopO n (F_law05_sameSpans_s1 n a b) 0).bind fun r77 => match r77 with | .inl o => some o | .inr _ => some true)
set_option maxRecDepth 100000 in
set_option maxHeartbeats 40000000 in
theorem c_law05_sameSpans (n : Nat) (H : Hp) (a : List Span) (a_v0 : Value) (ha_0 : SL H 2 R_Span a_v0 a) (b : List Span) (b_v0 : Value) (hb_0 : SL H 2 R_Span b_v0 b) (y : Bool) (hF : F_law05_sameSpans n a b = some y) : SC Try.prog 24 [a_v0, b_v0] (.bool y) H := by
  rw [F_law05_sameSpans] at hF
  refine SC.of (N := 26) Try.func24 rfl rfl rfl fun w => ?_
  refine JC.seq ?_
  refine JC.region (by rfl) ?_
  intro hQ
  refine JL.assign .none rfl ?_
  refine JL.done hQ ?_
  refine JQ.go ?_
  refine JC.seq ?_
  refine JC.seq ?_
  refine JC.region (by rfl) ?_
  intro hQ
  refine JL.move .none rfl ?_
  refine JL.lenSL (R := R_Span) ul_27 ha_0 .none rfl ?_
  refine JL.move .none rfl ?_
  refine JL.lenSL (R := R_Span) ul_27 hb_0 .none rfl ?_
  refine JL.bin rfl rfl rfl .none rfl ?_
  refine JL.done hQ ?_
  refine JQ.go ?_
  rcases ite_some hF with ⟨hc1, hF⟩ | ⟨hc1, hF⟩
  · refine JC.cond_t (b := ((a.length : Int) != (b.length : Int))) rfl hc1 ?_
    refine JC.seq ?_
    refine JC.region (by rfl) ?_
    intro hQ
    refine JL.assign .none rfl ?_
    refine JL.done hQ ?_
    refine JQ.go ?_
    refine JC.ret ?_
    refine JQ.ret_then ?_
    obtain rfl := Option.some.inj hF
    exact JQ.outS rfl (.tmp .nil) rfl
  · refine JC.cond_f (b := ((a.length : Int) != (b.length : Int))) rfl hc1 ?_
    refine JC.skip ?_
    refine JQ.go ?_
    refine JC.seq ?_
    refine JC.seq ?_
    refine JC.region (by rfl) ?_
    intro hQ
    refine JL.assign .none rfl ?_
    refine JL.done hQ ?_
    refine JQ.go ?_
    obtain ⟨r77, hlr77, hKr77⟩ := bind_some hF
    refine JC.join (fun (_ : Unit) H76 f bs gs => bs = [] ∧ gs = [] ∧ HSub H H76 ∧ Sum.inr () = r77) ?_ ?_
    · skip
      refine JC.block ?_
      refine JC.loop hlr77 (fun (i_126 : Int) H127 f bs gs => f 0 = a_v0 ∧ f 1 = b_v0 ∧ f 5 = .int .i64 i_126 ∧ bs = [] ∧ gs = [] ∧ HSub H H127) ⟨rfl, rfl, rfl, rfl, rfl, (HSub.refl _)⟩ ?_
      rintro i_126 x129 H127 f bs gs ⟨hf0, hf1, hf5, rfl, rfl, hs127⟩ hF hr128
      rw [F_law05_sameSpans_s1] at hF
      refine (JC.norm (i := 0) hf0 (JC.norm (i := 1) hf1 (JC.norm (i := 5) hf5 ?_)))
      refine JC.seq ?_
      refine JC.seq ?_
      refine JC.region (by rfl) ?_
      intro hQ
      refine JL.move .none rfl ?_
      refine JL.move .none rfl ?_
      refine JL.lenSL (R := R_Span) ul_27 (SL.mono R_Span_mono hs127 ha_0) .none rfl ?_
      refine JL.bin rfl rfl rfl .none rfl ?_
      refine JL.done hQ ?_
      refine JQ.go ?_
      rcases ite_some hF with ⟨hc130, hF⟩ | ⟨hc130, hF⟩
      · refine JC.cond_t (b := decide (i_126 < (a.length : Int))) rfl hc130 ?_
        refine JC.skip ?_
        refine JQ.go ?_
        refine JC.seq ?_
        refine JC.block ?_
        refine JC.seq ?_
        refine JC.draw (by rfl) mo_ (by kernel_rfl) ?_
        intro hQ
        refine JL.move .none rfl ?_
        refine JL.move .none rfl ?_
        obtain ⟨y141, hy141, hF⟩ := bind_some hF
        refine JL.indexSL (R := R_Span) sl_27 (SL.mono R_Span_mono hs127 ha_0) rfl hy141 .none rfl ?_
        rintro b142 o143 cs144 hc145 - rfl
        refine JL.loadH 0 az_38 rfl hc145 rfl .none rfl ?_
        refine JL.move .none rfl ?_
        refine JL.move .none rfl ?_
        obtain ⟨y146, hy146, hF⟩ := bind_some hF
        refine JL.indexSL (R := R_Span) sl_27 (SL.mono R_Span_mono hs127 hb_0) rfl hy146 .none rfl ?_
        rintro b147 o148 cs149 hc150 - rfl
        refine JL.loadH 0 az_38 rfl hc150 rfl .none rfl ?_
        refine JL.neAgg eqg_38 rfl rfl (fun w => eqa_38 y141.Low y141.High y146.Low y146.High w) .none rfl ?_
        refine JL.doneQ hQ ?_
        refine JQ.go ?_
        refine JC.fresh (fun f => f 0 = a_v0 ∧ f 1 = b_v0 ∧ f 5 = .int .i64 i_126 ∧ f 25 = .bool (!((y141.Low == y146.Low) && (y141.High == y146.High)))) ⟨rfl, rfl, rfl, rfl⟩ ?_
        rintro f ⟨hf0, hf1, hf5, hf25⟩
        refine (JC.norm (i := 0) hf0 (JC.norm (i := 1) hf1 (JC.norm (i := 5) hf5 (JC.norm (i := 25) hf25 ?_))))
        rcases ite_some hF with ⟨hc151, hF⟩ | ⟨hc151, hF⟩
        · refine JC.cond_t (b := (!((y141.Low == y146.Low) && (y141.High == y146.High)))) rfl hc151 ?_
          refine JC.seq ?_
          refine JC.region (by rfl) ?_
          intro hQ
          refine JL.assign .none rfl ?_
          refine JL.done hQ ?_
          refine JQ.go ?_
          refine JC.ret ?_
          refine JQ.ret_block ?_
          refine JQ.ret_then ?_
          refine JQ.ret_then ?_
          refine JQ.ret_block ?_
          refine JQ.ret_join ?_
          refine JQ.ret_then ?_
          obtain rfl := Option.some.inj hF
          have ehr128 := hr128 _ rfl
          subst ehr128
          have hF := hKr77
          try dsimp only at hF
          obtain rfl := Option.some.inj hF
          exact JQ.outS rfl (.tmp .nil) rfl
        · refine JC.cond_f (b := (!((y141.Low == y146.Low) && (y141.High == y146.High)))) rfl hc151 ?_
          refine JC.skip ?_
          refine JQ.normal_block ?_
          refine JQ.go ?_
          refine JC.region (by rfl) ?_
          intro hQ
          refine JL.move .none rfl ?_
          refine JL.bin rfl rfl rfl .none rfl ?_
          refine JL.assign .none rfl ?_
          refine JL.done hQ ?_
          obtain rfl := Option.some.inj hF
          exact JQ.next rfl ⟨rfl, rfl, rfl, rfl, rfl, hs127⟩
      · refine JC.cond_f (b := decide (i_126 < (a.length : Int))) rfl hc130 ?_
        refine JC.exit ?_
        refine JQ.exit_then ?_
        refine JQ.exit_then ?_
        refine JQ.exit_block ?_
        obtain rfl := Option.some.inj hF
        have ehr128 := hr128 _ rfl
        subst ehr128
        exact JQ.join () ⟨rfl, rfl, hs127, rfl⟩
    · rintro _ H76 f bs gs ⟨rfl, rfl, hs76, rfl⟩
      have hF := hKr77
      try dsimp only at hF
      refine JQ.go ?_
      refine JC.seq ?_
      refine JC.region (by rfl) ?_
      intro hQ
      refine JL.assign .none rfl ?_
      refine JL.done hQ ?_
      refine JQ.go ?_
      refine JC.ret ?_
      obtain rfl := Option.some.inj hF
      exact JQ.outS rfl (.tmp .nil) rfl

-- 26 ferrule/gusts.First
def F_gusts_First_s1 (n : Nat) (class_ : List Gust) (y4 : gusts_blown × gusts_blown) : Int → Option (Int ⊕ ((Int × (List Int) × Int) ⊕ Unit))
  | x_78 => if decide (x_78 < (class_.length : Int)) = true then ((geti class_ x_78).bind fun y83 => (F_gusts_blown_first n y4.2 y83).bind fun y89 => if (y89 != 0) = true then ((F_gusts_ribs_list n y89).bind fun y91 => some (Sum.inr (Sum.inl (x_78, y91, 0)))) else (some (Sum.inl (w64 (x_78 + 1))))) else (some (Sum.inr (Sum.inr ())))
def F_gusts_First (n : Nat) (d : Canopy) (class_ : List Gust) : Option (Int × (List Int) × Int) :=
  (F_gusts_ask n d class_).bind fun y2 => if (y2 != 0) = true then (some (0, ([] : List Int), y2)) else ((F_gusts_ends n d).bind fun y4 => (loopO n (F_gusts_First_s1 n class_ y4) 0).bind fun r51 => match r51 with | .inl o => some o | .inr _ => some (0, ([] : List Int), 3))
set_option maxRecDepth 100000 in
set_option maxHeartbeats 40000000 in
theorem c_gusts_First (n : Nat) (H : Hp) (d : Canopy) (d_v0 : Value) (hd_0 : SL H 7 R_Section d_v0 d.Frame.Sections) (d_v7 : Value) (hd_7 : SL H 2 R_Span d_v7 d.Ribs) (d_v8 : Value) (hd_8 : SL H 1 RInt d_v8 d.Shares) (class_ : List Gust) (class__v0 : Value) (hclass__0 : SL H 2 R_Gust class__v0 class_) (y : Int × (List Int) × Int) (hF : F_gusts_First n d class_ = some y) : HC Try.prog 26 [.agg [d_v0, .int .i64 d.Frame.Low, .int .i64 d.Frame.High, .int .i64 d.Frame.Ease.Num, .int .i64 d.Frame.Ease.Den, .int .i64 d.Frame.Rod, .int .i64 d.Frame.Case, d_v7, d_v8].toArray, class__v0] H (fun H' v => ∃ rb_v0 : Value, v = .tuple [.int .i64 y.1, rb_v0, .int .i64 y.2.2].toArray ∧ SL H' 1 RInt rb_v0 y.2.1) := by
  rw [F_gusts_First] at hF
  refine HC.of (N := 40) Try.func26 rfl rfl rfl fun w => ?_
  refine JC.seq ?_
  refine JC.region (by rfl) ?_
  intro hQ
  refine JL.box (cs := [d_v0, .int .i64 d.Frame.Low, .int .i64 d.Frame.High, .int .i64 d.Frame.Ease.Num, .int .i64 d.Frame.Ease.Den, .int .i64 d.Frame.Rod, .int .i64 d.Frame.Case, d_v7, d_v8]) rfl .none rfl ?_
  intro b1
  refine JL.assign .none rfl ?_
  refine JL.assign .none rfl ?_
  refine JL.assign .none rfl ?_
  refine JL.done hQ ?_
  refine JQ.go ?_
  refine JC.seq ?_
  refine JC.seq ?_
  refine JC.region (by rfl) ?_
  intro hQ
  refine JL.loadOwn 0 az_30 rfl rfl rfl .none rfl ?_
  refine JL.move .none rfl ?_
  obtain ⟨y2, hy2, hF⟩ := bind_some hF
  refine JL.callS (c_gusts_ask n H d d_v0 hd_0 d_v7 hd_7 d_v8 hd_8 class_ class__v0 hclass__0 y2 hy2) rfl en_44 .none rfl ?_
  refine JL.assign .none rfl ?_
  refine JL.done hQ ?_
  refine JQ.go ?_
  refine JC.seq ?_
  refine JC.region (by rfl) ?_
  intro hQ
  refine JL.move .none rfl ?_
  refine JL.bin rfl rfl rfl .none rfl ?_
  refine JL.done hQ ?_
  refine JQ.go ?_
  rcases ite_some hF with ⟨hc3, hF⟩ | ⟨hc3, hF⟩
  · refine JC.cond_t (b := (y2 != 0)) rfl hc3 ?_
    refine JC.seq ?_
    refine JC.region (by rfl) ?_
    intro hQ
    refine JL.move .none rfl ?_
    refine JL.assign .none rfl ?_
    refine JL.assign .none rfl ?_
    refine JL.assign .none rfl ?_
    refine JL.done hQ ?_
    refine JQ.go ?_
    refine JC.ret ?_
    refine JQ.ret_then ?_
    obtain rfl := Option.some.inj hF
    exact JQ.outH rfl (.tmp (.tmp (.tmp .nil))) ⟨(.slice none 0 0), rfl, SL.nil⟩
  · refine JC.cond_f (b := (y2 != 0)) rfl hc3 ?_
    refine JC.skip ?_
    refine JQ.go ?_
    refine JC.seq ?_
    refine JC.region (by rfl) ?_
    intro hQ
    refine JL.loadOwn 0 az_30 rfl rfl rfl .none rfl ?_
    obtain ⟨y4, hy4, hF⟩ := bind_some hF
    refine JL.callH (c_gusts_ends n H d d_v0 hd_0 d_v7 hd_7 d_v8 hd_8 y4 hy4) rfl en_45 .none rfl ?_
    rintro H5 vv6 hs5 ⟨y4a_v1, y4a_v2, y4b_v1, y4b_v2, rfl, hy4a_1, hy4a_2, hy4b_1, hy4b_2⟩
    refine JL.move .none rfl ?_
    refine JL.extract rfl rfl .none rfl ?_
    refine JL.extract rfl rfl .none rfl ?_
    refine JL.alloc ze_87 .none rfl ?_
    intro b7
    refine JL.alloc ze_87 .none rfl ?_
    intro b8
    refine JL.storeOwn 1 (cs := [.int .i64 y4.1.lift, y4a_v1, y4a_v2]) az_87 rfl rfl rfl (one_cons rfl (one_cons (SL.one hy4a_1) (one_cons (SL.one hy4a_2) one_nil))) rfl rfl .none ?_
    refine JL.storeOwn 0 (cs := [.int .i64 y4.2.lift, y4b_v1, y4b_v2]) az_87 rfl rfl rfl (one_cons rfl (one_cons (SL.one hy4b_1) (one_cons (SL.one hy4b_2) one_nil))) rfl rfl .none ?_
    refine JL.done hQ ?_
    refine JQ.go ?_
    refine JC.fresh (fun f => f 1 = class__v0 ∧ f 4 = .int .i64 0 ∧ f 5 = .slice none 0 0 ∧ f 6 = .int .i64 0 ∧ f 9 = .pointer (some ⟨b8, 0, none⟩)) ⟨rfl, rfl, rfl, rfl, rfl⟩ ?_
    rintro f ⟨hf1, hf4, hf5, hf6, hf9⟩
    refine (JC.norm (i := 1) hf1 (JC.norm (i := 4) hf4 (JC.norm (i := 5) hf5 (JC.norm (i := 6) hf6 (JC.norm (i := 9) hf9 ?_)))))
    refine JC.seq ?_
    refine JC.seq ?_
    refine JC.region (by rfl) ?_
    intro hQ
    refine JL.move .none rfl ?_
    refine JL.lenSL (R := R_Gust) ul_34 (SL.mono R_Gust_mono hs5 hclass__0) .none rfl ?_
    refine JL.move .none rfl ?_
    refine JL.done hQ ?_
    refine JQ.go ?_
    obtain ⟨r51, hlr51, hKr51⟩ := bind_some hF
    refine JC.join (fun (_ : Unit) H50 f bs gs => bs = [] ∧ gs = [] ∧ HSub H5 H50 ∧ Sum.inr () = r51) ?_ ?_
    · skip
      refine JC.block ?_
      refine JC.mask [true, false, false] [] ?_
      refine JC.loop hlr51 (fun (x_78 : Int) H79 f bs gs => f 9 = .pointer (some ⟨b8, 0, none⟩) ∧ f 24 = class__v0 ∧ f 25 = .int .i64 (class_.length : Int) ∧ f 26 = .int .i64 x_78 ∧ bs = [(b8, .cells [.int .i64 y4.2.lift, y4b_v1, y4b_v2].toArray 87)] ∧ gs = [] ∧ HSub H5 H79) ⟨rfl, rfl, rfl, rfl, rfl, rfl, (HSub.refl _)⟩ ?_
      rintro x_78 x81 H79 f bs gs ⟨hf9, hf24, hf25, hf26, rfl, rfl, hs79⟩ hF hr80
      rw [F_gusts_First_s1] at hF
      refine (JC.norm (i := 9) hf9 (JC.norm (i := 24) hf24 (JC.norm (i := 25) hf25 (JC.norm (i := 26) hf26 ?_))))
      refine JC.seq ?_
      refine JC.region (by rfl) ?_
      intro hQ
      refine JL.bin rfl rfl rfl .none rfl ?_
      refine JL.done hQ ?_
      refine JQ.go ?_
      refine JC.seq ?_
      rcases ite_some hF with ⟨hc82, hF⟩ | ⟨hc82, hF⟩
      · refine JC.cond_t (b := decide (x_78 < (class_.length : Int))) rfl hc82 ?_
        refine JC.skip ?_
        refine JQ.go ?_
        refine JC.seq ?_
        refine JC.block ?_
        refine JC.seq ?_
        refine JC.region (by rfl) ?_
        intro hQ
        refine JL.move .none rfl ?_
        obtain ⟨y83, hy83, hF⟩ := bind_some hF
        refine JL.indexSL (R := R_Gust) sl_34 (SL.mono R_Gust_mono (HSub.trans hs5 hs79) hclass__0) rfl hy83 .none rfl ?_
        rintro b84 o85 cs86 hc87 - rfl
        refine JL.loadH 0 az_32 rfl hc87 rfl .none rfl ?_
        refine JL.alloc ze_32 .none rfl ?_
        intro b88
        refine JL.assign .none rfl ?_
        refine JL.storeOwn 0 (cs := [.int .i64 y83.Force, .int .i64 y83.At]) az_32 rfl rfl rfl (one_cons rfl (one_cons rfl one_nil)) rfl rfl .none ?_
        refine JL.done hQ ?_
        refine JQ.go ?_
        refine JC.seq ?_
        refine JC.region (by rfl) ?_
        intro hQ
        refine JL.loadOwn 1 az_87 rfl rfl rfl .none rfl ?_
        refine JL.loadOwn 0 az_32 rfl rfl rfl .none rfl ?_
        obtain ⟨y89, hy89, hF⟩ := bind_some hF
        refine JL.callS (c_gusts_blown_first n H79 y4.2 y4b_v1 (SL.mono RInt.mono hs79 hy4b_1) y4b_v2 (SL.mono RInt.mono hs79 hy4b_2) y83 y89 hy89) rfl en_62 .none rfl ?_
        refine JL.assign .none rfl ?_
        refine JL.done hQ ?_
        refine JQ.go ?_
        refine JC.fresh (fun f => f 9 = .pointer (some ⟨b8, 0, none⟩) ∧ f 10 = .int .i64 x_78 ∧ f 12 = .int .u16 y89 ∧ f 24 = class__v0 ∧ f 25 = .int .i64 (class_.length : Int) ∧ f 26 = .int .i64 x_78) ⟨rfl, rfl, rfl, rfl, rfl, rfl⟩ ?_
        rintro f ⟨hf9, hf10, hf12, hf24, hf25, hf26⟩
        refine (JC.norm (i := 9) hf9 (JC.norm (i := 10) hf10 (JC.norm (i := 12) hf12 (JC.norm (i := 24) hf24 (JC.norm (i := 25) hf25 (JC.norm (i := 26) hf26 ?_))))))
        refine JC.seq ?_
        refine JC.region (by rfl) ?_
        intro hQ
        refine JL.move .none rfl ?_
        refine JL.bin rfl rfl rfl .none rfl ?_
        refine JL.done hQ ?_
        refine JQ.go ?_
        rcases ite_some hF with ⟨hc90, hF⟩ | ⟨hc90, hF⟩
        · refine JC.cond_t (b := (y89 != 0)) rfl hc90 ?_
          refine JC.seq ?_
          refine JC.region (by rfl) ?_
          intro hQ
          refine JL.move .none rfl ?_
          refine JL.move .none rfl ?_
          obtain ⟨y91, hy91, hF⟩ := bind_some hF
          refine JL.callH (c_gusts_ribs_list n H79 y89 y91 hy91) rfl en_47 .none rfl ?_
          intro H92 y91a_v0 hs92 hy91a_0
          refine JL.assign .none rfl ?_
          refine JL.assign .none rfl ?_
          refine JL.assign .none rfl ?_
          refine JL.done hQ ?_
          refine JQ.go ?_
          refine JC.fresh (fun f => f 4 = .int .i64 x_78 ∧ f 5 = y91a_v0 ∧ f 6 = .int .i64 0) ⟨rfl, rfl, rfl⟩ ?_
          rintro f ⟨hf4, hf5, hf6⟩
          refine (JC.norm (i := 4) hf4 (JC.norm (i := 5) hf5 (JC.norm (i := 6) hf6 ?_)))
          refine JC.ret ?_
          refine JQ.ret_block ?_
          refine JQ.ret_then ?_
          refine JQ.ret_then ?_
          refine JQ.ret_block ?_
          refine JQ.ret_join ?_
          refine JQ.ret_then ?_
          obtain rfl := Option.some.inj hF
          have ehr80 := hr80 _ rfl
          subst ehr80
          have hF := hKr51
          try dsimp only at hF
          obtain rfl := Option.some.inj hF
          exact JQ.outH rfl (.tmp (.tmp (.tmp .nil))) ⟨y91a_v0, rfl, hy91a_0⟩
        · refine JC.cond_f (b := (y89 != 0)) rfl hc90 ?_
          refine JC.skip ?_
          refine JQ.normal_block ?_
          refine JQ.go ?_
          refine JC.region (by rfl) ?_
          intro hQ
          refine JL.bin rfl rfl rfl .none rfl ?_
          refine JL.move .none rfl ?_
          refine JL.done hQ ?_
          obtain rfl := Option.some.inj hF
          refine JQ.mask [false, true] [] ?_
          exact JQ.next rfl ⟨rfl, rfl, rfl, rfl, rfl, rfl, hs79⟩
      · refine JC.cond_f (b := decide (x_78 < (class_.length : Int))) rfl hc82 ?_
        refine JC.exit ?_
        refine JQ.exit_then ?_
        refine JQ.exit_then ?_
        refine JQ.exit_block ?_
        obtain rfl := Option.some.inj hF
        have ehr80 := hr80 _ rfl
        subst ehr80
        refine JQ.mask [false] [] ?_
        exact JQ.join () ⟨rfl, rfl, hs79, rfl⟩
    · rintro _ H50 f bs gs ⟨rfl, rfl, hs50, rfl⟩
      have hF := hKr51
      try dsimp only at hF
      refine JQ.go ?_
      refine JC.seq ?_
      refine JC.region (by rfl) ?_
      intro hQ
      refine JL.assign .none rfl ?_
      refine JL.assign .none rfl ?_
      refine JL.assign .none rfl ?_
      refine JL.done hQ ?_
      refine JQ.go ?_
      refine JC.ret ?_
      obtain rfl := Option.some.inj hF
      exact JQ.outH rfl (.tmp (.tmp (.tmp .nil))) ⟨(.slice none 0 0), rfl, SL.nil⟩

-- 27 ferrule/ferrulelaw05.subset
def F_law05_subset_s1 (n : Nat) (a : List Int) (b : List Int) : Int → Option (Int ⊕ (Bool ⊕ Unit))
  | i_55 => if decide (i_55 < (a.length : Int)) = true then ((geti a i_55).bind fun y60 => (F_law05_in n b y60).bind fun y65 => if (!y65) = true then (some (Sum.inr (Sum.inl false))) else (some (Sum.inl (w64 (i_55 + 1))))) else (some (Sum.inr (Sum.inr ())))
def F_law05_subset (n : Nat) (a : List Int) (b : List Int) : Option Bool :=
  (loopO n (F_law05_subset_s1 n a b) 0).bind fun r34 => match r34 with | .inl o => some o | .inr _ => some true
set_option maxRecDepth 100000 in
set_option maxHeartbeats 40000000 in
theorem c_law05_subset (n : Nat) (H : Hp) (a : List Int) (a_v0 : Value) (ha_0 : SL H 1 RInt a_v0 a) (b : List Int) (b_v0 : Value) (hb_0 : SL H 1 RInt b_v0 b) (y : Bool) (hF : F_law05_subset n a b = some y) : SC Try.prog 27 [a_v0, b_v0] (.bool y) H := by
  rw [F_law05_subset] at hF
  refine SC.of (N := 19) Try.func27 rfl rfl rfl fun w => ?_
  refine JC.seq ?_
  refine JC.region (by rfl) ?_
  intro hQ
  refine JL.assign .none rfl ?_
  refine JL.done hQ ?_
  refine JQ.go ?_
  refine JC.seq ?_
  refine JC.seq ?_
  refine JC.region (by rfl) ?_
  intro hQ
  refine JL.assign .none rfl ?_
  refine JL.done hQ ?_
  refine JQ.go ?_
  obtain ⟨r34, hlr34, hKr34⟩ := bind_some hF
  refine JC.join (fun (_ : Unit) H33 f bs gs => bs = [] ∧ gs = [] ∧ HSub H H33 ∧ Sum.inr () = r34) ?_ ?_
  · skip
    refine JC.block ?_
    refine JC.loop hlr34 (fun (i_55 : Int) H56 f bs gs => f 0 = a_v0 ∧ f 1 = b_v0 ∧ f 5 = .int .i64 i_55 ∧ bs = [] ∧ gs = [] ∧ HSub H H56) ⟨rfl, rfl, rfl, rfl, rfl, (HSub.refl _)⟩ ?_
    rintro i_55 x58 H56 f bs gs ⟨hf0, hf1, hf5, rfl, rfl, hs56⟩ hF hr57
    rw [F_law05_subset_s1] at hF
    refine (JC.norm (i := 0) hf0 (JC.norm (i := 1) hf1 (JC.norm (i := 5) hf5 ?_)))
    refine JC.seq ?_
    refine JC.seq ?_
    refine JC.region (by rfl) ?_
    intro hQ
    refine JL.move .none rfl ?_
    refine JL.move .none rfl ?_
    refine JL.lenSL (R := RInt) ul_28 (SL.mono RInt.mono hs56 ha_0) .none rfl ?_
    refine JL.bin rfl rfl rfl .none rfl ?_
    refine JL.done hQ ?_
    refine JQ.go ?_
    rcases ite_some hF with ⟨hc59, hF⟩ | ⟨hc59, hF⟩
    · refine JC.cond_t (b := decide (i_55 < (a.length : Int))) rfl hc59 ?_
      refine JC.skip ?_
      refine JQ.go ?_
      refine JC.seq ?_
      refine JC.block ?_
      refine JC.seq ?_
      refine JC.region (by rfl) ?_
      intro hQ
      refine JL.move .none rfl ?_
      refine JL.move .none rfl ?_
      refine JL.move .none rfl ?_
      obtain ⟨y60, hy60, hF⟩ := bind_some hF
      refine JL.indexSL (R := RInt) sl_28 (SL.mono RInt.mono hs56 ha_0) rfl hy60 .none rfl ?_
      rintro b61 o62 cs63 hc64 - rfl
      refine JL.loadH 0 az_3 rfl hc64 rfl .none rfl ?_
      obtain ⟨y65, hy65, hF⟩ := bind_some hF
      refine JL.callS (c_law05_in n H56 b b_v0 (SL.mono RInt.mono hs56 hb_0) y60 y65 hy65) rfl en_15 .none rfl ?_
      refine JL.not rfl .none rfl ?_
      refine JL.done hQ ?_
      refine JQ.go ?_
      refine JC.fresh (fun f => f 0 = a_v0 ∧ f 1 = b_v0 ∧ f 5 = .int .i64 i_55 ∧ f 18 = .bool (!y65)) ⟨rfl, rfl, rfl, rfl⟩ ?_
      rintro f ⟨hf0, hf1, hf5, hf18⟩
      refine (JC.norm (i := 0) hf0 (JC.norm (i := 1) hf1 (JC.norm (i := 5) hf5 (JC.norm (i := 18) hf18 ?_))))
      rcases ite_some hF with ⟨hc66, hF⟩ | ⟨hc66, hF⟩
      · refine JC.cond_t (b := (!y65)) rfl hc66 ?_
        refine JC.seq ?_
        refine JC.region (by rfl) ?_
        intro hQ
        refine JL.assign .none rfl ?_
        refine JL.done hQ ?_
        refine JQ.go ?_
        refine JC.ret ?_
        refine JQ.ret_block ?_
        refine JQ.ret_then ?_
        refine JQ.ret_then ?_
        refine JQ.ret_block ?_
        refine JQ.ret_join ?_
        refine JQ.ret_then ?_
        obtain rfl := Option.some.inj hF
        have ehr57 := hr57 _ rfl
        subst ehr57
        have hF := hKr34
        try dsimp only at hF
        obtain rfl := Option.some.inj hF
        exact JQ.outS rfl (.tmp .nil) rfl
      · refine JC.cond_f (b := (!y65)) rfl hc66 ?_
        refine JC.skip ?_
        refine JQ.normal_block ?_
        refine JQ.go ?_
        refine JC.region (by rfl) ?_
        intro hQ
        refine JL.move .none rfl ?_
        refine JL.bin rfl rfl rfl .none rfl ?_
        refine JL.assign .none rfl ?_
        refine JL.done hQ ?_
        obtain rfl := Option.some.inj hF
        exact JQ.next rfl ⟨rfl, rfl, rfl, rfl, rfl, hs56⟩
    · refine JC.cond_f (b := decide (i_55 < (a.length : Int))) rfl hc59 ?_
      refine JC.exit ?_
      refine JQ.exit_then ?_
      refine JQ.exit_then ?_
      refine JQ.exit_block ?_
      obtain rfl := Option.some.inj hF
      have ehr57 := hr57 _ rfl
      subst ehr57
      exact JQ.join () ⟨rfl, rfl, hs56, rfl⟩
  · rintro _ H33 f bs gs ⟨rfl, rfl, hs33, rfl⟩
    have hF := hKr34
    try dsimp only at hF
    refine JQ.go ?_
    refine JC.seq ?_
    refine JC.region (by rfl) ?_
    intro hQ
    refine JL.assign .none rfl ?_
    refine JL.done hQ ?_
    refine JQ.go ?_
    refine JC.ret ?_
    obtain rfl := Option.some.inj hF
    exact JQ.outS rfl (.tmp .nil) rfl

-- 85 (ferrule/gusts.blown).stands$1
def F_gusts_blown_stands_1 (n : Nat) (g : Gust) (c_0 : gusts_blown) : Option Bool :=
  (F_gusts_blown_first n c_0 g).bind fun y2 => some (y2 != 0)
set_option maxRecDepth 100000 in
set_option maxHeartbeats 40000000 in
theorem c_gusts_blown_stands_1 (n : Nat) (H : Hp) (g : Gust) (c_0 : gusts_blown) (c_0_v1 : Value) (hc_0_1 : SL H 1 RInt c_0_v1 c_0.ribs) (c_0_v2 : Value) (hc_0_2 : SL H 1 RInt c_0_v2 c_0.shares) (c_0_b : Nat) (c_0_c : Cells H c_0_b 0 [.int .i64 c_0.lift, c_0_v1, c_0_v2]) (y : Bool) (hF : F_gusts_blown_stands_1 n g c_0 = some y) : SC Try.prog 85 [.agg [.int .i64 g.Force, .int .i64 g.At].toArray, .pointer (some ⟨c_0_b, 0, none⟩)] (.bool y) H := by
  rw [F_gusts_blown_stands_1] at hF
  refine SC.of (N := 8) Try.func85 rfl rfl rfl fun w => ?_
  refine JC.seq ?_
  refine JC.region (by rfl) ?_
  intro hQ
  refine JL.box (cs := [.int .i64 g.Force, .int .i64 g.At]) rfl .none rfl ?_
  intro b1
  refine JL.assign .none rfl ?_
  refine JL.done hQ ?_
  refine JQ.go ?_
  refine JC.seq ?_
  refine JC.region (by rfl) ?_
  intro hQ
  refine JL.loadH 0 az_87 rfl c_0_c rfl .none rfl ?_
  refine JL.loadOwn 0 az_32 rfl rfl rfl .none rfl ?_
  obtain ⟨y2, hy2, hF⟩ := bind_some hF
  refine JL.callS (c_gusts_blown_first n H c_0 c_0_v1 hc_0_1 c_0_v2 hc_0_2 g y2 hy2) rfl en_62 .none rfl ?_
  refine JL.bin rfl rfl rfl .none rfl ?_
  refine JL.assign .none rfl ?_
  refine JL.done hQ ?_
  refine JQ.go ?_
  refine JC.ret ?_
  obtain rfl := Option.some.inj hF
  exact JQ.outS rfl (.tmp .nil) rfl

-- 63 (ferrule/gusts.blown).stands
def F_gusts_blown_stands (n : Nat) (b : gusts_blown) (class_ : List Gust) : Option Bool :=
  (F_slices_ContainsFunc___api_Gust_api_Gust_ n class_ (fun a0_ => F_gusts_blown_stands_1 n a0_ b)).bind fun y4 => some (!y4)
set_option maxRecDepth 100000 in
set_option maxHeartbeats 40000000 in
theorem c_gusts_blown_stands (n : Nat) (H : Hp) (b : gusts_blown) (b_v1 : Value) (hb_1 : SL H 1 RInt b_v1 b.ribs) (b_v2 : Value) (hb_2 : SL H 1 RInt b_v2 b.shares) (class_ : List Gust) (class__v0 : Value) (hclass__0 : SL H 2 R_Gust class__v0 class_) (y : Bool) (hF : F_gusts_blown_stands n b class_ = some y) : SC Try.prog 63 [.agg [.int .i64 b.lift, b_v1, b_v2].toArray, class__v0] (.bool y) H := by
  rw [F_gusts_blown_stands] at hF
  refine SC.of (N := 9) Try.func63 rfl rfl rfl fun w => ?_
  refine JC.seq ?_
  refine JC.region (by rfl) ?_
  intro hQ
  refine JL.box (cs := [.int .i64 b.lift, b_v1, b_v2]) rfl .none rfl ?_
  intro b1
  refine JL.assign .none rfl ?_
  refine JL.done hQ ?_
  refine JQ.go ?_
  refine JC.seq ?_
  refine JC.region (by rfl) ?_
  intro hQ
  refine JL.move .none rfl ?_
  refine JL.makeFunc .none rfl ?_
  refine JL.freezeC 0 (l := [.int .i64 b.lift, b_v1, b_v2]) rfl ?_
  intro H2 hs2 hc3
  obtain ⟨y4, hy4, hF⟩ := bind_some hF
  refine JL.callS (c_slices_ContainsFunc___api_Gust_api_Gust_ n H2 class_ class__v0 (SL.mono R_Gust_mono hs2 hclass__0) (fun a0_ => F_gusts_blown_stands_1 n a0_ b) 85 [.pointer (some ⟨b1, 0, none⟩)] en_85 (fun H' hs' a0_ y' hy' => c_gusts_blown_stands_1 n H' a0_ b b_v1 (SL.mono RInt.mono hs' (SL.mono RInt.mono hs2 hb_1)) b_v2 (SL.mono RInt.mono hs' (SL.mono RInt.mono hs2 hb_2)) b1 (Cells.mono hs' hc3) y' hy') y4 hy4) rfl en_69 .none rfl ?_
  refine JL.not rfl .none rfl ?_
  refine JL.assign .none rfl ?_
  refine JL.done hQ ?_
  refine JQ.go ?_
  refine JC.ret ?_
  obtain rfl := Option.some.inj hF
  exact JQ.outS rfl (.tmp .nil) rfl

-- 29 ferrule/gusts.Stands
def F_gusts_Stands (n : Nat) (d : Canopy) (class_ : List Gust) : Option (Int × Int) :=
  (F_gusts_ask n d class_).bind fun y2 => if (y2 != 0) = true then (some (0, y2)) else ((F_gusts_ends n d).bind fun y4 => (F_gusts_blown_stands n y4.2 class_).bind fun y9 => if y9 = true then (some (1, 0)) else ((F_gusts_blown_stands n y4.1 class_).bind fun y11 => if (!y11) = true then (some (2, 0)) else (some (3, 0))))
set_option maxRecDepth 100000 in
set_option maxHeartbeats 40000000 in
theorem c_gusts_Stands (n : Nat) (H : Hp) (d : Canopy) (d_v0 : Value) (hd_0 : SL H 7 R_Section d_v0 d.Frame.Sections) (d_v7 : Value) (hd_7 : SL H 2 R_Span d_v7 d.Ribs) (d_v8 : Value) (hd_8 : SL H 1 RInt d_v8 d.Shares) (class_ : List Gust) (class__v0 : Value) (hclass__0 : SL H 2 R_Gust class__v0 class_) (y : Int × Int) (hF : F_gusts_Stands n d class_ = some y) : SC Try.prog 29 [.agg [d_v0, .int .i64 d.Frame.Low, .int .i64 d.Frame.High, .int .i64 d.Frame.Ease.Num, .int .i64 d.Frame.Ease.Den, .int .i64 d.Frame.Rod, .int .i64 d.Frame.Case, d_v7, d_v8].toArray, class__v0] (.tuple [.int .i64 y.1, .int .i64 y.2].toArray) H := by
  rw [F_gusts_Stands] at hF
  refine SC.of (N := 29) Try.func29 rfl rfl rfl fun w => ?_
  refine JC.seq ?_
  refine JC.region (by rfl) ?_
  intro hQ
  refine JL.box (cs := [d_v0, .int .i64 d.Frame.Low, .int .i64 d.Frame.High, .int .i64 d.Frame.Ease.Num, .int .i64 d.Frame.Ease.Den, .int .i64 d.Frame.Rod, .int .i64 d.Frame.Case, d_v7, d_v8]) rfl .none rfl ?_
  intro b1
  refine JL.assign .none rfl ?_
  refine JL.assign .none rfl ?_
  refine JL.done hQ ?_
  refine JQ.go ?_
  refine JC.seq ?_
  refine JC.seq ?_
  refine JC.region (by rfl) ?_
  intro hQ
  refine JL.loadOwn 0 az_30 rfl rfl rfl .none rfl ?_
  refine JL.move .none rfl ?_
  obtain ⟨y2, hy2, hF⟩ := bind_some hF
  refine JL.callS (c_gusts_ask n H d d_v0 hd_0 d_v7 hd_7 d_v8 hd_8 class_ class__v0 hclass__0 y2 hy2) rfl en_44 .none rfl ?_
  refine JL.assign .none rfl ?_
  refine JL.done hQ ?_
  refine JQ.go ?_
  refine JC.seq ?_
  refine JC.region (by rfl) ?_
  intro hQ
  refine JL.move .none rfl ?_
  refine JL.bin rfl rfl rfl .none rfl ?_
  refine JL.done hQ ?_
  refine JQ.go ?_
  rcases ite_some hF with ⟨hc3, hF⟩ | ⟨hc3, hF⟩
  · refine JC.cond_t (b := (y2 != 0)) rfl hc3 ?_
    refine JC.seq ?_
    refine JC.region (by rfl) ?_
    intro hQ
    refine JL.move .none rfl ?_
    refine JL.assign .none rfl ?_
    refine JL.assign .none rfl ?_
    refine JL.done hQ ?_
    refine JQ.go ?_
    refine JC.ret ?_
    refine JQ.ret_then ?_
    obtain rfl := Option.some.inj hF
    exact JQ.outS rfl (.tmp (.tmp .nil)) rfl
  · refine JC.cond_f (b := (y2 != 0)) rfl hc3 ?_
    refine JC.skip ?_
    refine JQ.go ?_
    refine JC.seq ?_
    refine JC.region (by rfl) ?_
    intro hQ
    refine JL.loadOwn 0 az_30 rfl rfl rfl .none rfl ?_
    obtain ⟨y4, hy4, hF⟩ := bind_some hF
    refine JL.callH (c_gusts_ends n H d d_v0 hd_0 d_v7 hd_7 d_v8 hd_8 y4 hy4) rfl en_45 .none rfl ?_
    rintro H5 vv6 hs5 ⟨y4a_v1, y4a_v2, y4b_v1, y4b_v2, rfl, hy4a_1, hy4a_2, hy4b_1, hy4b_2⟩
    refine JL.move .none rfl ?_
    refine JL.extract rfl rfl .none rfl ?_
    refine JL.extract rfl rfl .none rfl ?_
    refine JL.alloc ze_87 .none rfl ?_
    intro b7
    refine JL.alloc ze_87 .none rfl ?_
    intro b8
    refine JL.storeOwn 1 (cs := [.int .i64 y4.1.lift, y4a_v1, y4a_v2]) az_87 rfl rfl rfl (one_cons rfl (one_cons (SL.one hy4a_1) (one_cons (SL.one hy4a_2) one_nil))) rfl rfl .none ?_
    refine JL.storeOwn 0 (cs := [.int .i64 y4.2.lift, y4b_v1, y4b_v2]) az_87 rfl rfl rfl (one_cons rfl (one_cons (SL.one hy4b_1) (one_cons (SL.one hy4b_2) one_nil))) rfl rfl .none ?_
    refine JL.done hQ ?_
    refine JQ.go ?_
    refine JC.fresh (fun f => f 1 = class__v0 ∧ f 4 = .int .i64 0 ∧ f 5 = .int .i64 0 ∧ f 7 = .pointer (some ⟨b7, 0, none⟩) ∧ f 8 = .pointer (some ⟨b8, 0, none⟩)) ⟨rfl, rfl, rfl, rfl, rfl⟩ ?_
    rintro f ⟨hf1, hf4, hf5, hf7, hf8⟩
    refine (JC.norm (i := 1) hf1 (JC.norm (i := 4) hf4 (JC.norm (i := 5) hf5 (JC.norm (i := 7) hf7 (JC.norm (i := 8) hf8 ?_)))))
    refine JC.seq ?_
    refine JC.block ?_
    refine JC.seq ?_
    refine JC.region (by rfl) ?_
    intro hQ
    refine JL.loadOwn 0 az_87 rfl rfl rfl .none rfl ?_
    refine JL.move .none rfl ?_
    obtain ⟨y9, hy9, hF⟩ := bind_some hF
    refine JL.callS (c_gusts_blown_stands n H5 y4.2 y4b_v1 hy4b_1 y4b_v2 hy4b_2 class_ class__v0 (SL.mono R_Gust_mono hs5 hclass__0) y9 hy9) rfl en_63 .none rfl ?_
    refine JL.assign .none rfl ?_
    refine JL.done hQ ?_
    refine JQ.go ?_
    rcases ite_some hF with ⟨hc10, hF⟩ | ⟨hc10, hF⟩
    · refine JC.cond_t (b := y9) rfl hc10 ?_
      refine JC.seq ?_
      refine JC.region (by rfl) ?_
      intro hQ
      refine JL.assign .none rfl ?_
      refine JL.assign .none rfl ?_
      refine JL.done hQ ?_
      refine JQ.go ?_
      refine JC.ret ?_
      refine JQ.ret_block ?_
      refine JQ.ret_then ?_
      obtain rfl := Option.some.inj hF
      exact JQ.outS rfl (.tmp (.tmp .nil)) rfl
    · refine JC.cond_f (b := y9) rfl hc10 ?_
      refine JC.seq ?_
      refine JC.region (by rfl) ?_
      intro hQ
      refine JL.loadOwn 1 az_87 rfl rfl rfl .none rfl ?_
      refine JL.move .none rfl ?_
      obtain ⟨y11, hy11, hF⟩ := bind_some hF
      refine JL.callS (c_gusts_blown_stands n H5 y4.1 y4a_v1 hy4a_1 y4a_v2 hy4a_2 class_ class__v0 (SL.mono R_Gust_mono hs5 hclass__0) y11 hy11) rfl en_63 .none rfl ?_
      refine JL.not rfl .none rfl ?_
      refine JL.assign .none rfl ?_
      refine JL.done hQ ?_
      refine JQ.go ?_
      refine JC.fresh (fun f => f 4 = .int .i64 0 ∧ f 5 = .int .i64 0 ∧ f 24 = .bool (!y11)) ⟨rfl, rfl, rfl⟩ ?_
      rintro f ⟨hf4, hf5, hf24⟩
      refine (JC.norm (i := 4) hf4 (JC.norm (i := 5) hf5 (JC.norm (i := 24) hf24 ?_)))
      rcases ite_some hF with ⟨hc12, hF⟩ | ⟨hc12, hF⟩
      · refine JC.cond_t (b := (!y11)) rfl hc12 ?_
        refine JC.seq ?_
        refine JC.region (by rfl) ?_
        intro hQ
        refine JL.assign .none rfl ?_
        refine JL.assign .none rfl ?_
        refine JL.done hQ ?_
        refine JQ.go ?_
        refine JC.ret ?_
        refine JQ.ret_block ?_
        refine JQ.ret_then ?_
        obtain rfl := Option.some.inj hF
        exact JQ.outS rfl (.tmp (.tmp .nil)) rfl
      · refine JC.cond_f (b := (!y11)) rfl hc12 ?_
        refine JC.skip ?_
        refine JQ.normal_block ?_
        refine JQ.go ?_
        refine JC.seq ?_
        refine JC.region (by rfl) ?_
        intro hQ
        refine JL.assign .none rfl ?_
        refine JL.assign .none rfl ?_
        refine JL.done hQ ?_
        refine JQ.go ?_
        refine JC.ret ?_
        obtain rfl := Option.some.inj hF
        exact JQ.outS rfl (.tmp (.tmp .nil)) rfl

end Go.Proofs.Ytcpnnfdhafbemaa
