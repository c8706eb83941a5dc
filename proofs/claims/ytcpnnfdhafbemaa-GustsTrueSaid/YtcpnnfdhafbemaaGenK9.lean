/-
  Printed by a program: functions of the translation as plain functions, and their contracts.
-/
import Derived.Test.YtcpnnfdhafbemaaGenK8
namespace Go.Proofs.Ytcpnnfdhafbemaa
open Go Go.RowKit Go.Dec
set_option linter.unusedVariables false
-- 39 ferrule/ferruleref05.Load
def F_ref05_Load (n : Nat) (d : Canopy) (g : Gust) (lift : Int) (rib : Int) : Option Int :=
  (nz (d.Ribs.length : Int)).bind fun _ => (geti d.Shares ((w64 ((w64 (rib - g.At)) + (d.Ribs.length : Int))).tmod (d.Ribs.length : Int))).bind fun y10 => some (w64 ((w64 ((w64 (g.Force * lift)) * y10)).tdiv 100))
set_option maxRecDepth 100000 in
set_option maxHeartbeats 40000000 in
theorem c_ref05_Load (n : Nat) (H : Hp) (d : Canopy) (d_v0 : Value) (hd_0 : SL H 7 R_Section d_v0 d.Frame.Sections) (d_v7 : Value) (hd_7 : SL H 2 R_Span d_v7 d.Ribs) (d_v8 : Value) (hd_8 : SL H 1 RInt d_v8 d.Shares) (g : Gust) (lift : Int) (rib : Int) (y : Int) (hF : F_ref05_Load n d g lift rib = some y) : SC Try.prog 39 [.agg [d_v0, .int .i64 d.Frame.Low, .int .i64 d.Frame.High, .int .i64 d.Frame.Ease.Num, .int .i64 d.Frame.Ease.Den, .int .i64 d.Frame.Rod, .int .i64 d.Frame.Case, d_v7, d_v8].toArray, .agg [.int .i64 g.Force, .int .i64 g.At].toArray, .int .i64 lift, .int .i64 rib] (.int .i64 y) H := by
  rw [F_ref05_Load] at hF
  refine SC.of (N := 31) Try.func39 rfl rfl rfl fun w => ?_
  refine JC.seq ?_
  refine JC.region (by rfl) ?_
  intro hQ
  refine JL.box (cs := [d_v0, .int .i64 d.Frame.Low, .int .i64 d.Frame.High, .int .i64 d.Frame.Ease.Num, .int .i64 d.Frame.Ease.Den, .int .i64 d.Frame.Rod, .int .i64 d.Frame.Case, d_v7, d_v8]) rfl .none rfl ?_
  intro b1
  refine JL.box (cs := [.int .i64 g.Force, .int .i64 g.At]) rfl .none rfl ?_
  intro b2
  refine JL.assign .none rfl ?_
  refine JL.done hQ ?_
  refine JQ.go ?_
  refine JC.seq ?_
  refine JC.region (by rfl) ?_
  intro hQ
  refine JL.fieldAddr fo_30_1 rfl .none rfl ?_
  refine JL.loadOwn 1 az_27 rfl rfl rfl .none rfl ?_
  refine JL.lenSL (R := R_Span) ul_27 hd_7 .none rfl ?_
  refine JL.assign .none rfl ?_
  refine JL.done hQ ?_
  refine JQ.go ?_
  refine JC.seq ?_
  refine JC.draw (by rfl) mo_ (by kernel_rfl) ?_
  intro hQ
  refine JL.fieldAddr fo_32_0 rfl .none rfl ?_
  refine JL.loadOwn 0 az_3 rfl rfl rfl .none rfl ?_
  refine JL.move .none rfl ?_
  refine JL.bin rfl rfl rfl .none rfl ?_
  refine JL.fieldAddr fo_30_2 rfl .none rfl ?_
  refine JL.loadOwn 1 az_28 rfl rfl rfl .none rfl ?_
  refine JL.move .none rfl ?_
  refine JL.fieldAddr fo_32_1 rfl .none rfl ?_
  refine JL.loadOwn 0 az_3 rfl rfl rfl .none rfl ?_
  refine JL.bin rfl rfl rfl .none rfl ?_
  refine JL.move .none rfl ?_
  refine JL.bin rfl rfl rfl .none rfl ?_
  refine JL.move .none rfl ?_
  obtain ⟨u9, hu9, hF⟩ := bind_some hF
  refine JL.div rfl rfl (nz_some hu9) rfl .none rfl ?_
  obtain ⟨y10, hy10, hF⟩ := bind_some hF
  refine JL.indexSL (R := RInt) sl_28 hd_8 rfl hy10 .none rfl ?_
  rintro b11 o12 cs13 hc14 - rfl
  refine JL.loadH 0 az_3 rfl hc14 rfl .none rfl ?_
  refine JL.bin rfl rfl rfl .none rfl ?_
  refine JL.div rfl rfl (by decide) rfl .none rfl ?_
  refine JL.assign .none rfl ?_
  refine JL.doneQ hQ ?_
  refine JQ.go ?_
  refine JC.fresh (fun f => f 8 = .int .i64 (w64 ((w64 ((w64 (g.Force * lift)) * y10)).tdiv 100))) rfl ?_
  rintro f hf8
  refine (JC.norm (i := 8) hf8 ?_)
  refine JC.ret ?_
  obtain rfl := Option.some.inj hF
  exact JQ.outS rfl (.tmp .nil) rfl

-- 22 ferrule/ferruleref05.Loads
def F_ref05_Loads_s1 (n : Nat) (d : Canopy) (g : Gust) (y9 : Span) : Int × List Span → Option ((Int × List Span) ⊕ (List Span))
  | (i_144, out_145) => if decide (i_144 < (d.Ribs.length : Int)) = true then ((F_ref05_Load n d g y9.Low i_144).bind fun y152 => (F_ref05_Load n d g y9.High i_144).bind fun y153 => (lim (out_145 ++ [(Span.mk y152 y153)])).bind fun l155 => some (Sum.inl ((w64 (i_144 + 1)), l155))) else (some (Sum.inr out_145))
def F_ref05_Loads (n : Nat) (d : Canopy) (g : Gust) : Option ((List Span) × Int) :=
  (F_ref05_check n d [g]).bind fun y7 => if (y7 != 0) = true then (some (([] : List Span), y7)) else ((F_ref05_lift n d).bind fun y9 => (loopO n (F_ref05_Loads_s1 n d g y9) (0, ([] : List Span))).bind fun out_99 => some (out_99, 0))
set_option maxRecDepth 100000 in
set_option maxHeartbeats 40000000 in
theorem c_ref05_Loads (n : Nat) (H : Hp) (d : Canopy) (d_v0 : Value) (hd_0 : SL H 7 R_Section d_v0 d.Frame.Sections) (d_v7 : Value) (hd_7 : SL H 2 R_Span d_v7 d.Ribs) (d_v8 : Value) (hd_8 : SL H 1 RInt d_v8 d.Shares) (g : Gust) (y : (List Span) × Int) (hF : F_ref05_Loads n d g = some y) : HC Try.prog 22 [.agg [d_v0, .int .i64 d.Frame.Low, .int .i64 d.Frame.High, .int .i64 d.Frame.Ease.Num, .int .i64 d.Frame.Ease.Den, .int .i64 d.Frame.Rod, .int .i64 d.Frame.Case, d_v7, d_v8].toArray, .agg [.int .i64 g.Force, .int .i64 g.At].toArray] H (fun H' v => ∃ ra_v0 : Value, v = .tuple [ra_v0, .int .i64 y.2].toArray ∧ SL H' 2 R_Span ra_v0 y.1) := by
  rw [F_ref05_Loads] at hF
  refine HC.of (N := 43) Try.func22 rfl rfl rfl fun w => ?_
  refine JC.seq ?_
  refine JC.region (by rfl) ?_
  intro hQ
  refine JL.box (cs := [d_v0, .int .i64 d.Frame.Low, .int .i64 d.Frame.High, .int .i64 d.Frame.Ease.Num, .int .i64 d.Frame.Ease.Den, .int .i64 d.Frame.Rod, .int .i64 d.Frame.Case, d_v7, d_v8]) rfl .none rfl ?_
  intro b1
  refine JL.box (cs := [.int .i64 g.Force, .int .i64 g.At]) rfl .none rfl ?_
  intro b2
  refine JL.assign .none rfl ?_
  refine JL.assign .none rfl ?_
  refine JL.done hQ ?_
  refine JQ.go ?_
  refine JC.seq ?_
  refine JC.seq ?_
  refine JC.region (by rfl) ?_
  intro hQ
  refine JL.loadOwn 1 az_30 rfl rfl rfl .none rfl ?_
  refine JL.loadOwn 0 az_32 rfl rfl rfl .none rfl ?_
  refine JL.buildSlice (e := 32) (l := [.int .i64 g.Force, .int .i64 g.At]) (by kernel_rfl) .none rfl ?_
  intro b3
  refine JL.freezeC 0 (l := [.int .i64 g.Force, .int .i64 g.At]) rfl ?_
  intro H4 hs4 hc5
  have hg6 : SL H4 2 R_Gust (.slice (some ⟨b3, 0, none⟩) 1 1) [g] := CH.sl (l := [g]) (CH.cons (cs := [.int .i64 g.Force, .int .i64 g.At]) rfl rfl CH.nil) hc5 ⟨by simp, by simp⟩
  obtain ⟨y7, hy7, hF⟩ := bind_some hF
  refine JL.callS (c_ref05_check n H4 d d_v0 (SL.mono R_Section_mono hs4 hd_0) d_v7 (SL.mono R_Span_mono hs4 hd_7) d_v8 (SL.mono RInt.mono hs4 hd_8) [g] (.slice (some ⟨b3, 0, none⟩) 1 1) hg6 y7 hy7) rfl en_59 .none rfl ?_
  refine JL.assign .none rfl ?_
  refine JL.done hQ ?_
  refine JQ.go ?_
  refine JC.seq ?_
  refine JC.region (by rfl) ?_
  intro hQ
  refine JL.move .none rfl ?_
  refine JL.bin rfl rfl rfl .none rfl ?_
  refine JL.done hQ ?_
  refine JQ.go ?_
  rcases ite_some hF with ⟨hc8, hF⟩ | ⟨hc8, hF⟩
  · refine JC.cond_t (b := (y7 != 0)) rfl hc8 ?_
    refine JC.seq ?_
    refine JC.region (by rfl) ?_
    intro hQ
    refine JL.move .none rfl ?_
    refine JL.assign .none rfl ?_
    refine JL.assign .none rfl ?_
    refine JL.done hQ ?_
    refine JQ.go ?_
    refine JC.fresh (fun f => f 4 = .slice none 0 0 ∧ f 5 = .int .i64 y7) ⟨rfl, rfl⟩ ?_
    rintro f ⟨hf4, hf5⟩
    refine (JC.norm (i := 4) hf4 (JC.norm (i := 5) hf5 ?_))
    refine JC.ret ?_
    refine JQ.ret_then ?_
    obtain rfl := Option.some.inj hF
    exact JQ.outH rfl (.tmp (.tmp .nil)) ⟨(.slice none 0 0), rfl, SL.nil⟩
  · refine JC.cond_f (b := (y7 != 0)) rfl hc8 ?_
    refine JC.skip ?_
    refine JQ.go ?_
    refine JC.seq ?_
    refine JC.region (by rfl) ?_
    intro hQ
    refine JL.assign .none rfl ?_
    refine JL.done hQ ?_
    refine JQ.go ?_
    refine JC.fresh (fun f => f 2 = .pointer (some ⟨b1, 0, none⟩) ∧ f 3 = .pointer (some ⟨b2, 0, none⟩) ∧ f 4 = .slice none 0 0 ∧ f 5 = .int .i64 0 ∧ f 7 = .slice none 0 0) ⟨rfl, rfl, rfl, rfl, rfl⟩ ?_
    rintro f ⟨hf2, hf3, hf4, hf5, hf7⟩
    refine (JC.norm (i := 2) hf2 (JC.norm (i := 3) hf3 (JC.norm (i := 4) hf4 (JC.norm (i := 5) hf5 (JC.norm (i := 7) hf7 ?_)))))
    refine JC.seq ?_
    refine JC.region (by rfl) ?_
    intro hQ
    refine JL.loadOwn 1 az_30 rfl rfl rfl .none rfl ?_
    obtain ⟨y9, hy9, hF⟩ := bind_some hF
    refine JL.callS (c_ref05_lift n H4 d d_v0 (SL.mono R_Section_mono hs4 hd_0) d_v7 (SL.mono R_Span_mono hs4 hd_7) d_v8 (SL.mono RInt.mono hs4 hd_8) y9 hy9) rfl en_57 .none rfl ?_
    refine JL.alloc ze_38 .none rfl ?_
    intro b10
    refine JL.storeOwn 0 (cs := [.int .i64 y9.Low, .int .i64 y9.High]) az_38 rfl rfl rfl (one_cons rfl (one_cons rfl one_nil)) rfl rfl .none ?_
    refine JL.done hQ ?_
    refine JQ.go ?_
    refine JC.seq ?_
    refine JC.seq ?_
    refine JC.region (by rfl) ?_
    intro hQ
    refine JL.assign .none rfl ?_
    refine JL.done hQ ?_
    refine JQ.go ?_
    refine JC.newNil (e := 38) (sz := 2) ?_
    obtain ⟨r101, hlr101, hKr101⟩ := bind_some hF
    refine JC.join (fun (out_99 : List Span) H100 f bs gs => ∃ (vout_99 : Value) (xsout_99 : List Value), f 7 = vout_99 ∧ bs = [] ∧ gs = [⟨vout_99, 38, 2, out_99.length, xsout_99⟩] ∧ CH H100 2 R_Span xsout_99 out_99 ∧ HSub H4 H100 ∧ out_99 = r101) ?_ ?_
    · skip
      refine JC.block ?_
      refine JC.loop hlr101 (fun (x : Int × List Span) H146 f bs gs => match x with | (i_144, out_145) => ∃ (vout_145 : Value) (xsout_145 : List Value), f 2 = .pointer (some ⟨b1, 0, none⟩) ∧ f 3 = .pointer (some ⟨b2, 0, none⟩) ∧ f 7 = vout_145 ∧ f 8 = .pointer (some ⟨b10, 0, none⟩) ∧ f 9 = .int .i64 i_144 ∧ bs = [(b10, .cells [.int .i64 y9.Low, .int .i64 y9.High].toArray 38), (b2, .cells [.int .i64 g.Force, .int .i64 g.At].toArray 32), (b1, .cells [d_v0, .int .i64 d.Frame.Low, .int .i64 d.Frame.High, .int .i64 d.Frame.Ease.Num, .int .i64 d.Frame.Ease.Den, .int .i64 d.Frame.Rod, .int .i64 d.Frame.Case, d_v7, d_v8].toArray 30)] ∧ gs = [⟨vout_145, 38, 2, out_145.length, xsout_145⟩] ∧ CH H146 2 R_Span xsout_145 out_145 ∧ HSub H4 H146) ⟨(.slice none 0 0), [], rfl, rfl, rfl, rfl, rfl, rfl, rfl, CH.nil, (HSub.refl _)⟩ ?_
      rintro ⟨i_144, out_145⟩ x148 H146 f bs gs ⟨vout_145, xsout_145, hf2, hf3, hf7, hf8, hf9, rfl, rfl, hout_145, hs146⟩ hF hr147
      rw [F_ref05_Loads_s1] at hF
      refine (JC.norm (i := 2) hf2 (JC.norm (i := 3) hf3 (JC.norm (i := 7) hf7 (JC.norm (i := 8) hf8 (JC.norm (i := 9) hf9 ?_)))))
      refine JC.seq ?_
      refine JC.seq ?_
      refine JC.region (by rfl) ?_
      intro hQ
      refine JL.move .none rfl ?_
      refine JL.fieldAddr fo_30_1 rfl .none rfl ?_
      refine JL.loadOwn 2 az_27 rfl rfl rfl .none rfl ?_
      refine JL.lenSL (R := R_Span) ul_27 (SL.mono R_Span_mono (HSub.trans hs4 hs146) hd_7) .none rfl ?_
      refine JL.bin rfl rfl rfl .none rfl ?_
      refine JL.done hQ ?_
      refine JQ.go ?_
      rcases ite_some hF with ⟨hc149, hF⟩ | ⟨hc149, hF⟩
      · refine JC.cond_t (b := decide (i_144 < (d.Ribs.length : Int))) rfl hc149 ?_
        refine JC.skip ?_
        refine JQ.go ?_
        refine JC.seq ?_
        refine JC.block ?_
        obtain ⟨y152, hy152, hF⟩ := bind_some hF
        obtain ⟨y153, hy153, hF⟩ := bind_some hF
        obtain ⟨l155, hl155, hF⟩ := bind_some hF
        refine JC.mixed 17 17 #[false, false, false, false, false, false, false, false, false, false, false, false, false, false, false, false, false] [(b10, .cells [.int .i64 y9.Low, .int .i64 y9.High].toArray 38), (b2, .cells [.int .i64 g.Force, .int .i64 g.At].toArray 32), (b1, .cells [d_v0, .int .i64 d.Frame.Low, .int .i64 d.Frame.High, .int .i64 d.Frame.Ease.Num, .int .i64 d.Frame.Ease.Den, .int .i64 d.Frame.Rod, .int .i64 d.Frame.Case, d_v7, d_v8].toArray 30)] (by rfl) mo_ (by kernel_rfl) (by kernel_rfl) ?_
        intro hQ hE
        refine JA.take 0 (listed' := #[true, false, false, false, false, false, false, false, false, false, false, false, false, false, false, false, false]) hQ rfl (by kernel_rfl) (by kernel_rfl) (by kernel_rfl) (by kernel_rfl) (by kernel_rfl) hE (HSub.refl _) (.cons_cons _ (.cons_cons _ (.cons_cons _ (List.nil_sublist _)))) ?_
        refine JL.move .none rfl ?_
        refine JA.cont ?_
        refine JA.take 1 (listed' := #[true, true, false, false, false, false, false, false, false, false, false, false, false, false, false, false, false]) hQ rfl (by kernel_rfl) (by kernel_rfl) (by kernel_rfl) (by kernel_rfl) (by kernel_rfl) hE (HSub.refl _) (.cons_cons _ (.cons_cons _ (.cons_cons _ (List.nil_sublist _)))) ?_
        refine JL.loadOwn 2 az_30 rfl rfl rfl .none rfl ?_
        refine JA.cont ?_
        refine JA.take 2 (listed' := #[true, true, true, false, false, false, false, false, false, false, false, false, false, false, false, false, false]) hQ rfl (by kernel_rfl) (by kernel_rfl) (by kernel_rfl) (by kernel_rfl) (by kernel_rfl) hE (HSub.refl _) (.cons_cons _ (.cons_cons _ (.cons_cons _ (List.nil_sublist _)))) ?_
        refine JL.loadOwn 1 az_32 rfl rfl rfl .none rfl ?_
        refine JA.cont ?_
        refine JA.take 3 (listed' := #[true, true, true, true, false, false, false, false, false, false, false, false, false, false, false, false, false]) hQ rfl (by kernel_rfl) (by kernel_rfl) (by kernel_rfl) (by kernel_rfl) (by kernel_rfl) hE (HSub.refl _) (.cons_cons _ (.cons_cons _ (.cons_cons _ (List.nil_sublist _)))) ?_
        refine JL.fieldAddr fo_38_0 rfl .none rfl ?_
        refine JA.cont ?_
        refine JA.take 4 (listed' := #[true, true, true, true, true, false, false, false, false, false, false, false, false, false, false, false, false]) hQ rfl (by kernel_rfl) (by kernel_rfl) (by kernel_rfl) (by kernel_rfl) (by kernel_rfl) hE (HSub.refl _) (.cons_cons _ (.cons_cons _ (.cons_cons _ (List.nil_sublist _)))) ?_
        refine JL.loadOwn 0 az_3 rfl rfl rfl .none rfl ?_
        refine JA.cont ?_
        refine JA.take 5 (listed' := #[true, true, true, true, true, true, false, false, false, false, false, false, false, false, false, false, false]) hQ rfl (by kernel_rfl) (by kernel_rfl) (by kernel_rfl) (by kernel_rfl) (by kernel_rfl) hE (HSub.refl _) (.cons_cons _ (.cons_cons _ (.cons_cons _ (List.nil_sublist _)))) ?_
        refine JL.move .none rfl ?_
        refine JA.cont ?_
        refine JA.take 7 (listed' := #[true, true, true, true, true, true, false, true, false, false, false, false, false, false, false, false, false]) hQ rfl (by kernel_rfl) (by kernel_rfl) (by kernel_rfl) (by kernel_rfl) (by kernel_rfl) hE (HSub.refl _) (.cons_cons _ (.cons_cons _ (.cons_cons _ (List.nil_sublist _)))) ?_
        refine JL.loadOwn 2 az_30 rfl rfl rfl .none rfl ?_
        refine JA.cont ?_
        refine JA.take 8 (listed' := #[true, true, true, true, true, true, false, true, true, false, false, false, false, false, false, false, false]) hQ rfl (by kernel_rfl) (by kernel_rfl) (by kernel_rfl) (by kernel_rfl) (by kernel_rfl) hE (HSub.refl _) (.cons_cons _ (.cons_cons _ (.cons_cons _ (List.nil_sublist _)))) ?_
        refine JL.loadOwn 1 az_32 rfl rfl rfl .none rfl ?_
        refine JA.cont ?_
        refine JA.take 9 (listed' := #[true, true, true, true, true, true, false, true, true, true, false, false, false, false, false, false, false]) hQ rfl (by kernel_rfl) (by kernel_rfl) (by kernel_rfl) (by kernel_rfl) (by kernel_rfl) hE (HSub.refl _) (.cons_cons _ (.cons_cons _ (.cons_cons _ (List.nil_sublist _)))) ?_
        refine JL.fieldAddr fo_38_1 rfl .none rfl ?_
        refine JA.cont ?_
        refine JA.take 10 (listed' := #[true, true, true, true, true, true, false, true, true, true, true, false, false, false, false, false, false]) hQ rfl (by kernel_rfl) (by kernel_rfl) (by kernel_rfl) (by kernel_rfl) (by kernel_rfl) hE (HSub.refl _) (.cons_cons _ (.cons_cons _ (.cons_cons _ (List.nil_sublist _)))) ?_
        refine JL.loadOwn 0 az_3 rfl rfl rfl .none rfl ?_
        refine JA.cont ?_
        refine JA.take 11 (listed' := #[true, true, true, true, true, true, false, true, true, true, true, true, false, false, false, false, false]) hQ rfl (by kernel_rfl) (by kernel_rfl) (by kernel_rfl) (by kernel_rfl) (by kernel_rfl) hE (HSub.refl _) (.cons_cons _ (.cons_cons _ (.cons_cons _ (List.nil_sublist _)))) ?_
        refine JL.move .none rfl ?_
        refine JA.cont ?_
        refine JA.many [6] (by kernel_rfl) (by simp) (all_one ⟨_, #[true, true, true, true, true, true, true, true, true, true, true, true, false, false, false, false, false], rfl, (by kernel_rfl), ?_⟩)
        refine JL.callS (c_ref05_Load n H146 d d_v0 (SL.mono R_Section_mono (HSub.trans hs4 hs146) hd_0) d_v7 (SL.mono R_Span_mono (HSub.trans hs4 hs146) hd_7) d_v8 (SL.mono RInt.mono (HSub.trans hs4 hs146) hd_8) g y9.Low i_144 y152 hy152) rfl en_39 .none rfl ?_
        refine JA.after hE (HSub.refl _) (.cons_cons _ (.cons_cons _ (.cons_cons _ (List.nil_sublist _)))) ?_
        refine JA.many [12] (by kernel_rfl) (by simp) (all_one ⟨_, #[true, true, true, true, true, true, true, true, true, true, true, true, true, false, false, false, false], rfl, (by kernel_rfl), ?_⟩)
        refine JL.callS (c_ref05_Load n H146 d d_v0 (SL.mono R_Section_mono (HSub.trans hs4 hs146) hd_0) d_v7 (SL.mono R_Span_mono (HSub.trans hs4 hs146) hd_7) d_v8 (SL.mono RInt.mono (HSub.trans hs4 hs146) hd_8) g y9.High i_144 y153 hy153) rfl en_39 .none rfl ?_
        refine JA.after hE (HSub.refl _) (.cons_cons _ (.cons_cons _ (.cons_cons _ (List.nil_sublist _)))) ?_
        refine JA.take 13 (listed' := #[true, true, true, true, true, true, true, true, true, true, true, true, true, true, false, false, false]) hQ rfl (by kernel_rfl) (by kernel_rfl) (by kernel_rfl) (by kernel_rfl) (by kernel_rfl) hE (HSub.refl _) (.cons_cons _ (.cons_cons _ (.cons_cons _ (List.nil_sublist _)))) ?_
        refine JL.build (l := [.int .i64 y152, .int .i64 y153]) (by kernel_rfl) .none rfl ?_
        refine JA.cont ?_
        refine JA.many [14] (by kernel_rfl) (by simp) (all_one ⟨_, #[true, true, true, true, true, true, true, true, true, true, true, true, true, true, true, false, false], rfl, (by kernel_rfl), ?_⟩)
        refine JL.buildSlice (e := 38) (l := [.int .i64 y152, .int .i64 y153]) (by kernel_rfl) .none rfl ?_
        intro b163
        refine JA.after hE (HSub.refl _) (.cons _ (.cons_cons _ (.cons_cons _ (.cons_cons _ (List.nil_sublist _))))) ?_
        refine JA.many [15] (by kernel_rfl) (by simp) (all_one ⟨_, #[true, true, true, true, true, true, true, true, true, true, true, true, true, true, true, true, false], rfl, (by kernel_rfl), ?_⟩)
        refine JL.appO (R := R_Span) 0 0 (l := out_145) (m := [(Span.mk y152 y153)]) ap_27 rfl ⟨rfl, rfl⟩ rfl hout_145 rfl rfl rfl (CH.cons (cs := [.int .i64 y152, .int .i64 y153]) rfl rfl CH.nil) rfl (one_cons rfl (one_cons rfl one_nil)) hl155 .none rfl ?_
        intro v164 xs165 hch166
        refine JA.after hE (HSub.refl _) (.cons _ (.cons_cons _ (.cons_cons _ (.cons_cons _ (List.nil_sublist _))))) ?_
        refine JA.take 16 (listed' := #[true, true, true, true, true, true, true, true, true, true, true, true, true, true, true, true, true]) hQ rfl (by kernel_rfl) (by kernel_rfl) (by kernel_rfl) (by kernel_rfl) (by kernel_rfl) hE (HSub.refl _) (.cons _ (.cons_cons _ (.cons_cons _ (.cons_cons _ (List.nil_sublist _))))) ?_
        refine JL.assign .none rfl ?_
        refine JA.cont ?_
        refine JA.done hQ (by kernel_rfl) ?_
        refine JQ.normal_block ?_
        refine JQ.go ?_
        refine JC.fresh (fun f => f 2 = .pointer (some ⟨b1, 0, none⟩) ∧ f 3 = .pointer (some ⟨b2, 0, none⟩) ∧ f 7 = v164 ∧ f 8 = .pointer (some ⟨b10, 0, none⟩) ∧ f 9 = .int .i64 i_144) ⟨rfl, rfl, rfl, rfl, rfl⟩ ?_
        rintro f ⟨hf2, hf3, hf7, hf8, hf9⟩
        refine (JC.norm (i := 2) hf2 (JC.norm (i := 3) hf3 (JC.norm (i := 7) hf7 (JC.norm (i := 8) hf8 (JC.norm (i := 9) hf9 ?_)))))
        refine JC.region (by rfl) ?_
        intro hQ
        refine JL.move .none rfl ?_
        refine JL.bin rfl rfl rfl .none rfl ?_
        refine JL.assign .none rfl ?_
        refine JL.done hQ ?_
        obtain rfl := Option.some.inj hF
        refine JQ.mask [false, true, true, true] [true] ?_
        exact JQ.next rfl ⟨v164, xs165, rfl, rfl, rfl, rfl, rfl, rfl, rfl, hch166, hs146⟩
      · refine JC.cond_f (b := decide (i_144 < (d.Ribs.length : Int))) rfl hc149 ?_
        refine JC.exit ?_
        refine JQ.exit_then ?_
        refine JQ.exit_then ?_
        refine JQ.exit_block ?_
        obtain rfl := Option.some.inj hF
        have ehr147 := hr147 _ rfl
        subst ehr147
        refine JQ.mask [false, false, false] [true] ?_
        exact JQ.join out_145 ⟨vout_145, xsout_145, rfl, rfl, rfl, hout_145, hs146, rfl⟩
    · rintro out_99 H100 f bs gs ⟨vout_99, xsout_99, hf7, rfl, rfl, hout_99, hs100, rfl⟩
      have hF := hKr101
      try dsimp only at hF
      refine (JQ.norm (i := 7) hf7 ?_)
      refine JQ.go ?_
      refine JC.seq ?_
      refine JC.region (by rfl) ?_
      intro hQ
      refine JL.move .none rfl ?_
      refine JL.assign .none rfl ?_
      refine JL.assign .none rfl ?_
      refine JL.done hQ ?_
      refine JQ.go ?_
      refine JC.ret ?_
      refine JQ.freezeG 0 (R := R_Span) rfl R_Span_mono hout_99 rfl ?_
      intro H167 hs167 hg168
      obtain rfl := Option.some.inj hF
      exact JQ.outH rfl (.tmp (.tmp .nil)) ⟨vout_99, rfl, hg168⟩

end Go.Proofs.Ytcpnnfdhafbemaa
