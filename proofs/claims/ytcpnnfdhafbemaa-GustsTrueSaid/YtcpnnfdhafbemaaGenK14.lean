/-
  Printed by a program: functions of the translation as plain functions, and their contracts.
-/
import Derived.Test.YtcpnnfdhafbemaaGenK13
namespace Go.Proofs.Ytcpnnfdhafbemaa
open Go Go.RowKit Go.Dec
set_option linter.unusedVariables false
-- 35 ferrule/ferruleref05.Weak
def F_ref05_Weak_s2 (n : Nat) (d : Canopy) (class_ : List Gust) (y4 : Span) (i_1782 : Int) : Bool × Int → Option ((Bool × Int) ⊕ Bool)
  | (weak_2007, k_2008) => if decide (k_2008 < (class_.length : Int)) = true then ((if weak_2007 = true then (some true) else ((geti class_ k_2008).bind fun y2052 => (F_ref05_Load n d y2052 y4.High i_1782).bind fun y2057 => (geti d.Ribs i_1782).bind fun y2058 => some (decide (y2058.Low < y2057))) : Option Bool).bind fun p2049 => some (Sum.inl (p2049, (w64 (k_2008 + 1))))) else (some (Sum.inr weak_2007))
def F_ref05_Weak_s1 (n : Nat) (d : Canopy) (class_ : List Gust) (y4 : Span) : Int × List Int → Option ((Int × List Int) ⊕ (List Int))
  | (i_1782, out_1783) => if decide (i_1782 < (d.Ribs.length : Int)) = true then ((loopO n (F_ref05_Weak_s2 n d class_ y4 i_1782) (false, 0)).bind fun weak_1924 => (if weak_1924 = true then ((lim (out_1783 ++ [i_1782])).bind fun l2074 => some l2074) else (some out_1783)).bind fun out_2069 => some (Sum.inl ((w64 (i_1782 + 1)), out_2069))) else (some (Sum.inr out_1783))
def F_ref05_Weak (n : Nat) (d : Canopy) (class_ : List Gust) : Option ((List Int) × Int) :=
  (F_ref05_check n d class_).bind fun y2 => if (y2 != 0) = true then (some (([] : List Int), y2)) else ((F_ref05_lift n d).bind fun y4 => (loopO n (F_ref05_Weak_s1 n d class_ y4) (0, ([] : List Int))).bind fun out_1191 => some (out_1191, 0))
set_option maxRecDepth 100000 in
set_option maxHeartbeats 40000000 in
theorem c_ref05_Weak (n : Nat) (H : Hp) (d : Canopy) (d_v0 : Value) (hd_0 : SL H 7 R_Section d_v0 d.Frame.Sections) (d_v7 : Value) (hd_7 : SL H 2 R_Span d_v7 d.Ribs) (d_v8 : Value) (hd_8 : SL H 1 RInt d_v8 d.Shares) (class_ : List Gust) (class__v0 : Value) (hclass__0 : SL H 2 R_Gust class__v0 class_) (y : (List Int) × Int) (hF : F_ref05_Weak n d class_ = some y) : HC Try.prog 35 [.agg [d_v0, .int .i64 d.Frame.Low, .int .i64 d.Frame.High, .int .i64 d.Frame.Ease.Num, .int .i64 d.Frame.Ease.Den, .int .i64 d.Frame.Rod, .int .i64 d.Frame.Case, d_v7, d_v8].toArray, class__v0] H (fun H' v => ∃ ra_v0 : Value, v = .tuple [ra_v0, .int .i64 y.2].toArray ∧ SL H' 1 RInt ra_v0 y.1) := by
  rw [F_ref05_Weak] at hF
  refine HC.of (N := 58) Try.func35 rfl rfl rfl fun w => ?_
  refine JC.seq ?_
  refine JC.region (by rfl) ?_
  intro hQ
  refine JL.box (cs := [d_v0, .int .i64 d.Frame.Low, .int .i64 d.Frame.High, .int .i64 d.Frame.Ease.Num, .int .i64 d.Frame.Ease.Den, .int .i64 d.Frame.Rod, .int .i64 d.Frame.Case, d_v7, d_v8]) rfl .none rfl ?_
  intro b1
  refine JL.assign .none rfl ?_
  refine JL.assign .none rfl ?_
  refine JL.done hQ ?_
  refine JQ.go ?_
  refine JC.seq ?_
  refine JC.seq ?_
  refine JC.region (by rfl) ?_
  intro hQ
  refine JL.loadOwn 0 az_30 rfl rfl rfl .none rfl ?_
  refine JL.move .none rfl ?_
  obtain ⟨y2, hy2, hF⟩ := bind_some hF
  refine JL.callS (c_ref05_check n H d d_v0 hd_0 d_v7 hd_7 d_v8 hd_8 class_ class__v0 hclass__0 y2 hy2) rfl en_59 .none rfl ?_
  refine JL.assign .none rfl ?_
  refine JL.done hQ ?_
  refine JQ.go ?_
  refine JC.seq ?_
  refine JC.region (by rfl) ?_
  intro hQ
  refine JL.move .none rfl ?_
  refine JL.bin rfl rfl rfl .none rfl ?_
  refine JL.done hQ ?_
  refine JQ.go ?_
  rcases ite_some hF with ⟨hc3, hF⟩ | ⟨hc3, hF⟩
  · refine JC.cond_t (b := (y2 != 0)) rfl hc3 ?_
    refine JC.seq ?_
    refine JC.region (by rfl) ?_
    intro hQ
    refine JL.move .none rfl ?_
    refine JL.assign .none rfl ?_
    refine JL.assign .none rfl ?_
    refine JL.done hQ ?_
    refine JQ.go ?_
    refine JC.ret ?_
    refine JQ.ret_then ?_
    obtain rfl := Option.some.inj hF
    exact JQ.outH rfl (.tmp (.tmp .nil)) ⟨(.slice none 0 0), rfl, SL.nil⟩
  · refine JC.cond_f (b := (y2 != 0)) rfl hc3 ?_
    refine JC.skip ?_
    refine JQ.go ?_
    refine JC.seq ?_
    refine JC.region (by rfl) ?_
    intro hQ
    refine JL.loadOwn 0 az_30 rfl rfl rfl .none rfl ?_
    obtain ⟨y4, hy4, hF⟩ := bind_some hF
    refine JL.callS (c_ref05_lift n H d d_v0 hd_0 d_v7 hd_7 d_v8 hd_8 y4 hy4) rfl en_57 .none rfl ?_
    refine JL.alloc ze_38 .none rfl ?_
    intro b5
    refine JL.storeOwn 0 (cs := [.int .i64 y4.Low, .int .i64 y4.High]) az_38 rfl rfl rfl (one_cons rfl (one_cons rfl one_nil)) rfl rfl .none ?_
    refine JL.done hQ ?_
    refine JQ.go ?_
    refine JC.fresh (fun f => f 1 = class__v0 ∧ f 2 = .pointer (some ⟨b1, 0, none⟩) ∧ f 4 = .slice none 0 0 ∧ f 5 = .int .i64 0 ∧ f 7 = .pointer (some ⟨b5, 0, none⟩)) ⟨rfl, rfl, rfl, rfl, rfl⟩ ?_
    rintro f ⟨hf1, hf2, hf4, hf5, hf7⟩
    refine (JC.norm (i := 1) hf1 (JC.norm (i := 2) hf2 (JC.norm (i := 4) hf4 (JC.norm (i := 5) hf5 (JC.norm (i := 7) hf7 ?_)))))
    refine JC.seq ?_
    refine JC.region (by rfl) ?_
    intro hQ
    refine JL.assign .none rfl ?_
    refine JL.done hQ ?_
    refine JQ.go ?_
    refine JC.seq ?_
    refine JC.seq ?_
    refine JC.region (by rfl) ?_
    intro hQ
    refine JL.assign .none rfl ?_
    refine JL.done hQ ?_
    refine JQ.go ?_
    refine JC.newNil (e := 3) (sz := 1) ?_
    obtain ⟨r1193, hlr1193, hKr1193⟩ := bind_some hF
    refine JC.join (fun (out_1191 : List Int) H1192 f bs gs => ∃ (vout_1191 : Value) (xsout_1191 : List Value), f 8 = vout_1191 ∧ bs = [] ∧ gs = [⟨vout_1191, 3, 1, out_1191.length, xsout_1191⟩] ∧ CH H1192 1 RInt xsout_1191 out_1191 ∧ HSub H H1192 ∧ out_1191 = r1193) ?_ ?_
    · skip
      refine JC.block ?_
      refine JC.loop hlr1193 (fun (x : Int × List Int) H1784 f bs gs => match x with | (i_1782, out_1783) => ∃ (vout_1783 : Value) (xsout_1783 : List Value), f 1 = class__v0 ∧ f 2 = .pointer (some ⟨b1, 0, none⟩) ∧ f 7 = .pointer (some ⟨b5, 0, none⟩) ∧ f 8 = vout_1783 ∧ f 9 = .int .i64 i_1782 ∧ bs = [(b5, .cells [.int .i64 y4.Low, .int .i64 y4.High].toArray 38), (b1, .cells [d_v0, .int .i64 d.Frame.Low, .int .i64 d.Frame.High, .int .i64 d.Frame.Ease.Num, .int .i64 d.Frame.Ease.Den, .int .i64 d.Frame.Rod, .int .i64 d.Frame.Case, d_v7, d_v8].toArray 30)] ∧ gs = [⟨vout_1783, 3, 1, out_1783.length, xsout_1783⟩] ∧ CH H1784 1 RInt xsout_1783 out_1783 ∧ HSub H H1784) ⟨(.slice none 0 0), [], rfl, rfl, rfl, rfl, rfl, rfl, rfl, CH.nil, (HSub.refl _)⟩ ?_
      rintro ⟨i_1782, out_1783⟩ x1786 H1784 f bs gs ⟨vout_1783, xsout_1783, hf1, hf2, hf7, hf8, hf9, rfl, rfl, hout_1783, hs1784⟩ hF hr1785
      rw [F_ref05_Weak_s1] at hF
      refine (JC.norm (i := 1) hf1 (JC.norm (i := 2) hf2 (JC.norm (i := 7) hf7 (JC.norm (i := 8) hf8 (JC.norm (i := 9) hf9 ?_)))))
      refine JC.seq ?_
      refine JC.seq ?_
      refine JC.region (by rfl) ?_
      intro hQ
      refine JL.move .none rfl ?_
      refine JL.fieldAddr fo_30_1 rfl .none rfl ?_
      refine JL.loadOwn 1 az_27 rfl rfl rfl .none rfl ?_
      refine JL.lenSL (R := R_Span) ul_27 (SL.mono R_Span_mono hs1784 hd_7) .none rfl ?_
      refine JL.bin rfl rfl rfl .none rfl ?_
      refine JL.done hQ ?_
      refine JQ.go ?_
      rcases ite_some hF with ⟨hc1787, hF⟩ | ⟨hc1787, hF⟩
      · refine JC.cond_t (b := decide (i_1782 < (d.Ribs.length : Int))) rfl hc1787 ?_
        refine JC.skip ?_
        refine JQ.go ?_
        refine JC.seq ?_
        refine JC.block ?_
        refine JC.seq ?_
        refine JC.region (by rfl) ?_
        intro hQ
        refine JL.assign .none rfl ?_
        refine JL.done hQ ?_
        refine JQ.go ?_
        refine JC.seq ?_
        refine JC.seq ?_
        refine JC.region (by rfl) ?_
        intro hQ
        refine JL.assign .none rfl ?_
        refine JL.done hQ ?_
        refine JQ.go ?_
        obtain ⟨r1926, hlr1926, hKr1926⟩ := bind_some hF
        refine JC.join (fun (weak_1924 : Bool) H1925 f bs gs => f 1 = class__v0 ∧ f 2 = .pointer (some ⟨b1, 0, none⟩) ∧ f 7 = .pointer (some ⟨b5, 0, none⟩) ∧ f 8 = vout_1783 ∧ f 9 = .int .i64 i_1782 ∧ f 10 = .bool weak_1924 ∧ bs = [(b5, .cells [.int .i64 y4.Low, .int .i64 y4.High].toArray 38), (b1, .cells [d_v0, .int .i64 d.Frame.Low, .int .i64 d.Frame.High, .int .i64 d.Frame.Ease.Num, .int .i64 d.Frame.Ease.Den, .int .i64 d.Frame.Rod, .int .i64 d.Frame.Case, d_v7, d_v8].toArray 30)] ∧ gs = [⟨vout_1783, 3, 1, out_1783.length, xsout_1783⟩] ∧ HSub H1784 H1925 ∧ weak_1924 = r1926) ?_ ?_
        · skip
          refine JC.block ?_
          refine JC.loop hlr1926 (fun (x : Bool × Int) H2009 f bs gs => match x with | (weak_2007, k_2008) => f 1 = class__v0 ∧ f 2 = .pointer (some ⟨b1, 0, none⟩) ∧ f 7 = .pointer (some ⟨b5, 0, none⟩) ∧ f 8 = vout_1783 ∧ f 9 = .int .i64 i_1782 ∧ f 10 = .bool weak_2007 ∧ f 11 = .int .i64 k_2008 ∧ bs = [(b5, .cells [.int .i64 y4.Low, .int .i64 y4.High].toArray 38), (b1, .cells [d_v0, .int .i64 d.Frame.Low, .int .i64 d.Frame.High, .int .i64 d.Frame.Ease.Num, .int .i64 d.Frame.Ease.Den, .int .i64 d.Frame.Rod, .int .i64 d.Frame.Case, d_v7, d_v8].toArray 30)] ∧ gs = [⟨vout_1783, 3, 1, out_1783.length, xsout_1783⟩] ∧ HSub H1784 H2009) ⟨rfl, rfl, rfl, rfl, rfl, rfl, rfl, rfl, rfl, (HSub.refl _)⟩ ?_
          rintro ⟨weak_2007, k_2008⟩ x2011 H2009 f bs gs ⟨hf1, hf2, hf7, hf8, hf9, hf10, hf11, rfl, rfl, hs2009⟩ hF hr2010
          rw [F_ref05_Weak_s2] at hF
          refine (JC.norm (i := 1) hf1 (JC.norm (i := 2) hf2 (JC.norm (i := 7) hf7 (JC.norm (i := 8) hf8 (JC.norm (i := 9) hf9 (JC.norm (i := 10) hf10 (JC.norm (i := 11) hf11 ?_)))))))
          refine JC.seq ?_
          refine JC.seq ?_
          refine JC.region (by rfl) ?_
          intro hQ
          refine JL.move .none rfl ?_
          refine JL.move .none rfl ?_
          refine JL.lenSL (R := R_Gust) ul_34 (SL.mono R_Gust_mono (HSub.trans hs1784 hs2009) hclass__0) .none rfl ?_
          refine JL.bin rfl rfl rfl .none rfl ?_
          refine JL.done hQ ?_
          refine JQ.go ?_
          rcases ite_some hF with ⟨hc2012, hF⟩ | ⟨hc2012, hF⟩
          · refine JC.cond_t (b := decide (k_2008 < (class_.length : Int))) rfl hc2012 ?_
            refine JC.skip ?_
            refine JQ.go ?_
            refine JC.seq ?_
            refine JC.block ?_
            refine JC.draw (by rfl) mo_ (by kernel_rfl) ?_
            intro hQ
            refine JL.move .none rfl ?_
            refine JL.move .none rfl ?_
            obtain ⟨p2049, hp2049, hF⟩ := bind_some hF
            refine JL.cut 17 (fun f => f 1 = class__v0 ∧ f 2 = .pointer (some ⟨b1, 0, none⟩) ∧ f 7 = .pointer (some ⟨b5, 0, none⟩) ∧ f 8 = vout_1783 ∧ f 9 = .int .i64 i_1782 ∧ f 11 = .int .i64 k_2008 ∧ f 51 = .bool p2049) ?_ ?_
            · intro hJ2050
              rcases ite_some hp2049 with ⟨hc2051, hF⟩ | ⟨hc2051, hF⟩
              · skip
                refine JL.skip (.bool rfl rfl rfl hc2051) rfl ?_
                refine JL.skip (.bool rfl rfl rfl hc2051) rfl ?_
                refine JL.skip (.bool rfl rfl rfl hc2051) rfl ?_
                refine JL.skip (.bool rfl rfl rfl hc2051) rfl ?_
                refine JL.skip (.bool rfl rfl rfl hc2051) rfl ?_
                refine JL.skip (.bool rfl rfl rfl hc2051) rfl ?_
                refine JL.skip (.bool rfl rfl rfl hc2051) rfl ?_
                refine JL.skip (.bool rfl rfl rfl hc2051) rfl ?_
                refine JL.skip (.bool rfl rfl rfl hc2051) rfl ?_
                refine JL.skip (.bool rfl rfl rfl hc2051) rfl ?_
                refine JL.skip (.bool rfl rfl rfl hc2051) rfl ?_
                refine JL.skip (.bool rfl rfl rfl hc2051) rfl ?_
                refine JL.skip (.bool rfl rfl rfl hc2051) rfl ?_
                refine JL.skip (.bool rfl rfl rfl hc2051) rfl ?_
                refine JL.skip (.bool rfl rfl rfl hc2051) rfl ?_
                refine JL.skip (.bool rfl rfl rfl hc2051) rfl ?_
                refine JL.pick_t (b := weak_2007) rfl hc2051 .none rfl ?_
                obtain rfl := Option.some.inj hF
                exact hJ2050 _ ⟨rfl, rfl, rfl, rfl, rfl, rfl, rfl⟩
              · skip
                refine JL.loadOwn 1 az_30 rfl rfl rfl (.some rfl rfl rfl hc2051) rfl ?_
                refine JL.move (.some rfl rfl rfl hc2051) rfl ?_
                refine JL.move (.some rfl rfl rfl hc2051) rfl ?_
                obtain ⟨y2052, hy2052, hF⟩ := bind_some hF
                refine JL.indexSL (R := R_Gust) sl_34 (SL.mono R_Gust_mono (HSub.trans hs1784 hs2009) hclass__0) rfl hy2052 (.some rfl rfl rfl hc2051) rfl ?_
                rintro b2053 o2054 cs2055 hc2056 - rfl
                refine JL.loadH 0 az_32 rfl hc2056 rfl (.some rfl rfl rfl hc2051) rfl ?_
                refine JL.fieldAddr fo_38_1 rfl (.some rfl rfl rfl hc2051) rfl ?_
                refine JL.loadOwn 0 az_3 rfl rfl rfl (.some rfl rfl rfl hc2051) rfl ?_
                refine JL.move (.some rfl rfl rfl hc2051) rfl ?_
                obtain ⟨y2057, hy2057, hF⟩ := bind_some hF
                refine JL.callS (c_ref05_Load n H2009 d d_v0 (SL.mono R_Section_mono (HSub.trans hs1784 hs2009) hd_0) d_v7 (SL.mono R_Span_mono (HSub.trans hs1784 hs2009) hd_7) d_v8 (SL.mono RInt.mono (HSub.trans hs1784 hs2009) hd_8) y2052 y4.High i_1782 y2057 hy2057) rfl en_39 (.some rfl rfl rfl hc2051) rfl ?_
                refine JL.fieldAddr fo_30_1 rfl (.some rfl rfl rfl hc2051) rfl ?_
                refine JL.loadOwn 1 az_27 rfl rfl rfl (.some rfl rfl rfl hc2051) rfl ?_
                refine JL.move (.some rfl rfl rfl hc2051) rfl ?_
                obtain ⟨y2058, hy2058, hF⟩ := bind_some hF
                refine JL.indexSL (R := R_Span) sl_27 (SL.mono R_Span_mono (HSub.trans hs1784 hs2009) hd_7) rfl hy2058 (.some rfl rfl rfl hc2051) rfl ?_
                rintro b2059 o2060 cs2061 hc2062 - rfl
                refine JL.fieldAddr fo_38_0 rfl (.some rfl rfl rfl hc2051) rfl ?_
                refine JL.loadH 0 az_3 rfl hc2062 rfl (.some rfl rfl rfl hc2051) rfl ?_
                refine JL.bin rfl rfl rfl (.some rfl rfl rfl hc2051) rfl ?_
                refine JL.pick_f (b := weak_2007) rfl hc2051 .none rfl ?_
                obtain rfl := Option.some.inj hF
                exact hJ2050 _ ⟨rfl, rfl, rfl, rfl, rfl, rfl, rfl⟩
            · rintro f ⟨hf1, hf2, hf7, hf8, hf9, hf11, hf51⟩
              refine (JL.norm (i := 1) hf1 (JL.norm (i := 2) hf2 (JL.norm (i := 7) hf7 (JL.norm (i := 8) hf8 (JL.norm (i := 9) hf9 (JL.norm (i := 11) hf11 (JL.norm (i := 51) hf51 ?_)))))))
              refine JL.assign .none rfl ?_
              refine JL.doneQ hQ ?_
              refine JQ.normal_block ?_
              refine JQ.go ?_
              refine JC.region (by rfl) ?_
              intro hQ
              refine JL.move .none rfl ?_
              refine JL.bin rfl rfl rfl .none rfl ?_
              refine JL.assign .none rfl ?_
              refine JL.done hQ ?_
              obtain rfl := Option.some.inj hF
              exact JQ.next rfl ⟨rfl, rfl, rfl, rfl, rfl, rfl, rfl, rfl, rfl, hs2009⟩
          · refine JC.cond_f (b := decide (k_2008 < (class_.length : Int))) rfl hc2012 ?_
            refine JC.exit ?_
            refine JQ.exit_then ?_
            refine JQ.exit_then ?_
            refine JQ.exit_block ?_
            obtain rfl := Option.some.inj hF
            have ehr2010 := hr2010 _ rfl
            subst ehr2010
            exact JQ.join weak_2007 ⟨rfl, rfl, rfl, rfl, rfl, rfl, rfl, rfl, hs2009, rfl⟩
        · rintro weak_1924 H1925 f bs gs ⟨hf1, hf2, hf7, hf8, hf9, hf10, rfl, rfl, hs1925, rfl⟩
          have hF := hKr1926
          try dsimp only at hF
          refine (JQ.norm (i := 1) hf1 (JQ.norm (i := 2) hf2 (JQ.norm (i := 7) hf7 (JQ.norm (i := 8) hf8 (JQ.norm (i := 9) hf9 (JQ.norm (i := 10) hf10 ?_))))))
          refine JQ.go ?_
          refine JC.seq ?_
          refine JC.region (by rfl) ?_
          intro hQ
          refine JL.move .none rfl ?_
          refine JL.done hQ ?_
          refine JQ.go ?_
          obtain ⟨r2071, hlr2071, hKr2071⟩ := bind_some hF
          refine JC.join (fun (out_2069 : List Int) H2070 f bs gs => ∃ (vout_2069 : Value) (xsout_2069 : List Value), f 1 = class__v0 ∧ f 2 = .pointer (some ⟨b1, 0, none⟩) ∧ f 7 = .pointer (some ⟨b5, 0, none⟩) ∧ f 8 = vout_2069 ∧ f 9 = .int .i64 i_1782 ∧ bs = [(b5, .cells [.int .i64 y4.Low, .int .i64 y4.High].toArray 38), (b1, .cells [d_v0, .int .i64 d.Frame.Low, .int .i64 d.Frame.High, .int .i64 d.Frame.Ease.Num, .int .i64 d.Frame.Ease.Den, .int .i64 d.Frame.Rod, .int .i64 d.Frame.Case, d_v7, d_v8].toArray 30)] ∧ gs = [⟨vout_2069, 3, 1, out_2069.length, xsout_2069⟩] ∧ CH H2070 1 RInt xsout_2069 out_2069 ∧ HSub H1925 H2070 ∧ out_2069 = r2071) ?_ ?_
          · have hF := hlr2071
            rcases ite_some hF with ⟨hc2072, hF⟩ | ⟨hc2072, hF⟩
            · refine JC.cond_t (b := weak_1924) rfl hc2072 ?_
              refine JC.region (by rfl) ?_
              intro hQ
              refine JL.move .none rfl ?_
              refine JL.move .none rfl ?_
              refine JL.buildSlice (e := 3) (l := [.int .i64 i_1782]) (by kernel_rfl) .none rfl ?_
              intro b2073
              obtain ⟨l2074, hl2074, hF⟩ := bind_some hF
              refine JL.appO (R := RInt) 0 0 (l := out_1783) (m := [i_1782]) ap_28 rfl ⟨rfl, rfl⟩ rfl (CH.mono RInt.mono hs1925 hout_1783) rfl rfl rfl (CH.cons (cs := [.int .i64 i_1782]) rfl rfl CH.nil) rfl (one_cons rfl one_nil) hl2074 .none rfl ?_
              intro v2075 xs2076 hch2077
              refine JL.assign .none rfl ?_
              refine JL.done hQ ?_
              obtain rfl := Option.some.inj hF
              refine JQ.mask [false, true, true] [true] ?_
              exact JQ.join l2074 ⟨v2075, xs2076, rfl, rfl, rfl, rfl, rfl, rfl, rfl, hch2077, (HSub.refl _), rfl⟩
            · refine JC.cond_f (b := weak_1924) rfl hc2072 ?_
              refine JC.skip ?_
              obtain rfl := Option.some.inj hF
              exact JQ.join out_1783 ⟨vout_1783, xsout_1783, rfl, rfl, rfl, rfl, rfl, rfl, rfl, (CH.mono RInt.mono hs1925 hout_1783), (HSub.refl _), rfl⟩
          · rintro out_2069 H2070 f bs gs ⟨vout_2069, xsout_2069, hf1, hf2, hf7, hf8, hf9, rfl, rfl, hout_2069, hs2070, rfl⟩
            have hF := hKr2071
            try dsimp only at hF
            refine (JQ.norm (i := 1) hf1 (JQ.norm (i := 2) hf2 (JQ.norm (i := 7) hf7 (JQ.norm (i := 8) hf8 (JQ.norm (i := 9) hf9 ?_)))))
            refine JQ.normal_block ?_
            refine JQ.go ?_
            refine JC.region (by rfl) ?_
            intro hQ
            refine JL.move .none rfl ?_
            refine JL.bin rfl rfl rfl .none rfl ?_
            refine JL.assign .none rfl ?_
            refine JL.done hQ ?_
            obtain rfl := Option.some.inj hF
            exact JQ.next rfl ⟨vout_2069, xsout_2069, rfl, rfl, rfl, rfl, rfl, rfl, rfl, hout_2069, (HSub.trans hs1784 (HSub.trans hs1925 hs2070))⟩
      · refine JC.cond_f (b := decide (i_1782 < (d.Ribs.length : Int))) rfl hc1787 ?_
        refine JC.exit ?_
        refine JQ.exit_then ?_
        refine JQ.exit_then ?_
        refine JQ.exit_block ?_
        obtain rfl := Option.some.inj hF
        have ehr1785 := hr1785 _ rfl
        subst ehr1785
        refine JQ.mask [false, false] [true] ?_
        exact JQ.join out_1783 ⟨vout_1783, xsout_1783, rfl, rfl, rfl, hout_1783, hs1784, rfl⟩
    · rintro out_1191 H1192 f bs gs ⟨vout_1191, xsout_1191, hf8, rfl, rfl, hout_1191, hs1192, rfl⟩
      have hF := hKr1193
      try dsimp only at hF
      refine (JQ.norm (i := 8) hf8 ?_)
      refine JQ.go ?_
      refine JC.seq ?_
      refine JC.region (by rfl) ?_
      intro hQ
      refine JL.move .none rfl ?_
      refine JL.assign .none rfl ?_
      refine JL.assign .none rfl ?_
      refine JL.done hQ ?_
      refine JQ.go ?_
      refine JC.ret ?_
      refine JQ.freezeG 0 (R := RInt) rfl RInt.mono hout_1191 rfl ?_
      intro H2078 hs2078 hg2079
      obtain rfl := Option.some.inj hF
      exact JQ.outH rfl (.tmp (.tmp .nil)) ⟨vout_1191, rfl, hg2079⟩

-- 64 ferrule/ferruleref01.IsPair
def F_ref01_IsPair (n : Nat) (f_ : Frame) (section_ : Int) (p : ref01_Pair) : Option Bool :=
  (geti f_.Sections section_).bind fun y3 => (F_ref01_Within n p.Arm y3.Arm.Low y3.Arm.High).bind fun y9 => (if y9 = true then ((F_ref01_Within n p.Stretch y3.Stretch.Low y3.Stretch.High).bind fun y14 => some y14) else (some false) : Option Bool).bind fun p11 => some p11
set_option maxRecDepth 100000 in
set_option maxHeartbeats 40000000 in
theorem c_ref01_IsPair (n : Nat) (H : Hp) (f_ : Frame) (f__v0 : Value) (hf__0 : SL H 7 R_Section f__v0 f_.Sections) (section_ : Int) (p : ref01_Pair) (y : Bool) (hF : F_ref01_IsPair n f_ section_ p = some y) : SC Try.prog 64 [.agg [f__v0, .int .i64 f_.Low, .int .i64 f_.High, .int .i64 f_.Ease.Num, .int .i64 f_.Ease.Den, .int .i64 f_.Rod, .int .i64 f_.Case].toArray, .int .i64 section_, .agg [.int .i64 p.Arm, .int .i64 p.Stretch].toArray] (.bool y) H := by
  rw [F_ref01_IsPair] at hF
  refine SC.of (N := 33) Try.func64 rfl rfl rfl fun w => ?_
  refine JC.seq ?_
  refine JC.region (by rfl) ?_
  intro hQ
  refine JL.box (cs := [f__v0, .int .i64 f_.Low, .int .i64 f_.High, .int .i64 f_.Ease.Num, .int .i64 f_.Ease.Den, .int .i64 f_.Rod, .int .i64 f_.Case]) rfl .none rfl ?_
  intro b1
  refine JL.box (cs := [.int .i64 p.Arm, .int .i64 p.Stretch]) rfl .none rfl ?_
  intro b2
  refine JL.assign .none rfl ?_
  refine JL.done hQ ?_
  refine JQ.go ?_
  refine JC.seq ?_
  refine JC.region (by rfl) ?_
  intro hQ
  refine JL.fieldAddr fo_26_0 rfl .none rfl ?_
  refine JL.loadOwn 1 az_22 rfl rfl rfl .none rfl ?_
  refine JL.move .none rfl ?_
  obtain ⟨y3, hy3, hF⟩ := bind_some hF
  refine JL.indexSL (R := R_Section) sl_22 hf__0 rfl hy3 .none rfl ?_
  rintro b4 o5 cs6 hc7 - rfl
  refine JL.loadH 0 az_118 rfl hc7 rfl .none rfl ?_
  refine JL.alloc ze_118 .none rfl ?_
  intro b8
  refine JL.storeOwn 0 (cs := [.int .i64 y3.Arm.Low, .int .i64 y3.Arm.High, .int .i64 y3.Stretch.Low, .int .i64 y3.Stretch.High, .int .i64 y3.Base, .int .i64 y3.Gear.Num, .int .i64 y3.Gear.Den]) az_118 rfl rfl rfl (one_cons rfl (one_cons rfl (one_cons rfl (one_cons rfl (one_cons rfl (one_cons rfl (one_cons rfl one_nil))))))) rfl rfl .none ?_
  refine JL.done hQ ?_
  refine JQ.go ?_
  refine JC.seq ?_
  refine JC.region (by rfl) ?_
  intro hQ
  refine JL.fieldAddr fo_72_0 rfl .none rfl ?_
  refine JL.loadOwn 1 az_3 rfl rfl rfl .none rfl ?_
  refine JL.fieldAddr fo_118_0 rfl .none rfl ?_
  refine JL.fieldAddr fo_38_0 rfl .none rfl ?_
  refine JL.loadOwn 0 az_3 rfl rfl rfl .none rfl ?_
  refine JL.fieldAddr fo_118_0 rfl .none rfl ?_
  refine JL.fieldAddr fo_38_1 rfl .none rfl ?_
  refine JL.loadOwn 0 az_3 rfl rfl rfl .none rfl ?_
  obtain ⟨y9, hy9, hF⟩ := bind_some hF
  refine JL.callS (c_ref01_Within n H p.Arm y3.Arm.Low y3.Arm.High y9 hy9) rfl en_79 .none rfl ?_
  refine JL.move .none rfl ?_
  obtain ⟨p11, hp11, hF⟩ := bind_some hF
  refine JL.cut 10 (fun f => f 32 = .bool p11) ?_ ?_
  · intro hJ12
    rcases ite_some hp11 with ⟨hc13, hF⟩ | ⟨hc13, hF⟩
    · skip
      refine JL.fieldAddr fo_72_1 rfl (.some rfl rfl rfl hc13) rfl ?_
      refine JL.loadOwn 1 az_3 rfl rfl rfl (.some rfl rfl rfl hc13) rfl ?_
      refine JL.fieldAddr fo_118_1 rfl (.some rfl rfl rfl hc13) rfl ?_
      refine JL.fieldAddr fo_38_0 rfl (.some rfl rfl rfl hc13) rfl ?_
      refine JL.loadOwn 0 az_3 rfl rfl rfl (.some rfl rfl rfl hc13) rfl ?_
      refine JL.fieldAddr fo_118_1 rfl (.some rfl rfl rfl hc13) rfl ?_
      refine JL.fieldAddr fo_38_1 rfl (.some rfl rfl rfl hc13) rfl ?_
      refine JL.loadOwn 0 az_3 rfl rfl rfl (.some rfl rfl rfl hc13) rfl ?_
      obtain ⟨y14, hy14, hF⟩ := bind_some hF
      refine JL.callS (c_ref01_Within n H p.Stretch y3.Stretch.Low y3.Stretch.High y14 hy14) rfl en_79 (.some rfl rfl rfl hc13) rfl ?_
      refine JL.pick_t (b := y9) rfl hc13 .none rfl ?_
      obtain rfl := Option.some.inj hF
      exact hJ12 _ (rfl)
    · skip
      refine JL.skip (.bool rfl rfl rfl hc13) rfl ?_
      refine JL.skip (.bool rfl rfl rfl hc13) rfl ?_
      refine JL.skip (.bool rfl rfl rfl hc13) rfl ?_
      refine JL.skip (.bool rfl rfl rfl hc13) rfl ?_
      refine JL.skip (.bool rfl rfl rfl hc13) rfl ?_
      refine JL.skip (.bool rfl rfl rfl hc13) rfl ?_
      refine JL.skip (.bool rfl rfl rfl hc13) rfl ?_
      refine JL.skip (.bool rfl rfl rfl hc13) rfl ?_
      refine JL.skip (.bool rfl rfl rfl hc13) rfl ?_
      refine JL.pick_f (b := y9) rfl hc13 .none rfl ?_
      obtain rfl := Option.some.inj hF
      exact hJ12 _ (rfl)
  · rintro f hf32
    refine (JL.norm (i := 32) hf32 ?_)
    refine JL.assign .none rfl ?_
    refine JL.done hQ ?_
    refine JQ.go ?_
    refine JC.ret ?_
    obtain rfl := Option.some.inj hF
    exact JQ.outS rfl (.tmp .nil) rfl

-- 36 ferrule/ferruleref05.IsTruth
def F_ref05_IsTruth_s1 (n : Nat) (d : Canopy) (strengths : List Int) : Int → Option (Int ⊕ (Bool ⊕ Unit))
  | i_197 => if ((decide (i_197 < (strengths.length : Int))) && (decide (i_197 < (d.Ribs.length : Int)))) = true then ((geti strengths i_197).bind fun y220 => (geti d.Ribs i_197).bind fun y225 => (geti d.Ribs i_197).bind fun y230 => (F_ref05_within n y220 y225.Low y230.High).bind fun y235 => if (!y235) = true then (some (Sum.inr (Sum.inl false))) else (some (Sum.inl (w64 (i_197 + 1))))) else (some (Sum.inr (Sum.inr ())))
def F_ref05_IsTruth (n : Nat) (d : Canopy) (p : ref01_Pair) (strengths : List Int) : Option Bool :=
  (loopO n (F_ref05_IsTruth_s1 n d strengths) 0).bind fun r120 => match r120 with | .inl o => some o | .inr _ => (if ((strengths.length : Int) == (d.Ribs.length : Int)) = true then ((F_ref01_IsPair n d.Frame 0 p).bind fun y241 => some y241) else (some false) : Option Bool).bind fun p238 => some p238
set_option maxRecDepth 100000 in
set_option maxHeartbeats 40000000 in
theorem c_ref05_IsTruth (n : Nat) (H : Hp) (d : Canopy) (d_v0 : Value) (hd_0 : SL H 7 R_Section d_v0 d.Frame.Sections) (d_v7 : Value) (hd_7 : SL H 2 R_Span d_v7 d.Ribs) (d_v8 : Value) (hd_8 : SL H 1 RInt d_v8 d.Shares) (p : ref01_Pair) (strengths : List Int) (strengths_v0 : Value) (hstrengths_0 : SL H 1 RInt strengths_v0 strengths) (y : Bool) (hF : F_ref05_IsTruth n d p strengths = some y) : SC Try.prog 36 [.agg [d_v0, .int .i64 d.Frame.Low, .int .i64 d.Frame.High, .int .i64 d.Frame.Ease.Num, .int .i64 d.Frame.Ease.Den, .int .i64 d.Frame.Rod, .int .i64 d.Frame.Case, d_v7, d_v8].toArray, .agg [.int .i64 p.Arm, .int .i64 p.Stretch].toArray, strengths_v0] (.bool y) H := by
  rw [F_ref05_IsTruth] at hF
  refine SC.of (N := 51) Try.func36 rfl rfl rfl fun w => ?_
  refine JC.seq ?_
  refine JC.region (by rfl) ?_
  intro hQ
  refine JL.box (cs := [d_v0, .int .i64 d.Frame.Low, .int .i64 d.Frame.High, .int .i64 d.Frame.Ease.Num, .int .i64 d.Frame.Ease.Den, .int .i64 d.Frame.Rod, .int .i64 d.Frame.Case, d_v7, d_v8]) rfl .none rfl ?_
  intro b1
  refine JL.box (cs := [.int .i64 p.Arm, .int .i64 p.Stretch]) rfl .none rfl ?_
  intro b2
  refine JL.assign .none rfl ?_
  refine JL.done hQ ?_
  refine JQ.go ?_
  refine JC.seq ?_
  refine JC.seq ?_
  refine JC.region (by rfl) ?_
  intro hQ
  refine JL.assign .none rfl ?_
  refine JL.done hQ ?_
  refine JQ.go ?_
  obtain ⟨r120, hlr120, hKr120⟩ := bind_some hF
  refine JC.join (fun (_ : Unit) H119 f bs gs => f 2 = strengths_v0 ∧ f 3 = .pointer (some ⟨b1, 0, none⟩) ∧ f 4 = .pointer (some ⟨b2, 0, none⟩) ∧ bs = [(b2, .cells [.int .i64 p.Arm, .int .i64 p.Stretch].toArray 72), (b1, .cells [d_v0, .int .i64 d.Frame.Low, .int .i64 d.Frame.High, .int .i64 d.Frame.Ease.Num, .int .i64 d.Frame.Ease.Den, .int .i64 d.Frame.Rod, .int .i64 d.Frame.Case, d_v7, d_v8].toArray 30)] ∧ gs = [] ∧ HSub H H119 ∧ Sum.inr () = r120) ?_ ?_
  · skip
    refine JC.block ?_
    refine JC.loop hlr120 (fun (i_197 : Int) H198 f bs gs => f 2 = strengths_v0 ∧ f 3 = .pointer (some ⟨b1, 0, none⟩) ∧ f 4 = .pointer (some ⟨b2, 0, none⟩) ∧ f 7 = .int .i64 i_197 ∧ bs = [(b2, .cells [.int .i64 p.Arm, .int .i64 p.Stretch].toArray 72), (b1, .cells [d_v0, .int .i64 d.Frame.Low, .int .i64 d.Frame.High, .int .i64 d.Frame.Ease.Num, .int .i64 d.Frame.Ease.Den, .int .i64 d.Frame.Rod, .int .i64 d.Frame.Case, d_v7, d_v8].toArray 30)] ∧ gs = [] ∧ HSub H H198) ⟨rfl, rfl, rfl, rfl, rfl, rfl, (HSub.refl _)⟩ ?_
    rintro i_197 x200 H198 f bs gs ⟨hf2, hf3, hf4, hf7, rfl, rfl, hs198⟩ hF hr199
    rw [F_ref05_IsTruth_s1] at hF
    refine (JC.norm (i := 2) hf2 (JC.norm (i := 3) hf3 (JC.norm (i := 4) hf4 (JC.norm (i := 7) hf7 ?_))))
    refine JC.seq ?_
    refine JC.seq ?_
    refine JC.region (by rfl) ?_
    intro hQ
    refine JL.move .none rfl ?_
    refine JL.move .none rfl ?_
    refine JL.lenSL (R := RInt) ul_28 (SL.mono RInt.mono hs198 hstrengths_0) .none rfl ?_
    refine JL.bin rfl rfl rfl .none rfl ?_
    refine JL.move .none rfl ?_
    refine JL.cut 6 (fun f => f 2 = strengths_v0 ∧ f 3 = .pointer (some ⟨b1, 0, none⟩) ∧ f 4 = .pointer (some ⟨b2, 0, none⟩) ∧ f 7 = .int .i64 i_197 ∧ f 18 = .bool ((decide (i_197 < (strengths.length : Int))) && (decide (i_197 < (d.Ribs.length : Int))))) ?_ ?_
    · intro hJ201
      rcases bcases (decide (i_197 < (strengths.length : Int))) with hc202 | hc202
      · skip
        refine JL.move (.some rfl rfl rfl hc202) rfl ?_
        refine JL.fieldAddr fo_30_1 rfl (.some rfl rfl rfl hc202) rfl ?_
        refine JL.loadOwn 1 az_27 rfl rfl rfl (.some rfl rfl rfl hc202) rfl ?_
        refine JL.lenSL (R := R_Span) ul_27 (SL.mono R_Span_mono hs198 hd_7) (.some rfl rfl rfl hc202) rfl ?_
        refine JL.bin rfl rfl rfl (.some rfl rfl rfl hc202) rfl ?_
        refine JL.pick_t (b := decide (i_197 < (strengths.length : Int))) rfl hc202 .none rfl ?_
        exact hJ201 _ ⟨rfl, rfl, rfl, rfl, and_t hc202 rfl⟩
      · skip
        refine JL.skip (.bool rfl rfl rfl hc202) rfl ?_
        refine JL.skip (.bool rfl rfl rfl hc202) rfl ?_
        refine JL.skip (.bool rfl rfl rfl hc202) rfl ?_
        refine JL.skip (.bool rfl rfl rfl hc202) rfl ?_
        refine JL.skip (.bool rfl rfl rfl hc202) rfl ?_
        refine JL.pick_f (b := decide (i_197 < (strengths.length : Int))) rfl hc202 .none rfl ?_
        exact hJ201 _ ⟨rfl, rfl, rfl, rfl, and_f hc202 rfl⟩
    · rintro f ⟨hf2, hf3, hf4, hf7, hf18⟩
      refine (JL.norm (i := 2) hf2 (JL.norm (i := 3) hf3 (JL.norm (i := 4) hf4 (JL.norm (i := 7) hf7 (JL.norm (i := 18) hf18 ?_)))))
      refine JL.done hQ ?_
      refine JQ.go ?_
      rcases ite_some hF with ⟨hc203, hF⟩ | ⟨hc203, hF⟩
      · refine JC.cond_t (b := ((decide (i_197 < (strengths.length : Int))) && (decide (i_197 < (d.Ribs.length : Int))))) rfl hc203 ?_
        refine JC.skip ?_
        refine JQ.go ?_
        refine JC.seq ?_
        refine JC.block ?_
        refine JC.seq ?_
        refine JC.draw (by rfl) mo_ (by kernel_rfl) ?_
        intro hQ
        refine JL.move .none rfl ?_
        refine JL.move .none rfl ?_
        obtain ⟨y220, hy220, hF⟩ := bind_some hF
        refine JL.indexSL (R := RInt) sl_28 (SL.mono RInt.mono hs198 hstrengths_0) rfl hy220 .none rfl ?_
        rintro b221 o222 cs223 hc224 - rfl
        refine JL.loadH 0 az_3 rfl hc224 rfl .none rfl ?_
        refine JL.fieldAddr fo_30_1 rfl .none rfl ?_
        refine JL.loadOwn 1 az_27 rfl rfl rfl .none rfl ?_
        refine JL.move .none rfl ?_
        obtain ⟨y225, hy225, hF⟩ := bind_some hF
        refine JL.indexSL (R := R_Span) sl_27 (SL.mono R_Span_mono hs198 hd_7) rfl hy225 .none rfl ?_
        rintro b226 o227 cs228 hc229 - rfl
        refine JL.fieldAddr fo_38_0 rfl .none rfl ?_
        refine JL.loadH 0 az_3 rfl hc229 rfl .none rfl ?_
        refine JL.fieldAddr fo_30_1 rfl .none rfl ?_
        refine JL.loadOwn 1 az_27 rfl rfl rfl .none rfl ?_
        refine JL.move .none rfl ?_
        obtain ⟨y230, hy230, hF⟩ := bind_some hF
        refine JL.indexSL (R := R_Span) sl_27 (SL.mono R_Span_mono hs198 hd_7) rfl hy230 .none rfl ?_
        rintro b231 o232 cs233 hc234 - rfl
        refine JL.fieldAddr fo_38_1 rfl .none rfl ?_
        refine JL.loadH 1 az_3 rfl hc234 rfl .none rfl ?_
        obtain ⟨y235, hy235, hF⟩ := bind_some hF
        refine JL.callS (c_ref05_within n H198 y220 y225.Low y230.High y235 hy235) rfl en_55 .none rfl ?_
        refine JL.not rfl .none rfl ?_
        refine JL.doneQ hQ ?_
        refine JQ.go ?_
        refine JC.fresh (fun f => f 2 = strengths_v0 ∧ f 3 = .pointer (some ⟨b1, 0, none⟩) ∧ f 4 = .pointer (some ⟨b2, 0, none⟩) ∧ f 7 = .int .i64 i_197 ∧ f 38 = .bool (!y235)) ⟨rfl, rfl, rfl, rfl, rfl⟩ ?_
        rintro f ⟨hf2, hf3, hf4, hf7, hf38⟩
        refine (JC.norm (i := 2) hf2 (JC.norm (i := 3) hf3 (JC.norm (i := 4) hf4 (JC.norm (i := 7) hf7 (JC.norm (i := 38) hf38 ?_)))))
        rcases ite_some hF with ⟨hc236, hF⟩ | ⟨hc236, hF⟩
        · refine JC.cond_t (b := (!y235)) rfl hc236 ?_
          refine JC.seq ?_
          refine JC.region (by rfl) ?_
          intro hQ
          refine JL.assign .none rfl ?_
          refine JL.done hQ ?_
          refine JQ.go ?_
          refine JC.ret ?_
          refine JQ.ret_block ?_
          refine JQ.ret_then ?_
          refine JQ.ret_then ?_
          refine JQ.ret_block ?_
          refine JQ.ret_join ?_
          refine JQ.ret_then ?_
          obtain rfl := Option.some.inj hF
          have ehr199 := hr199 _ rfl
          subst ehr199
          have hF := hKr120
          try dsimp only at hF
          obtain rfl := Option.some.inj hF
          exact JQ.outS rfl (.tmp .nil) rfl
        · refine JC.cond_f (b := (!y235)) rfl hc236 ?_
          refine JC.skip ?_
          refine JQ.normal_block ?_
          refine JQ.go ?_
          refine JC.region (by rfl) ?_
          intro hQ
          refine JL.move .none rfl ?_
          refine JL.bin rfl rfl rfl .none rfl ?_
          refine JL.assign .none rfl ?_
          refine JL.done hQ ?_
          obtain rfl := Option.some.inj hF
          exact JQ.next rfl ⟨rfl, rfl, rfl, rfl, rfl, rfl, hs198⟩
      · refine JC.cond_f (b := ((decide (i_197 < (strengths.length : Int))) && (decide (i_197 < (d.Ribs.length : Int))))) rfl hc203 ?_
        refine JC.exit ?_
        refine JQ.exit_then ?_
        refine JQ.exit_then ?_
        refine JQ.exit_block ?_
        obtain rfl := Option.some.inj hF
        have ehr199 := hr199 _ rfl
        subst ehr199
        exact JQ.join () ⟨rfl, rfl, rfl, rfl, rfl, hs198, rfl⟩
  · rintro _ H119 f bs gs ⟨hf2, hf3, hf4, rfl, rfl, hs119, rfl⟩
    have hF := hKr120
    try dsimp only at hF
    refine (JQ.norm (i := 2) hf2 (JQ.norm (i := 3) hf3 (JQ.norm (i := 4) hf4 ?_)))
    refine JQ.go ?_
    refine JC.seq ?_
    refine JC.region (by rfl) ?_
    intro hQ
    refine JL.move .none rfl ?_
    refine JL.lenSL (R := RInt) ul_28 (SL.mono RInt.mono hs119 hstrengths_0) .none rfl ?_
    refine JL.fieldAddr fo_30_1 rfl .none rfl ?_
    refine JL.loadOwn 1 az_27 rfl rfl rfl .none rfl ?_
    refine JL.lenSL (R := R_Span) ul_27 (SL.mono R_Span_mono hs119 hd_7) .none rfl ?_
    refine JL.bin rfl rfl rfl .none rfl ?_
    refine JL.move .none rfl ?_
    obtain ⟨p238, hp238, hF⟩ := bind_some hF
    refine JL.cut 5 (fun f => f 50 = .bool p238) ?_ ?_
    · intro hJ239
      rcases ite_some hp238 with ⟨hc240, hF⟩ | ⟨hc240, hF⟩
      · skip
        refine JL.fieldAddr fo_30_0 rfl (.some rfl rfl rfl hc240) rfl ?_
        refine JL.loadOwn 1 az_26 rfl rfl rfl (.some rfl rfl rfl hc240) rfl ?_
        refine JL.loadOwn 0 az_72 rfl rfl rfl (.some rfl rfl rfl hc240) rfl ?_
        obtain ⟨y241, hy241, hF⟩ := bind_some hF
        refine JL.callS (c_ref01_IsPair n H119 d.Frame d_v0 (SL.mono R_Section_mono hs119 hd_0) 0 p y241 hy241) rfl en_64 (.some rfl rfl rfl hc240) rfl ?_
        refine JL.pick_t (b := ((strengths.length : Int) == (d.Ribs.length : Int))) rfl hc240 .none rfl ?_
        obtain rfl := Option.some.inj hF
        exact hJ239 _ (rfl)
      · skip
        refine JL.skip (.bool rfl rfl rfl hc240) rfl ?_
        refine JL.skip (.bool rfl rfl rfl hc240) rfl ?_
        refine JL.skip (.bool rfl rfl rfl hc240) rfl ?_
        refine JL.skip (.bool rfl rfl rfl hc240) rfl ?_
        refine JL.pick_f (b := ((strengths.length : Int) == (d.Ribs.length : Int))) rfl hc240 .none rfl ?_
        obtain rfl := Option.some.inj hF
        exact hJ239 _ (rfl)
    · rintro f hf50
      refine (JL.norm (i := 50) hf50 ?_)
      refine JL.assign .none rfl ?_
      refine JL.done hQ ?_
      refine JQ.go ?_
      refine JC.ret ?_
      obtain rfl := Option.some.inj hF
      exact JQ.outS rfl (.tmp .nil) rfl

end Go.Proofs.Ytcpnnfdhafbemaa
