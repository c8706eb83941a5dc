/-
  Printed by a program: functions of the translation as plain functions, and their contracts.
-/
import Derived.Test.YtcpnnfdhafbemaaGenK3
namespace Go.Proofs.Ytcpnnfdhafbemaa
open Go Go.RowKit Go.Dec
set_option linter.unusedVariables false
-- 87 slices.IndexFunc[[]ferrule/api.Gust,ferrule/api.Gust]
def F_slices_IndexFunc___api_Gust_api_Gust__s1 (n : Nat) (s : List Gust) (f_ : Gust → Option Bool) : Int → Option (Int ⊕ (Int ⊕ Unit))
  | x_55 => if decide (x_55 < (s.length : Int)) = true then ((geti s x_55).bind fun y60 => (f_ y60).bind fun y65 => if y65 = true then (some (Sum.inr (Sum.inl x_55))) else (some (Sum.inl (w64 (x_55 + 1))))) else (some (Sum.inr (Sum.inr ())))
def F_slices_IndexFunc___api_Gust_api_Gust_ (n : Nat) (s : List Gust) (f_ : Gust → Option Bool) : Option Int :=
  (loopO n (F_slices_IndexFunc___api_Gust_api_Gust__s1 n s f_) 0).bind fun r34 => match r34 with | .inl o => some o | .inr _ => some (-1)
set_option maxRecDepth 100000 in
set_option maxHeartbeats 40000000 in
theorem c_slices_IndexFunc___api_Gust_api_Gust_ (n : Nat) (H : Hp) (s : List Gust) (s_v0 : Value) (hs_0 : SL H 2 R_Gust s_v0 s) (f_ : Gust → Option Bool) (f__k : Nat) (f__c : List Value) (f__e : Ent Try.prog f__k) (f__h : ∀ H', HSub H H' → ∀ (a0_ : Gust) (y : Bool), f_ a0_ = some y → SC Try.prog f__k ([.agg [.int .i64 a0_.Force, .int .i64 a0_.At].toArray] ++ f__c) (.bool y) H') (y : Int) (hF : F_slices_IndexFunc___api_Gust_api_Gust_ n s f_ = some y) : SC Try.prog 87 [s_v0, .func (.func f__k) #[] f__c.toArray] (.int .i64 y) H := by
  rw [F_slices_IndexFunc___api_Gust_api_Gust_] at hF
  refine SC.of (N := 19) Try.func87 rfl rfl rfl fun w => ?_
  refine JC.seq ?_
  refine JC.region (by rfl) ?_
  intro hQ
  refine JL.assign .none rfl ?_
  refine JL.done hQ ?_
  refine JQ.go ?_
  refine JC.seq ?_
  refine JC.seq ?_
  refine JC.region (by rfl) ?_
  intro hQ
  refine JL.move .none rfl ?_
  refine JL.lenSL (R := R_Gust) ul_34 hs_0 .none rfl ?_
  refine JL.move .none rfl ?_
  refine JL.done hQ ?_
  refine JQ.go ?_
  obtain ⟨r34, hlr34, hKr34⟩ := bind_some hF
  refine JC.join (fun (_ : Unit) H33 f bs gs => bs = [] ∧ gs = [] ∧ HSub H H33 ∧ Sum.inr () = r34) ?_ ?_
  · skip
    refine JC.block ?_
    refine JC.loop hlr34 (fun (x_55 : Int) H56 f bs gs => f 0 = s_v0 ∧ f 1 = .func (.func f__k) #[] f__c.toArray ∧ f 7 = .int .i64 (s.length : Int) ∧ f 8 = .int .i64 x_55 ∧ bs = [] ∧ gs = [] ∧ HSub H H56) ⟨rfl, rfl, rfl, rfl, rfl, rfl, (HSub.refl _)⟩ ?_
    rintro x_55 x58 H56 f bs gs ⟨hf0, hf1, hf7, hf8, rfl, rfl, hs56⟩ hF hr57
    rw [F_slices_IndexFunc___api_Gust_api_Gust__s1] at hF
    refine (JC.norm (i := 0) hf0 (JC.norm (i := 1) hf1 (JC.norm (i := 7) hf7 (JC.norm (i := 8) hf8 ?_))))
    refine JC.seq ?_
    refine JC.region (by rfl) ?_
    intro hQ
    refine JL.bin rfl rfl rfl .none rfl ?_
    refine JL.done hQ ?_
    refine JQ.go ?_
    refine JC.seq ?_
    rcases ite_some hF with ⟨hc59, hF⟩ | ⟨hc59, hF⟩
    · refine JC.cond_t (b := decide (x_55 < (s.length : Int))) rfl hc59 ?_
      refine JC.skip ?_
      refine JQ.go ?_
      refine JC.seq ?_
      refine JC.block ?_
      refine JC.seq ?_
      refine JC.region (by rfl) ?_
      intro hQ
      refine JL.move .none rfl ?_
      refine JL.assign .none rfl ?_
      refine JL.done hQ ?_
      refine JQ.go ?_
      refine JC.seq ?_
      refine JC.region (by rfl) ?_
      intro hQ
      refine JL.move .none rfl ?_
      refine JL.move .none rfl ?_
      refine JL.move .none rfl ?_
      obtain ⟨y60, hy60, hF⟩ := bind_some hF
      refine JL.indexSL (R := R_Gust) sl_34 (SL.mono R_Gust_mono hs56 hs_0) rfl hy60 .none rfl ?_
      rintro b61 o62 cs63 hc64 - rfl
      refine JL.loadH 0 az_32 rfl hc64 rfl .none rfl ?_
      obtain ⟨y65, hy65, hF⟩ := bind_some hF
      refine JL.callV rfl (f__h H56 hs56 y60 y65 hy65) rfl f__e .none rfl ?_
      refine JL.done hQ ?_
      refine JQ.go ?_
      rcases ite_some hF with ⟨hc66, hF⟩ | ⟨hc66, hF⟩
      · refine JC.cond_t (b := y65) rfl hc66 ?_
        refine JC.seq ?_
        refine JC.region (by rfl) ?_
        intro hQ
        refine JL.move .none rfl ?_
        refine JL.assign .none rfl ?_
        refine JL.done hQ ?_
        refine JQ.go ?_
        refine JC.fresh (fun f => f 4 = .int .i64 x_55) rfl ?_
        rintro f hf4
        refine (JC.norm (i := 4) hf4 ?_)
        refine JC.ret ?_
        refine JQ.ret_block ?_
        refine JQ.ret_then ?_
        refine JQ.ret_then ?_
        refine JQ.ret_block ?_
        refine JQ.ret_join ?_
        refine JQ.ret_then ?_
        obtain rfl := Option.some.inj hF
        have ehr57 := hr57 _ rfl
        subst ehr57
        have hF := hKr34
        try dsimp only at hF
        obtain rfl := Option.some.inj hF
        exact JQ.outS rfl (.tmp .nil) rfl
      · refine JC.cond_f (b := y65) rfl hc66 ?_
        refine JC.skip ?_
        refine JQ.normal_block ?_
        refine JQ.go ?_
        refine JC.region (by rfl) ?_
        intro hQ
        refine JL.bin rfl rfl rfl .none rfl ?_
        refine JL.move .none rfl ?_
        refine JL.done hQ ?_
        obtain rfl := Option.some.inj hF
        exact JQ.next rfl ⟨rfl, rfl, rfl, rfl, rfl, rfl, hs56⟩
    · refine JC.cond_f (b := decide (x_55 < (s.length : Int))) rfl hc59 ?_
      refine JC.exit ?_
      refine JQ.exit_then ?_
      refine JQ.exit_then ?_
      refine JQ.exit_block ?_
      obtain rfl := Option.some.inj hF
      have ehr57 := hr57 _ rfl
      subst ehr57
      exact JQ.join () ⟨rfl, rfl, hs56, rfl⟩
  · rintro _ H33 f bs gs ⟨rfl, rfl, hs33, rfl⟩
    have hF := hKr34
    try dsimp only at hF
    refine JQ.go ?_
    refine JC.seq ?_
    refine JC.region (by rfl) ?_
    intro hQ
    refine JL.assign .none rfl ?_
    refine JL.done hQ ?_
    refine JQ.go ?_
    refine JC.ret ?_
    obtain rfl := Option.some.inj hF
    exact JQ.outS rfl (.tmp .nil) rfl

-- 69 slices.ContainsFunc[[]ferrule/api.Gust,ferrule/api.Gust]
def F_slices_ContainsFunc___api_Gust_api_Gust_ (n : Nat) (s : List Gust) (f_ : Gust → Option Bool) : Option Bool :=
  (F_slices_IndexFunc___api_Gust_api_Gust_ n s f_).bind fun y1 => some (decide (0 ≤ y1))
set_option maxRecDepth 100000 in
set_option maxHeartbeats 40000000 in
theorem c_slices_ContainsFunc___api_Gust_api_Gust_ (n : Nat) (H : Hp) (s : List Gust) (s_v0 : Value) (hs_0 : SL H 2 R_Gust s_v0 s) (f_ : Gust → Option Bool) (f__k : Nat) (f__c : List Value) (f__e : Ent Try.prog f__k) (f__h : ∀ H', HSub H H' → ∀ (a0_ : Gust) (y : Bool), f_ a0_ = some y → SC Try.prog f__k ([.agg [.int .i64 a0_.Force, .int .i64 a0_.At].toArray] ++ f__c) (.bool y) H') (y : Bool) (hF : F_slices_ContainsFunc___api_Gust_api_Gust_ n s f_ = some y) : SC Try.prog 69 [s_v0, .func (.func f__k) #[] f__c.toArray] (.bool y) H := by
  rw [F_slices_ContainsFunc___api_Gust_api_Gust_] at hF
  refine SC.of (N := 9) Try.func69 rfl rfl rfl fun w => ?_
  refine JC.seq ?_
  refine JC.region (by rfl) ?_
  intro hQ
  refine JL.assign .none rfl ?_
  refine JL.done hQ ?_
  refine JQ.go ?_
  refine JC.seq ?_
  refine JC.region (by rfl) ?_
  intro hQ
  refine JL.move .none rfl ?_
  refine JL.move .none rfl ?_
  obtain ⟨y1, hy1, hF⟩ := bind_some hF
  refine JL.callS (c_slices_IndexFunc___api_Gust_api_Gust_ n H s s_v0 hs_0 f_ f__k f__c f__e (fun H' hs' => f__h H' hs') y1 hy1) rfl en_87 .none rfl ?_
  refine JL.bin rfl rfl rfl .none rfl ?_
  refine JL.assign .none rfl ?_
  refine JL.done hQ ?_
  refine JQ.go ?_
  refine JC.ret ?_
  obtain rfl := Option.some.inj hF
  exact JQ.outS rfl (.tmp .nil) rfl

-- 44 ferrule/gusts.ask
def F_gusts_ask (n : Nat) (d : Canopy) (class_ : List Gust) : Option Int :=
  (F_gusts_Check n d).bind fun y2 => if (y2 != 0) = true then (some y2) else ((if decide (20 < (class_.length : Int)) = true then (some true) else ((F_slices_ContainsFunc___api_Gust_api_Gust_ n class_ (fun a0_ => F_gusts_ask_1 n a0_ d)).bind fun y13 => some y13) : Option Bool).bind fun p7 => if p7 = true then (some 1) else (some 0))
set_option maxRecDepth 100000 in
set_option maxHeartbeats 40000000 in
theorem c_gusts_ask (n : Nat) (H : Hp) (d : Canopy) (d_v0 : Value) (hd_0 : SL H 7 R_Section d_v0 d.Frame.Sections) (d_v7 : Value) (hd_7 : SL H 2 R_Span d_v7 d.Ribs) (d_v8 : Value) (hd_8 : SL H 1 RInt d_v8 d.Shares) (class_ : List Gust) (class__v0 : Value) (hclass__0 : SL H 2 R_Gust class__v0 class_) (y : Int) (hF : F_gusts_ask n d class_ = some y) : SC Try.prog 44 [.agg [d_v0, .int .i64 d.Frame.Low, .int .i64 d.Frame.High, .int .i64 d.Frame.Ease.Num, .int .i64 d.Frame.Ease.Den, .int .i64 d.Frame.Rod, .int .i64 d.Frame.Case, d_v7, d_v8].toArray, class__v0] (.int .i64 y) H := by
  rw [F_gusts_ask] at hF
  refine SC.of (N := 21) Try.func44 rfl rfl rfl fun w => ?_
  refine JC.seq ?_
  refine JC.region (by rfl) ?_
  intro hQ
  refine JL.box (cs := [d_v0, .int .i64 d.Frame.Low, .int .i64 d.Frame.High, .int .i64 d.Frame.Ease.Num, .int .i64 d.Frame.Ease.Den, .int .i64 d.Frame.Rod, .int .i64 d.Frame.Case, d_v7, d_v8]) rfl .none rfl ?_
  intro b1
  refine JL.assign .none rfl ?_
  refine JL.done hQ ?_
  refine JQ.go ?_
  refine JC.seq ?_
  refine JC.seq ?_
  refine JC.region (by rfl) ?_
  intro hQ
  refine JL.loadOwn 0 az_30 rfl rfl rfl .none rfl ?_
  obtain ⟨y2, hy2, hF⟩ := bind_some hF
  refine JL.callS (c_gusts_Check n H d d_v0 hd_0 d_v7 hd_7 d_v8 hd_8 y2 hy2) rfl en_17 .none rfl ?_
  refine JL.assign .none rfl ?_
  refine JL.done hQ ?_
  refine JQ.go ?_
  refine JC.seq ?_
  refine JC.region (by rfl) ?_
  intro hQ
  refine JL.move .none rfl ?_
  refine JL.bin rfl rfl rfl .none rfl ?_
  refine JL.done hQ ?_
  refine JQ.go ?_
  rcases ite_some hF with ⟨hc3, hF⟩ | ⟨hc3, hF⟩
  · refine JC.cond_t (b := (y2 != 0)) rfl hc3 ?_
    refine JC.seq ?_
    refine JC.region (by rfl) ?_
    intro hQ
    refine JL.move .none rfl ?_
    refine JL.assign .none rfl ?_
    refine JL.done hQ ?_
    refine JQ.go ?_
    refine JC.ret ?_
    refine JQ.ret_then ?_
    obtain rfl := Option.some.inj hF
    exact JQ.outS rfl (.tmp .nil) rfl
  · refine JC.cond_f (b := (y2 != 0)) rfl hc3 ?_
    refine JC.skip ?_
    refine JQ.go ?_
    refine JC.seq ?_
    refine JC.region (by rfl) ?_
    intro hQ
    refine JL.makeFunc .none rfl ?_
    refine JL.assign .none rfl ?_
    refine JL.done hQ ?_
    refine JQ.go ?_
    refine JC.seq ?_
    refine JC.seq ?_
    refine JC.region (by rfl) ?_
    intro hQ
    refine JL.move .none rfl ?_
    refine JL.lenSL (R := R_Gust) ul_34 hclass__0 .none rfl ?_
    refine JL.bin rfl rfl rfl .none rfl ?_
    refine JL.move .none rfl ?_
    obtain ⟨p7, hp7, hF⟩ := bind_some hF
    refine JL.cutW 4 (fun H8 f bs gs => f 20 = .bool p7 ∧ bs = [] ∧ gs = [] ∧ HSub H H8) ?_ ?_
    · intro hJ9
      rcases ite_some hp7 with ⟨hc10, hF⟩ | ⟨hc10, hF⟩
      · skip
        refine JL.skip (.bool rfl rfl rfl hc10) rfl ?_
        refine JL.skip (.bool rfl rfl rfl hc10) rfl ?_
        refine JL.skip (.bool rfl rfl rfl hc10) rfl ?_
        refine JL.pick_t (b := decide (20 < (class_.length : Int))) rfl hc10 .none rfl ?_
        obtain rfl := Option.some.inj hF
        refine JL.mask [false] [] ?_
        exact hJ9 _ _ _ _ ⟨rfl, rfl, rfl, (HSub.refl _)⟩
      · skip
        refine JL.move (.some rfl rfl rfl hc10) rfl ?_
        refine JL.move (.some rfl rfl rfl hc10) rfl ?_
        refine JL.freezeC 0 (l := [d_v0, .int .i64 d.Frame.Low, .int .i64 d.Frame.High, .int .i64 d.Frame.Ease.Num, .int .i64 d.Frame.Ease.Den, .int .i64 d.Frame.Rod, .int .i64 d.Frame.Case, d_v7, d_v8]) rfl ?_
        intro H11 hs11 hc12
        obtain ⟨y13, hy13, hF⟩ := bind_some hF
        refine JL.callS (c_slices_ContainsFunc___api_Gust_api_Gust_ n H11 class_ class__v0 (SL.mono R_Gust_mono hs11 hclass__0) (fun a0_ => F_gusts_ask_1 n a0_ d) 68 [.pointer (some ⟨b1, 0, none⟩)] en_68 (fun H' hs' a0_ y' hy' => c_gusts_ask_1 n H' a0_ d d_v0 (SL.mono R_Section_mono hs' (SL.mono R_Section_mono hs11 hd_0)) d_v7 (SL.mono R_Span_mono hs' (SL.mono R_Span_mono hs11 hd_7)) d_v8 (SL.mono RInt.mono hs' (SL.mono RInt.mono hs11 hd_8)) b1 (Cells.mono hs' hc12) y' hy') y13 hy13) rfl en_69 (.some rfl rfl rfl hc10) rfl ?_
        refine JL.pick_f (b := decide (20 < (class_.length : Int))) rfl hc10 .none rfl ?_
        obtain rfl := Option.some.inj hF
        refine JL.mask [] [] ?_
        exact hJ9 _ _ _ _ ⟨rfl, rfl, rfl, hs11⟩
    · rintro H8 f bs gs ⟨hf20, rfl, rfl, hs8⟩
      refine (JL.norm (i := 20) hf20 ?_)
      refine JL.done hQ ?_
      refine JQ.go ?_
      rcases ite_some hF with ⟨hc14, hF⟩ | ⟨hc14, hF⟩
      · refine JC.cond_t (b := p7) rfl hc14 ?_
        refine JC.seq ?_
        refine JC.region (by rfl) ?_
        intro hQ
        refine JL.assign .none rfl ?_
        refine JL.done hQ ?_
        refine JQ.go ?_
        refine JC.ret ?_
        refine JQ.ret_then ?_
        obtain rfl := Option.some.inj hF
        exact JQ.outS rfl (.tmp .nil) rfl
      · refine JC.cond_f (b := p7) rfl hc14 ?_
        refine JC.skip ?_
        refine JQ.go ?_
        refine JC.seq ?_
        refine JC.region (by rfl) ?_
        intro hQ
        refine JL.assign .none rfl ?_
        refine JL.done hQ ?_
        refine JQ.go ?_
        refine JC.ret ?_
        obtain rfl := Option.some.inj hF
        exact JQ.outS rfl (.tmp .nil) rfl

end Go.Proofs.Ytcpnnfdhafbemaa
