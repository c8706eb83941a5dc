/-
  Printed by a program: functions of the translation as plain functions, and their contracts.
-/
import Derived.Test.YteihdclpiekmaaaLfGenK4
namespace Go.Proofs.Yteihdclpiekmaaa
open Go Go.RowKit Go.Dec
set_option linter.unusedVariables false
-- 87 ferrule/gusts.ask
def F_gusts_ask (n : Nat) (d : Canopy) (class_ : List Gust) : Option Int :=
  (F_gusts_Check n d).bind fun y2 => if (y2 != 0) = true then (some y2) else ((if decide (20 < (class_.length : Int)) = true then (some true) else ((F_slices_ContainsFunc___api_Gust_api_Gust_ n class_ (fun a0_ => F_gusts_ask_1 n a0_ d)).bind fun y13 => some y13) : Option Bool).bind fun p7 => if p7 = true then (some 1) else (some 0))
set_option maxRecDepth 100000 in
set_option maxHeartbeats 40000000 in
theorem c_gusts_ask (n : Nat) (H : Hp) (d : Canopy) (d_v0 : Value) (hd_0 : SL H 7 R_Section d_v0 d.Frame.Sections) (d_v7 : Value) (hd_7 : SL H 2 R_Span d_v7 d.Ribs) (d_v8 : Value) (hd_8 : SL H 1 RInt d_v8 d.Shares) (class_ : List Gust) (class__v0 : Value) (hclass__0 : SL H 2 R_Gust class__v0 class_) (y : Int) (hF : F_gusts_ask n d class_ = some y) : SC Try.prog 87 [.agg [d_v0, .int .i64 d.Frame.Low, .int .i64 d.Frame.High, .int .i64 d.Frame.Ease.Num, .int .i64 d.Frame.Ease.Den, .int .i64 d.Frame.Rod, .int .i64 d.Frame.Case, d_v7, d_v8].toArray, class__v0] (.int .i64 y) H := by
  rw [F_gusts_ask] at hF
  refine SC.of (N := 21) Try.func87 rfl rfl rfl fun w => ?_
  refine JC.seq ?_
  refine JC.region (by rfl) ?_
  intro hQ
  refine JL.box (cs := [d_v0, .int .i64 d.Frame.Low, .int .i64 d.Frame.High, .int .i64 d.Frame.Ease.Num, .int .i64 d.Frame.Ease.Den, .int .i64 d.Frame.Rod, .int .i64 d.Frame.Case, d_v7, d_v8]) rfl .none rfl ?_
  intro b1
  refine JL.assign .none rfl ?_
  refine JL.done hQ ?_
  refine JQ.go ?_
  refine JC.seq ?_
  refine JC.seq ?_
  refine JC.region (by rfl) ?_
  intro hQ
  refine JL.loadOwn 0 az_76 rfl rfl rfl .none rfl ?_
  obtain ⟨y2, hy2, hF⟩ := bind_some hF
  refine JL.callS (c_gusts_Check n H d d_v0 hd_0 d_v7 hd_7 d_v8 hd_8 y2 hy2) rfl en_84 .none rfl ?_
  refine JL.assign .none rfl ?_
  refine JL.done hQ ?_
  refine JQ.go ?_
  refine JC.seq ?_
  refine JC.region (by rfl) ?_
  intro hQ
  refine JL.move .none rfl ?_
  refine JL.bin rfl rfl rfl .none rfl ?_
  refine JL.done hQ ?_
  refine JQ.go ?_
  rcases ite_some hF with ⟨hc3, hF⟩ | ⟨hc3, hF⟩
  · refine JC.cond_t (b := (y2 != 0)) rfl hc3 ?_
    refine JC.seq ?_
    refine JC.region (by rfl) ?_
    intro hQ
    refine JL.move .none rfl ?_
    refine JL.assign .none rfl ?_
    refine JL.done hQ ?_
    refine JQ.go ?_
    refine JC.ret ?_
    refine JQ.ret_then ?_
    obtain rfl := Option.some.inj hF
    exact JQ.outS rfl (.tmp .nil) rfl
  · refine JC.cond_f (b := (y2 != 0)) rfl hc3 ?_
    refine JC.skip ?_
    refine JQ.go ?_
    refine JC.seq ?_
    refine JC.region (by rfl) ?_
    intro hQ
    refine JL.makeFunc .none rfl ?_
    refine JL.assign .none rfl ?_
    refine JL.done hQ ?_
    refine JQ.go ?_
    refine JC.seq ?_
    refine JC.seq ?_
    refine JC.region (by rfl) ?_
    intro hQ
    refine JL.move .none rfl ?_
    refine JL.lenSL (R := R_Gust) ul_103 hclass__0 .none rfl ?_
    refine JL.bin rfl rfl rfl .none rfl ?_
    refine JL.move .none rfl ?_
    obtain ⟨p7, hp7, hF⟩ := bind_some hF
    refine JL.cutW 4 (fun H8 f bs gs => f 20 = .bool p7 ∧ bs = [] ∧ gs = [] ∧ HSub H H8) ?_ ?_
    · intro hJ9
      rcases ite_some hp7 with ⟨hc10, hF⟩ | ⟨hc10, hF⟩
      · skip
        refine JL.skip (.bool rfl rfl rfl hc10) rfl ?_
        refine JL.skip (.bool rfl rfl rfl hc10) rfl ?_
        refine JL.skip (.bool rfl rfl rfl hc10) rfl ?_
        refine JL.pick_t (b := decide (20 < (class_.length : Int))) rfl hc10 .none rfl ?_
        obtain rfl := Option.some.inj hF
        refine JL.mask [false] [] ?_
        exact hJ9 _ _ _ _ ⟨rfl, rfl, rfl, (HSub.refl _)⟩
      · skip
        refine JL.move (.some rfl rfl rfl hc10) rfl ?_
        refine JL.move (.some rfl rfl rfl hc10) rfl ?_
        refine JL.freezeC 0 (l := [d_v0, .int .i64 d.Frame.Low, .int .i64 d.Frame.High, .int .i64 d.Frame.Ease.Num, .int .i64 d.Frame.Ease.Den, .int .i64 d.Frame.Rod, .int .i64 d.Frame.Case, d_v7, d_v8]) rfl ?_
        intro H11 hs11 hc12
        obtain ⟨y13, hy13, hF⟩ := bind_some hF
        refine JL.callS (c_slices_ContainsFunc___api_Gust_api_Gust_ n H11 class_ class__v0 (SL.mono R_Gust_mono hs11 hclass__0) (fun a0_ => F_gusts_ask_1 n a0_ d) 143 [.pointer (some ⟨b1, 0, none⟩)] en_143 (fun H' hs' a0_ y' hy' => c_gusts_ask_1 n H' a0_ d d_v0 (SL.mono R_Section_mono hs' (SL.mono R_Section_mono hs11 hd_0)) d_v7 (SL.mono R_Span_mono hs' (SL.mono R_Span_mono hs11 hd_7)) d_v8 (SL.mono RInt.mono hs' (SL.mono RInt.mono hs11 hd_8)) b1 (Cells.mono hs' hc12) y' hy') y13 hy13) rfl en_144 (.some rfl rfl rfl hc10) rfl ?_
        refine JL.pick_f (b := decide (20 < (class_.length : Int))) rfl hc10 .none rfl ?_
        obtain rfl := Option.some.inj hF
        refine JL.mask [] [] ?_
        exact hJ9 _ _ _ _ ⟨rfl, rfl, rfl, hs11⟩
    · rintro H8 f bs gs ⟨hf20, rfl, rfl, hs8⟩
      refine (JL.norm (i := 20) hf20 ?_)
      refine JL.done hQ ?_
      refine JQ.go ?_
      rcases ite_some hF with ⟨hc14, hF⟩ | ⟨hc14, hF⟩
      · refine JC.cond_t (b := p7) rfl hc14 ?_
        refine JC.seq ?_
        refine JC.region (by rfl) ?_
        intro hQ
        refine JL.assign .none rfl ?_
        refine JL.done hQ ?_
        refine JQ.go ?_
        refine JC.ret ?_
        refine JQ.ret_then ?_
        obtain rfl := Option.some.inj hF
        exact JQ.outS rfl (.tmp .nil) rfl
      · refine JC.cond_f (b := p7) rfl hc14 ?_
        refine JC.skip ?_
        refine JQ.go ?_
        refine JC.seq ?_
        refine JC.region (by rfl) ?_
        intro hQ
        refine JL.assign .none rfl ?_
        refine JL.done hQ ?_
        refine JQ.go ?_
        refine JC.ret ?_
        obtain rfl := Option.some.inj hF
        exact JQ.outS rfl (.tmp .nil) rfl

end Go.Proofs.Yteihdclpiekmaaa
