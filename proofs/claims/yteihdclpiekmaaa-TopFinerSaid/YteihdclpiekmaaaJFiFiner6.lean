/-
  A part of the proof of FiFiner: the texts FiGenK6, FiGenK7.
-/
import Derived.Test.YteihdclpiekmaaaJFiFiner5
section
set_option maxRecDepth 100000
set_option maxHeartbeats 40000000
namespace Go.Proofs.Yteihdclpiekmaaa
open Go Go.RowKit Go.Dec
set_option linter.unusedVariables false
-- 240 slices.IndexFunc[[]ferrule/api.Meter,ferrule/api.Meter]
def F_slices_IndexFunc___api_Meter_api_Meter__s1 (n : Nat) (s : List Meter) (f_ : Meter → Option Bool) : Int → Option (Int ⊕ (Int ⊕ Unit))
 | x_55 => if decide (x_55 < (s.length : Int)) = true then ((geti s x_55).bind fun y60 => (f_ y60).bind fun y65 => if y65 = true then (some (Sum.inr (Sum.inl x_55))) else (some (Sum.inl (w64 (x_55 + 1))))) else (some (Sum.inr (Sum.inr ())))
def F_slices_IndexFunc___api_Meter_api_Meter_ (n : Nat) (s : List Meter) (f_ : Meter → Option Bool) : Option Int :=
 (loopO n (F_slices_IndexFunc___api_Meter_api_Meter__s1 n s f_) 0).bind fun r34 => match r34 with | .inl o => some o | .inr _ => some (-1)
theorem c_slices_IndexFunc___api_Meter_api_Meter_ (n : Nat) (H : Hp) (s : List Meter) (s_v0 : Value) (hs_0 : SL H 2 R_Meter s_v0 s) (f_ : Meter → Option Bool) (f__k : Nat) (f__c : List Value) (f__e : Ent Try.prog f__k) (f__h : ∀ H', HSub H H' → ∀ (a0_ : Meter) (y : Bool), f_ a0_ = some y → SC Try.prog f__k ([.agg [.int .i64 a0_.Limit, .int .i64 a0_.Count].toArray] ++ f__c) (.bool y) H') (y : Int) (hF : F_slices_IndexFunc___api_Meter_api_Meter_ n s f_ = some y) : SC Try.prog 240 [s_v0, .func (.func f__k) #[] f__c.toArray] (.int .i64 y) H := by
 rw [F_slices_IndexFunc___api_Meter_api_Meter_] at hF
 refine SC.of (N := 19) Try.func240 rfl rfl rfl fun w => ?_
 refine JC.seq (JC.region (by rfl) ?_)
 intro hQ
 refine JL.assign .none rfl ?_
 refine JL.done hQ (JQ.go (JC.seq (JC.seq (JC.region (by rfl) ?_))))
 intro hQ
 refine JL.move .none rfl ?_
 refine JL.lenSL (R := R_Meter) ul_88 hs_0 .none rfl ?_
 refine JL.move .none rfl ?_
 refine JL.done hQ (JQ.go ?_)
 obtain ⟨r34, hlr34, hKr34⟩ := bind_some hF
 refine JC.join (fun (_ : Unit) H33 f bs gs => bs = [] ∧ gs = [] ∧ HSub H H33 ∧ Sum.inr () = r34) ?_ ?_
 ·skip
  refine JC.block (JC.loop hlr34 (fun (x_55 : Int) H56 f bs gs => f 0 = s_v0 ∧ f 1 = .func (.func f__k) #[] f__c.toArray ∧ f 7 = .int .i64 (s.length : Int) ∧ f 8 = .int .i64 x_55 ∧ bs = [] ∧ gs = [] ∧ HSub H H56) ⟨rfl, rfl, rfl, rfl, rfl, rfl, (HSub.refl _)⟩ ?_)
  rintro x_55 x58 H56 f bs gs ⟨hf0, hf1, hf7, hf8, rfl, rfl, hs56⟩ hF hr57
  rw [F_slices_IndexFunc___api_Meter_api_Meter__s1] at hF
  refine (JC.norm (i := 0) hf0 (JC.norm (i := 1) hf1 (JC.norm (i := 7) hf7 (JC.norm (i := 8) hf8 ?_))))
  refine JC.seq (JC.region (by rfl) ?_)
  intro hQ
  refine JL.bin rfl rfl rfl .none rfl ?_
  refine JL.done hQ (JQ.go (JC.seq ?_))
  rcases ite_some hF with ⟨hc59, hF⟩ | ⟨hc59, hF⟩
  ·refine JC.cond_t (b := decide (x_55 < (s.length : Int))) rfl hc59 ?_
   refine JC.skip (JQ.go (JC.seq (JC.block (JC.seq (JC.region (by rfl) ?_)))))
   intro hQ
   refine JL.move .none rfl ?_
   refine JL.assign .none rfl ?_
   refine JL.done hQ (JQ.go (JC.seq (JC.region (by rfl) ?_)))
   intro hQ
   refine JL.move .none rfl ?_
   refine JL.move .none rfl ?_
   refine JL.move .none rfl ?_
   obtain ⟨y60, hy60, hF⟩ := bind_some hF
   refine JL.indexSL (R := R_Meter) sl_88 (SL.mono R_Meter_mono hs56 hs_0) rfl hy60 .none rfl ?_
   rintro b61 o62 cs63 hc64 - rfl
   refine JL.loadH 0 az_206 rfl hc64 rfl .none rfl ?_
   obtain ⟨y65, hy65, hF⟩ := bind_some hF
   refine JL.callV rfl (f__h H56 hs56 y60 y65 hy65) rfl f__e .none rfl ?_
   refine JL.done hQ (JQ.go ?_)
   rcases ite_some hF with ⟨hc66, hF⟩ | ⟨hc66, hF⟩
   ·refine JC.cond_t (b := y65) rfl hc66 ?_
    refine JC.seq (JC.region (by rfl) ?_)
    intro hQ
    refine JL.move .none rfl ?_
    refine JL.assign .none rfl ?_
    refine JL.done hQ (JQ.go (JC.fresh (fun f => f 4 = .int .i64 x_55) rfl ?_))
    rintro f hf4
    refine (JC.norm (i := 4) hf4 ?_)
    refine JC.ret (JQ.ret_block (JQ.ret_then (JQ.ret_then (JQ.ret_block (JQ.ret_join (JQ.ret_then ?_))))))
    obtain rfl := Option.some.inj hF
    have ehr57 := hr57 _ rfl
    subst ehr57
    have hF := hKr34
    try dsimp only at hF
    obtain rfl := Option.some.inj hF
    exact JQ.outS rfl (.tmp .nil) rfl
   ·refine JC.cond_f (b := y65) rfl hc66 ?_
    refine JC.skip (JQ.normal_block (JQ.go (JC.region (by rfl) ?_)))
    intro hQ
    refine JL.bin rfl rfl rfl .none rfl ?_
    refine JL.move .none rfl ?_
    refine JL.done hQ ?_
    obtain rfl := Option.some.inj hF
    exact JQ.next rfl ⟨rfl, rfl, rfl, rfl, rfl, rfl, hs56⟩
  ·refine JC.cond_f (b := decide (x_55 < (s.length : Int))) rfl hc59 ?_
   refine JC.exit (JQ.exit_then (JQ.exit_then (JQ.exit_block ?_)))
   obtain rfl := Option.some.inj hF
   have ehr57 := hr57 _ rfl
   subst ehr57
   exact JQ.join () ⟨rfl, rfl, hs56, rfl⟩
 ·rintro _ H33 f bs gs ⟨rfl, rfl, hs33, rfl⟩
  have hF := hKr34
  try dsimp only at hF
  refine JQ.go (JC.seq (JC.region (by rfl) ?_))
  intro hQ
  refine JL.assign .none rfl ?_
  refine JL.done hQ (JQ.go (JC.ret ?_))
  obtain rfl := Option.some.inj hF
  exact JQ.outS rfl (.tmp .nil) rfl
-- 221 slices.ContainsFunc[[]ferrule/api.Meter,ferrule/api.Meter]
def F_slices_ContainsFunc___api_Meter_api_Meter_ (n : Nat) (s : List Meter) (f_ : Meter → Option Bool) : Option Bool :=
 (F_slices_IndexFunc___api_Meter_api_Meter_ n s f_).bind fun y1 => some (decide (0 ≤ y1))
theorem c_slices_ContainsFunc___api_Meter_api_Meter_ (n : Nat) (H : Hp) (s : List Meter) (s_v0 : Value) (hs_0 : SL H 2 R_Meter s_v0 s) (f_ : Meter → Option Bool) (f__k : Nat) (f__c : List Value) (f__e : Ent Try.prog f__k) (f__h : ∀ H', HSub H H' → ∀ (a0_ : Meter) (y : Bool), f_ a0_ = some y → SC Try.prog f__k ([.agg [.int .i64 a0_.Limit, .int .i64 a0_.Count].toArray] ++ f__c) (.bool y) H') (y : Bool) (hF : F_slices_ContainsFunc___api_Meter_api_Meter_ n s f_ = some y) : SC Try.prog 221 [s_v0, .func (.func f__k) #[] f__c.toArray] (.bool y) H := by
 rw [F_slices_ContainsFunc___api_Meter_api_Meter_] at hF
 refine SC.of (N := 9) Try.func221 rfl rfl rfl fun w => ?_
 refine JC.seq (JC.region (by rfl) ?_)
 intro hQ
 refine JL.assign .none rfl ?_
 refine JL.done hQ (JQ.go (JC.seq (JC.region (by rfl) ?_)))
 intro hQ
 refine JL.move .none rfl ?_
 refine JL.move .none rfl ?_
 obtain ⟨y1, hy1, hF⟩ := bind_some hF
 refine JL.callS (c_slices_IndexFunc___api_Meter_api_Meter_ n H s s_v0 hs_0 f_ f__k f__c f__e (fun H' hs' => f__h H' hs') y1 hy1) rfl en_240 .none rfl ?_
 refine JL.bin rfl rfl rfl .none rfl ?_
 refine JL.assign .none rfl ?_
 refine JL.done hQ (JQ.go (JC.ret ?_))
 obtain rfl := Option.some.inj hF
 exact JQ.outS rfl (.tmp .nil) rfl
-- 184 ferrule/counts.Check
def F_counts_Check (n : Nat) (r : Run) : Option Int :=
 (F_gusts_Check n r.Canopy).bind fun y2 => (if (((y2 != 0) || (decide (8 < (r.Blows.length : Int)))) || (decide (5 < (r.Meters.length : Int)))) = true then (some true) else ((F_slices_ContainsFunc___api_Blow_api_Blow_ n r.Blows (fun a0_ => F_counts_Check_1 n a0_ r)).bind fun y16 => some y16) : Option Bool).bind fun p13 => (if p13 = true then (some true) else ((F_slices_ContainsFunc___api_Meter_api_Meter_ n r.Meters (fun a0_ => F_counts_Check_2 n a0_)).bind fun y21 => some y21) : Option Bool).bind fun p18 => (if p18 = true then (some true) else ((F_counts_within n r.Wrong 0 5).bind fun y26 => some (!y26)) : Option Bool).bind fun p23 => if p23 = true then (some 130) else (some 0)
theorem c_counts_Check (n : Nat) (H : Hp) (r : Run) (r_v0 : Value) (hr_0 : SL H 7 R_Section r_v0 r.Canopy.Frame.Sections) (r_v7 : Value) (hr_7 : SL H 2 R_Span r_v7 r.Canopy.Ribs) (r_v8 : Value) (hr_8 : SL H 1 RInt r_v8 r.Canopy.Shares) (r_v9 : Value) (hr_9 : SL H 3 R_Blow r_v9 r.Blows) (r_v10 : Value) (hr_10 : SL H 2 R_Meter r_v10 r.Meters) (y : Int) (hF : F_counts_Check n r = some y) : SC Try.prog 184 [.agg [r_v0, .int .i64 r.Canopy.Frame.Low, .int .i64 r.Canopy.Frame.High, .int .i64 r.Canopy.Frame.Ease.Num, .int .i64 r.Canopy.Frame.Ease.Den, .int .i64 r.Canopy.Frame.Rod, .int .i64 r.Canopy.Frame.Case, r_v7, r_v8, r_v9, r_v10, .int .i64 r.Wrong].toArray] (.int .i64 y) H := by
 rw [F_counts_Check] at hF
 refine SC.of (N := 40) Try.func184 rfl rfl rfl fun w => ?_
 refine JC.seq (JC.region (by rfl) ?_)
 intro hQ
 refine JL.box (cs := [r_v0, .int .i64 r.Canopy.Frame.Low, .int .i64 r.Canopy.Frame.High, .int .i64 r.Canopy.Frame.Ease.Num, .int .i64 r.Canopy.Frame.Ease.Den, .int .i64 r.Canopy.Frame.Rod, .int .i64 r.Canopy.Frame.Case, r_v7, r_v8, r_v9, r_v10, .int .i64 r.Wrong]) rfl .none rfl ?_
 intro b1
 refine JL.assign .none rfl ?_
 refine JL.done hQ (JQ.go (JC.seq (JC.region (by rfl) ?_)))
 intro hQ
 refine JL.makeFunc .none rfl ?_
 refine JL.assign .none rfl ?_
 refine JL.done hQ (JQ.go (JC.seq (JC.region (by rfl) ?_)))
 intro hQ
 refine JL.assign .none rfl ?_
 refine JL.done hQ (JQ.go (JC.seq (JC.seq (JC.region (by rfl) ?_))))
 intro hQ
 refine JL.fieldAddr fo_90_0 rfl .none rfl ?_
 refine JL.loadOwn 0 az_76 rfl rfl rfl .none rfl ?_
 obtain ⟨y2, hy2, hF⟩ := bind_some hF
 refine JL.callS (c_gusts_Check n H r.Canopy r_v0 hr_0 r_v7 hr_7 r_v8 hr_8 y2 hy2) rfl en_84 .none rfl ?_
 refine JL.bin rfl rfl rfl .none rfl ?_
 refine JL.move .none rfl ?_
 refine JL.cut 5 (fun f => f 1 = .pointer (some ⟨b1, 0, none⟩) ∧ f 3 = .func (.func 218) #[] [.pointer (some ⟨b1, 0, none⟩)].toArray ∧ f 4 = .func (.func 219) #[] [].toArray ∧ f 15 = .bool ((y2 != 0) || (decide (8 < (r.Blows.length : Int))))) ?_ ?_
 ·intro hJ3
  rcases bcases (y2 != 0) with hc4 | hc4
  ·skip
   refine JL.skip (.bool rfl rfl rfl hc4) rfl ?_
   refine JL.skip (.bool rfl rfl rfl hc4) rfl ?_
   refine JL.skip (.bool rfl rfl rfl hc4) rfl ?_
   refine JL.skip (.bool rfl rfl rfl hc4) rfl ?_
   refine JL.pick_t (b := (y2 != 0)) rfl hc4 .none rfl ?_
   exact hJ3 _ ⟨rfl, rfl, rfl, or_t hc4 rfl⟩
  ·skip
   refine JL.fieldAddr fo_90_1 rfl (.some rfl rfl rfl hc4) rfl ?_
   refine JL.loadOwn 0 az_87 rfl rfl rfl (.some rfl rfl rfl hc4) rfl ?_
   refine JL.lenSL (R := R_Blow) ul_87 hr_9 (.some rfl rfl rfl hc4) rfl ?_
   refine JL.bin rfl rfl rfl (.some rfl rfl rfl hc4) rfl ?_
   refine JL.pick_f (b := (y2 != 0)) rfl hc4 .none rfl ?_
   exact hJ3 _ ⟨rfl, rfl, rfl, or_f hc4 rfl⟩
 ·rintro f ⟨hf1, hf3, hf4, hf15⟩
  refine (JL.norm (i := 1) hf1 (JL.norm (i := 3) hf3 (JL.norm (i := 4) hf4 (JL.norm (i := 15) hf15 ?_))))
  refine JL.move .none rfl ?_
  refine JL.cut 5 (fun f => f 1 = .pointer (some ⟨b1, 0, none⟩) ∧ f 3 = .func (.func 218) #[] [.pointer (some ⟨b1, 0, none⟩)].toArray ∧ f 4 = .func (.func 219) #[] [].toArray ∧ f 21 = .bool (((y2 != 0) || (decide (8 < (r.Blows.length : Int)))) || (decide (5 < (r.Meters.length : Int))))) ?_ ?_
  ·intro hJ5
   rcases bcases ((y2 != 0) || (decide (8 < (r.Blows.length : Int)))) with hc6 | hc6
   ·skip
    refine JL.skip (.bool rfl rfl rfl hc6) rfl ?_
    refine JL.skip (.bool rfl rfl rfl hc6) rfl ?_
    refine JL.skip (.bool rfl rfl rfl hc6) rfl ?_
    refine JL.skip (.bool rfl rfl rfl hc6) rfl ?_
    refine JL.pick_t (b := ((y2 != 0) || (decide (8 < (r.Blows.length : Int))))) rfl hc6 .none rfl ?_
    exact hJ5 _ ⟨rfl, rfl, rfl, or_t hc6 rfl⟩
   ·skip
    refine JL.fieldAddr fo_90_2 rfl (.some rfl rfl rfl hc6) rfl ?_
    refine JL.loadOwn 0 az_88 rfl rfl rfl (.some rfl rfl rfl hc6) rfl ?_
    refine JL.lenSL (R := R_Meter) ul_88 hr_10 (.some rfl rfl rfl hc6) rfl ?_
    refine JL.bin rfl rfl rfl (.some rfl rfl rfl hc6) rfl ?_
    refine JL.pick_f (b := ((y2 != 0) || (decide (8 < (r.Blows.length : Int))))) rfl hc6 .none rfl ?_
    exact hJ5 _ ⟨rfl, rfl, rfl, or_f hc6 rfl⟩
  ·rintro f ⟨hf1, hf3, hf4, hf21⟩
   refine (JL.norm (i := 1) hf1 (JL.norm (i := 3) hf3 (JL.norm (i := 4) hf4 (JL.norm (i := 21) hf21 ?_))))
   refine JL.move .none rfl ?_
   refine JL.freezeC 0 (l := [r_v0, .int .i64 r.Canopy.Frame.Low, .int .i64 r.Canopy.Frame.High, .int .i64 r.Canopy.Frame.Ease.Num, .int .i64 r.Canopy.Frame.Ease.Den, .int .i64 r.Canopy.Frame.Rod, .int .i64 r.Canopy.Frame.Case, r_v7, r_v8, r_v9, r_v10, .int .i64 r.Wrong]) rfl ?_
   intro H10 hs10 hc11
   obtain ⟨p13, hp13, hF⟩ := bind_some hF
   refine JL.cut 5 (fun f => f 1 = .pointer (some ⟨b1, 0, none⟩) ∧ f 4 = .func (.func 219) #[] [].toArray ∧ f 27 = .bool p13) ?_ ?_
   ·intro hJ14
    rcases ite_some hp13 with ⟨hc15, hF⟩ | ⟨hc15, hF⟩
    ·skip
     refine JL.skip (.bool rfl rfl rfl hc15) rfl ?_
     refine JL.skip (.bool rfl rfl rfl hc15) rfl ?_
     refine JL.skip (.bool rfl rfl rfl hc15) rfl ?_
     refine JL.skip (.bool rfl rfl rfl hc15) rfl ?_
     refine JL.pick_t (b := (((y2 != 0) || (decide (8 < (r.Blows.length : Int)))) || (decide (5 < (r.Meters.length : Int))))) rfl hc15 .none rfl ?_
     obtain rfl := Option.some.inj hF
     exact hJ14 _ ⟨rfl, rfl, rfl⟩
    ·skip
     refine JL.fieldAddr fo_90_1 rfl (.some rfl rfl rfl hc15) rfl ?_
     refine JL.loadH 9 az_87 rfl hc11 rfl (.some rfl rfl rfl hc15) rfl ?_
     refine JL.move (.some rfl rfl rfl hc15) rfl ?_
     obtain ⟨y16, hy16, hF⟩ := bind_some hF
     refine JL.callS (c_slices_ContainsFunc___api_Blow_api_Blow_ n H10 r.Blows r_v9 (SL.mono R_Blow_mono hs10 hr_9) (fun a0_ => F_counts_Check_1 n a0_ r) 218 [.pointer (some ⟨b1, 0, none⟩)] en_218 (fun H' hs' a0_ y' hy' => c_counts_Check_1 n H' a0_ r r_v0 (SL.mono R_Section_mono hs' (SL.mono R_Section_mono hs10 hr_0)) r_v7 (SL.mono R_Span_mono hs' (SL.mono R_Span_mono hs10 hr_7)) r_v8 (SL.mono RInt.mono hs' (SL.mono RInt.mono hs10 hr_8)) r_v9 (SL.mono R_Blow_mono hs' (SL.mono R_Blow_mono hs10 hr_9)) r_v10 (SL.mono R_Meter_mono hs' (SL.mono R_Meter_mono hs10 hr_10)) b1 (Cells.mono hs' hc11) y' hy') y16 hy16) rfl en_220 (.some rfl rfl rfl hc15) rfl ?_
     refine JL.pick_f (b := (((y2 != 0) || (decide (8 < (r.Blows.length : Int)))) || (decide (5 < (r.Meters.length : Int))))) rfl hc15 .none rfl ?_
     obtain rfl := Option.some.inj hF
     exact hJ14 _ ⟨rfl, rfl, rfl⟩
   ·rintro f ⟨hf1, hf4, hf27⟩
    refine (JL.norm (i := 1) hf1 (JL.norm (i := 4) hf4 (JL.norm (i := 27) hf27 ?_)))
    refine JL.move .none rfl ?_
    obtain ⟨p18, hp18, hF⟩ := bind_some hF
    refine JL.cut 5 (fun f => f 1 = .pointer (some ⟨b1, 0, none⟩) ∧ f 33 = .bool p18) ?_ ?_
    ·intro hJ19
     rcases ite_some hp18 with ⟨hc20, hF⟩ | ⟨hc20, hF⟩
     ·skip
      refine JL.skip (.bool rfl rfl rfl hc20) rfl ?_
      refine JL.skip (.bool rfl rfl rfl hc20) rfl ?_
      refine JL.skip (.bool rfl rfl rfl hc20) rfl ?_
      refine JL.skip (.bool rfl rfl rfl hc20) rfl ?_
      refine JL.pick_t (b := p13) rfl hc20 .none rfl ?_
      obtain rfl := Option.some.inj hF
      exact hJ19 _ ⟨rfl, rfl⟩
     ·skip
      refine JL.fieldAddr fo_90_2 rfl (.some rfl rfl rfl hc20) rfl ?_
      refine JL.loadH 10 az_88 rfl hc11 rfl (.some rfl rfl rfl hc20) rfl ?_
      refine JL.move (.some rfl rfl rfl hc20) rfl ?_
      obtain ⟨y21, hy21, hF⟩ := bind_some hF
      refine JL.callS (c_slices_ContainsFunc___api_Meter_api_Meter_ n H10 r.Meters r_v10 (SL.mono R_Meter_mono hs10 hr_10) (fun a0_ => F_counts_Check_2 n a0_) 219 [] en_219 (fun H' hs' a0_ y' hy' => c_counts_Check_2 n H' a0_ y' hy') y21 hy21) rfl en_221 (.some rfl rfl rfl hc20) rfl ?_
      refine JL.pick_f (b := p13) rfl hc20 .none rfl ?_
      obtain rfl := Option.some.inj hF
      exact hJ19 _ ⟨rfl, rfl⟩
    ·rintro f ⟨hf1, hf33⟩
     refine (JL.norm (i := 1) hf1 (JL.norm (i := 33) hf33 ?_))
     refine JL.move .none rfl ?_
     obtain ⟨p23, hp23, hF⟩ := bind_some hF
     refine JL.cut 5 (fun f => f 39 = .bool p23) ?_ ?_
     ·intro hJ24
      rcases ite_some hp23 with ⟨hc25, hF⟩ | ⟨hc25, hF⟩
      ·skip
       refine JL.skip (.bool rfl rfl rfl hc25) rfl ?_
       refine JL.skip (.bool rfl rfl rfl hc25) rfl ?_
       refine JL.skip (.bool rfl rfl rfl hc25) rfl ?_
       refine JL.skip (.bool rfl rfl rfl hc25) rfl ?_
       refine JL.pick_t (b := p18) rfl hc25 .none rfl ?_
       obtain rfl := Option.some.inj hF
       exact hJ24 _ (rfl)
      ·skip
       refine JL.fieldAddr fo_90_3 rfl (.some rfl rfl rfl hc25) rfl ?_
       refine JL.loadH 11 az_3 rfl hc11 rfl (.some rfl rfl rfl hc25) rfl ?_
       obtain ⟨y26, hy26, hF⟩ := bind_some hF
       refine JL.callS (c_counts_within n H10 r.Wrong 0 5 y26 hy26) rfl en_152 (.some rfl rfl rfl hc25) rfl ?_
       refine JL.not rfl (.some rfl rfl rfl hc25) rfl ?_
       refine JL.pick_f (b := p18) rfl hc25 .none rfl ?_
       obtain rfl := Option.some.inj hF
       exact hJ24 _ (rfl)
     ·rintro f hf39
      refine (JL.norm (i := 39) hf39 ?_)
      refine JL.done hQ (JQ.go ?_)
      rcases ite_some hF with ⟨hc27, hF⟩ | ⟨hc27, hF⟩
      ·refine JC.cond_t (b := p23) rfl hc27 ?_
       refine JC.seq (JC.region (by rfl) ?_)
       intro hQ
       refine JL.assign .none rfl ?_
       refine JL.done hQ (JQ.go (JC.ret (JQ.ret_then ?_)))
       obtain rfl := Option.some.inj hF
       exact JQ.outS rfl (.tmp .nil) rfl
      ·refine JC.cond_f (b := p23) rfl hc27 ?_
       refine JC.skip (JQ.go (JC.seq (JC.region (by rfl) ?_)))
       intro hQ
       refine JL.assign .none rfl ?_
       refine JL.done hQ (JQ.go (JC.ret ?_))
       obtain rfl := Option.some.inj hF
       exact JQ.outS rfl (.tmp .nil) rfl
-- 241 (*ferrule/counts.test).add
def F_counts_test_add_s1 (n : Nat) (t : counts_test) (force : Int) : Int × List Int → Option ((Int × List Int) ⊕ (List Int))
 | (x_104, z_105) => if decide (x_104 < (t.Run.Meters.length : Int)) = true then ((geti t.Run.Meters x_104).bind fun y110 => (if decide (y110.Limit ≤ force) = true then ((geti z_105 x_104).bind fun y123 => (geti z_105 x_104).bind fun y124 => some (setx z_105 x_104 (w64 (y123 + 1)))) else (some z_105)).bind fun z_119 => some (Sum.inl ((w64 (x_104 + 1)), z_119))) else (some (Sum.inr z_105))
def F_counts_test_add (n : Nat) (t : counts_test) (x_ : List Int) (b : Blow) (force : Int) : Option (List Int) :=
 (loopO n (F_counts_test_add_s1 n t force) (0, x_)).bind fun z_63 => (t.asked b force).bind fun y131 => (if y131 = true then ((geti z_63 5).bind fun y144 => (geti z_63 5).bind fun y145 => some (setx z_63 5 (w64 (y144 + 1)))) else (some z_63)).bind fun z_140 => some z_140
theorem c_counts_test_add (n : Nat) (H : Hp) (t : counts_test) (t_v0 : Value) (ht_0 : SL H 7 R_Section t_v0 t.Run.Canopy.Frame.Sections) (t_v7 : Value) (ht_7 : SL H 2 R_Span t_v7 t.Run.Canopy.Ribs) (t_v8 : Value) (ht_8 : SL H 1 RInt t_v8 t.Run.Canopy.Shares) (t_v9 : Value) (ht_9 : SL H 3 R_Blow t_v9 t.Run.Blows) (t_v10 : Value) (ht_10 : SL H 2 R_Meter t_v10 t.Run.Meters) (t_v12 : Value) (ht_12 : FN_168 H t_v12 t.asked) (t_b t_o : Nat) (t_c : Cells H t_b t_o [t_v0, .int .i64 t.Run.Canopy.Frame.Low, .int .i64 t.Run.Canopy.Frame.High, .int .i64 t.Run.Canopy.Frame.Ease.Num, .int .i64 t.Run.Canopy.Frame.Ease.Den, .int .i64 t.Run.Canopy.Frame.Rod, .int .i64 t.Run.Canopy.Frame.Case, t_v7, t_v8, t_v9, t_v10, .int .i64 t.Run.Wrong, t_v12]) (x_ : List Int) (x__l : x_.length = 6) (b : Blow) (force : Int) (y : (List Int)) (hF : F_counts_test_add n t x_ b force = some y) : SC Try.prog 241 [.pointer (some ⟨t_b, t_o, none⟩), .agg (av .i64 x_).toArray, .agg [.int .i64 b.At, .int .i64 b.Force.Low, .int .i64 b.Force.High].toArray, .int .i64 force] (.agg (av .i64 y).toArray) H := by
 rw [F_counts_test_add] at hF
 refine SC.of (N := 44) Try.func241 rfl rfl rfl fun w => ?_
 refine JC.seq (JC.region (by rfl) ?_)
 intro hQ
 refine JL.box (cs := av .i64 x_) rfl .none rfl ?_
 intro b1
 refine JL.box (cs := [.int .i64 b.At, .int .i64 b.Force.Low, .int .i64 b.Force.High]) rfl .none rfl ?_
 intro b2
 refine JL.alloc ze_213 .none rfl ?_
 intro b3
 refine JL.done hQ (JQ.go (JC.seq (JC.seq (JC.region (by rfl) ?_))))
 intro hQ
 refine JL.move .none rfl ?_
 refine JL.nilCheck rfl .none rfl ?_
 refine JL.fieldAddr fo_239_0 rfl .none rfl ?_
 refine JL.fieldAddr fo_90_2 rfl .none rfl ?_
 refine JL.loadH 10 az_88 rfl t_c rfl .none rfl ?_
 refine JL.lenSL (R := R_Meter) ul_88 ht_10 .none rfl ?_
 refine JL.move .none rfl ?_
 refine JL.done hQ (JQ.go ?_)
 obtain ⟨r65, hlr65, hKr65⟩ := bind_some hF
 refine JC.join (fun (z_63 : List Int) H64 f bs gs => f 0 = .pointer (some ⟨t_b, t_o, none⟩) ∧ f 3 = .int .i64 force ∧ f 5 = .pointer (some ⟨b1, 0, none⟩) ∧ f 6 = .pointer (some ⟨b2, 0, none⟩) ∧ f 8 = .pointer (some ⟨b3, 0, none⟩) ∧ bs = [(b3, .cells (av .i64 [0, 0, 0, 0, 0, 0]).toArray 213), (b2, .cells [.int .i64 b.At, .int .i64 b.Force.Low, .int .i64 b.Force.High].toArray 98), (b1, .cells (av .i64 z_63).toArray 213)] ∧ gs = [] ∧ z_63.length = 6 ∧ HSub H H64 ∧ z_63 = r65) ?_ ?_
 ·skip
  refine JC.block (JC.loop hlr65 (fun (x : Int × List Int) H106 f bs gs => match x with | (x_104, z_105) => f 0 = .pointer (some ⟨t_b, t_o, none⟩) ∧ f 3 = .int .i64 force ∧ f 5 = .pointer (some ⟨b1, 0, none⟩) ∧ f 6 = .pointer (some ⟨b2, 0, none⟩) ∧ f 8 = .pointer (some ⟨b3, 0, none⟩) ∧ f 15 = t_v10 ∧ f 16 = .int .i64 (t.Run.Meters.length : Int) ∧ f 17 = .int .i64 x_104 ∧ bs = [(b3, .cells (av .i64 [0, 0, 0, 0, 0, 0]).toArray 213), (b2, .cells [.int .i64 b.At, .int .i64 b.Force.Low, .int .i64 b.Force.High].toArray 98), (b1, .cells (av .i64 z_105).toArray 213)] ∧ gs = [] ∧ z_105.length = 6 ∧ HSub H H106) ⟨rfl, rfl, rfl, rfl, rfl, rfl, rfl, rfl, rfl, rfl, x__l, (HSub.refl _)⟩ ?_)
  rintro ⟨x_104, z_105⟩ x108 H106 f bs gs ⟨hf0, hf3, hf5, hf6, hf8, hf15, hf16, hf17, rfl, rfl, hz_105, hs106⟩ hF hr107
  rw [F_counts_test_add_s1] at hF
  refine (JC.norm (i := 0) hf0 (JC.norm (i := 3) hf3 (JC.norm (i := 5) hf5 (JC.norm (i := 6) hf6 (JC.norm (i := 8) hf8 (JC.norm (i := 15) hf15 (JC.norm (i := 16) hf16 (JC.norm (i := 17) hf17 ?_))))))))
  refine JC.seq (JC.region (by rfl) ?_)
  intro hQ
  refine JL.bin rfl rfl rfl .none rfl ?_
  refine JL.done hQ (JQ.go (JC.seq ?_))
  rcases ite_some hF with ⟨hc109, hF⟩ | ⟨hc109, hF⟩
  ·refine JC.cond_t (b := decide (x_104 < (t.Run.Meters.length : Int))) rfl hc109 ?_
   refine JC.skip (JQ.go (JC.seq (JC.block (JC.seq (JC.region (by rfl) ?_)))))
   intro hQ
   refine JL.move .none rfl ?_
   obtain ⟨y110, hy110, hF⟩ := bind_some hF
   refine JL.indexSL (R := R_Meter) sl_88 (SL.mono R_Meter_mono hs106 ht_10) rfl hy110 .none rfl ?_
   rintro b111 o112 cs113 hc114 - rfl
   refine JL.loadH 0 az_206 rfl hc114 rfl .none rfl ?_
   refine JL.alloc ze_206 .none rfl ?_
   intro b115
   refine JL.assign .none rfl ?_
   refine JL.storeOwn 0 (cs := [.int .i64 y110.Limit, .int .i64 y110.Count]) az_206 rfl rfl rfl (one_cons rfl (one_cons rfl one_nil)) rfl rfl .none ?_
   refine JL.done hQ (JQ.go (JC.seq (JC.region (by rfl) ?_)))
   intro hQ
   refine JL.move .none rfl ?_
   refine JL.fieldAddr fo_206_0 rfl .none rfl ?_
   refine JL.loadOwn 0 az_3 rfl rfl rfl .none rfl ?_
   refine JL.bin rfl rfl rfl .none rfl ?_
   refine JL.done hQ (JQ.go (JC.fresh (fun f => f 0 = .pointer (some ⟨t_b, t_o, none⟩) ∧ f 3 = .int .i64 force ∧ f 5 = .pointer (some ⟨b1, 0, none⟩) ∧ f 6 = .pointer (some ⟨b2, 0, none⟩) ∧ f 8 = .pointer (some ⟨b3, 0, none⟩) ∧ f 9 = .int .i64 x_104 ∧ f 15 = t_v10 ∧ f 16 = .int .i64 (t.Run.Meters.length : Int) ∧ f 17 = .int .i64 x_104 ∧ f 25 = .bool (decide (y110.Limit ≤ force))) ⟨rfl, rfl, rfl, rfl, rfl, rfl, rfl, rfl, rfl, rfl⟩ ?_))
   rintro f ⟨hf0, hf3, hf5, hf6, hf8, hf9, hf15, hf16, hf17, hf25⟩
   refine (JC.norm (i := 0) hf0 (JC.norm (i := 3) hf3 (JC.norm (i := 5) hf5 (JC.norm (i := 6) hf6 (JC.norm (i := 8) hf8 (JC.norm (i := 9) hf9 (JC.norm (i := 15) hf15 (JC.norm (i := 16) hf16 (JC.norm (i := 17) hf17 (JC.norm (i := 25) hf25 ?_))))))))))
   obtain ⟨r121, hlr121, hKr121⟩ := bind_some hF
   refine JC.join (fun (z_119 : List Int) H120 f bs gs => f 0 = .pointer (some ⟨t_b, t_o, none⟩) ∧ f 3 = .int .i64 force ∧ f 5 = .pointer (some ⟨b1, 0, none⟩) ∧ f 6 = .pointer (some ⟨b2, 0, none⟩) ∧ f 8 = .pointer (some ⟨b3, 0, none⟩) ∧ f 15 = t_v10 ∧ f 16 = .int .i64 (t.Run.Meters.length : Int) ∧ f 17 = .int .i64 x_104 ∧ bs = [(b3, .cells (av .i64 [0, 0, 0, 0, 0, 0]).toArray 213), (b2, .cells [.int .i64 b.At, .int .i64 b.Force.Low, .int .i64 b.Force.High].toArray 98), (b1, .cells (av .i64 z_119).toArray 213)] ∧ gs = [] ∧ z_119.length = 6 ∧ HSub H106 H120 ∧ z_119 = r121) ?_ ?_
   ·have hF := hlr121
    rcases ite_some hF with ⟨hc122, hF⟩ | ⟨hc122, hF⟩
    ·refine JC.cond_t (b := decide (y110.Limit ≤ force)) rfl hc122 ?_
     refine JC.region (by rfl) ?_
     intro hQ
     refine JL.move .none rfl ?_
     obtain ⟨y123, hy123, hF⟩ := bind_some hF
     refine JL.indexArrP (l := z_105) ar_213 az_3 rfl rfl hz_105 hy123 .none rfl ?_
     refine JL.loadEl (j := x_104) 3 az_3 rfl rfl hy123 .none rfl ?_
     refine JL.bin rfl rfl rfl .none rfl ?_
     obtain ⟨y124, hy124, hF⟩ := bind_some hF
     refine JL.indexArrP (l := z_105) ar_213 az_3 rfl rfl hz_105 hy124 .none rfl ?_
     refine JL.storeEl (j := x_104) 3 az_3 rfl rfl rfl hy124 .none ?_
     refine JL.done hQ ?_
     obtain rfl := Option.some.inj hF
     refine JQ.mask [false, true, true, true] [] ?_
     exact JQ.join (setx z_105 x_104 (w64 (y123 + 1))) ⟨rfl, rfl, rfl, rfl, rfl, rfl, rfl, rfl, rfl, rfl, (setx_length hz_105), (HSub.refl _), rfl⟩
    ·refine JC.cond_f (b := decide (y110.Limit ≤ force)) rfl hc122 ?_
     refine JC.skip ?_
     obtain rfl := Option.some.inj hF
     refine JQ.mask [false, true, true, true] [] ?_
     exact JQ.join z_105 ⟨rfl, rfl, rfl, rfl, rfl, rfl, rfl, rfl, rfl, rfl, hz_105, (HSub.refl _), rfl⟩
   ·rintro z_119 H120 f bs gs ⟨hf0, hf3, hf5, hf6, hf8, hf15, hf16, hf17, rfl, rfl, hz_119, hs120, rfl⟩
    have hF := hKr121
    try dsimp only at hF
    refine (JQ.norm (i := 0) hf0 (JQ.norm (i := 3) hf3 (JQ.norm (i := 5) hf5 (JQ.norm (i := 6) hf6 (JQ.norm (i := 8) hf8 (JQ.norm (i := 15) hf15 (JQ.norm (i := 16) hf16 (JQ.norm (i := 17) hf17 ?_))))))))
    refine JQ.normal_block (JQ.go (JC.region (by rfl) ?_))
    intro hQ
    refine JL.bin rfl rfl rfl .none rfl ?_
    refine JL.move .none rfl ?_
    refine JL.done hQ ?_
    obtain rfl := Option.some.inj hF
    exact JQ.next rfl ⟨rfl, rfl, rfl, rfl, rfl, rfl, rfl, rfl, rfl, rfl, hz_119, (HSub.trans hs106 hs120)⟩
  ·refine JC.cond_f (b := decide (x_104 < (t.Run.Meters.length : Int))) rfl hc109 ?_
   refine JC.exit (JQ.exit_then (JQ.exit_then (JQ.exit_block ?_)))
   obtain rfl := Option.some.inj hF
   have ehr107 := hr107 _ rfl
   subst ehr107
   exact JQ.join z_105 ⟨rfl, rfl, rfl, rfl, rfl, rfl, rfl, hz_105, hs106, rfl⟩
 ·rintro z_63 H64 f bs gs ⟨hf0, hf3, hf5, hf6, hf8, rfl, rfl, hz_63, hs64, rfl⟩
  have hF := hKr65
  try dsimp only at hF
  refine (JQ.norm (i := 0) hf0 (JQ.norm (i := 3) hf3 (JQ.norm (i := 5) hf5 (JQ.norm (i := 6) hf6 (JQ.norm (i := 8) hf8 ?_)))))
  refine JQ.go (JC.seq (JC.seq (JC.draw (by rfl) mo_ (by kernel_rfl) ?_)))
  intro hQ
  refine JL.move .none rfl ?_
  refine JL.nilCheck rfl .none rfl ?_
  refine JL.fieldAddr fo_239_1 rfl .none rfl ?_
  refine JL.loadH 12 az_168 rfl (Cells.mono hs64 t_c) rfl .none rfl ?_
  refine JL.loadOwn 1 az_98 rfl rfl rfl .none rfl ?_
  refine JL.move .none rfl ?_
  obtain ⟨y131, hy131, hF⟩ := bind_some hF
  obtain ⟨fk132, fc133, hv134, fe135, fh136⟩ := (FN_168.mono hs64 ht_12)
  refine JL.callV hv134 (fh136 H64 (HSub.refl _) b force y131 hy131) rfl fe135 .none rfl ?_
  refine JL.doneQ hQ ?_
  refine JQ.go ?_
  obtain ⟨r142, hlr142, hKr142⟩ := bind_some hF
  refine JC.join (fun (z_140 : List Int) H141 f bs gs => f 5 = .pointer (some ⟨b1, 0, none⟩) ∧ f 8 = .pointer (some ⟨b3, 0, none⟩) ∧ bs = [(b3, .cells (av .i64 [0, 0, 0, 0, 0, 0]).toArray 213), (b1, .cells (av .i64 z_140).toArray 213)] ∧ gs = [] ∧ z_140.length = 6 ∧ HSub H64 H141 ∧ z_140 = r142) ?_ ?_
  ·have hF := hlr142
   rcases ite_some hF with ⟨hc143, hF⟩ | ⟨hc143, hF⟩
   ·refine JC.cond_t (b := y131) rfl hc143 ?_
    refine JC.region (by rfl) ?_
    intro hQ
    obtain ⟨y144, hy144, hF⟩ := bind_some hF
    refine JL.indexArrP (l := z_63) ar_213 az_3 rfl rfl hz_63 hy144 .none rfl ?_
    refine JL.loadEl (j := 5) 2 az_3 rfl rfl hy144 .none rfl ?_
    refine JL.bin rfl rfl rfl .none rfl ?_
    obtain ⟨y145, hy145, hF⟩ := bind_some hF
    refine JL.indexArrP (l := z_63) ar_213 az_3 rfl rfl hz_63 hy145 .none rfl ?_
    refine JL.storeEl (j := 5) 2 az_3 rfl rfl rfl hy145 .none ?_
    refine JL.done hQ ?_
    obtain rfl := Option.some.inj hF
    refine JQ.mask [true, false, true] [] ?_
    exact JQ.join (setx z_63 5 (w64 (y144 + 1))) ⟨rfl, rfl, rfl, rfl, (setx_length hz_63), (HSub.refl _), rfl⟩
   ·refine JC.cond_f (b := y131) rfl hc143 ?_
    refine JC.skip ?_
    obtain rfl := Option.some.inj hF
    refine JQ.mask [true, false, true] [] ?_
    exact JQ.join z_63 ⟨rfl, rfl, rfl, rfl, hz_63, (HSub.refl _), rfl⟩
  ·rintro z_140 H141 f bs gs ⟨hf5, hf8, rfl, rfl, hz_140, hs141, rfl⟩
   have hF := hKr142
   try dsimp only at hF
   refine (JQ.norm (i := 5) hf5 (JQ.norm (i := 8) hf8 ?_))
   refine JQ.go (JC.seq (JC.region (by rfl) ?_))
   intro hQ
   refine JL.loadArr (l := z_140) 1 az_213 rfl rfl hz_140 .none rfl ?_
   refine JL.storeArr (l := [0, 0, 0, 0, 0, 0]) (l' := z_140) 0 az_213 rfl rfl rfl rfl hz_140 .none ?_
   refine JL.done hQ (JQ.go (JC.ret ?_))
   obtain rfl := Option.some.inj hF
   exact JQ.outS rfl (.cell 0 az_213 rfl rfl (loadw_arr hz_140) .nil) rfl
-- 222 (*ferrule/counts.test).readings
noncomputable def F_counts_test_readings_s3 (n : Nat) (t : counts_test) (y9857 : Blow) (v11500 : Int) (kl11499 : List Int) : Int × Mp → Option ((Int × Mp) ⊕ Mp)
 | (force_11768, m_11769) => if decide (force_11768 ≤ y9857.Force.High) = true then ((F_counts_test_add n t kl11499 y9857 force_11768).bind fun y11776 => (kok 6 y11776).bind fun _ => (kok 6 y11776).bind fun _ => some (Sum.inl ((w64 (force_11768 + 1)), (mput (mput m_11769 y11776 (mget m_11769 y11776)) y11776 (w64 ((mget m_11769 y11776) + v11500)))))) else (some (Sum.inr m_11769))
noncomputable def F_counts_test_readings_s2 (n : Nat) (t : counts_test) (y9857 : Blow) : Mp → List Int × Int → Option Mp
 | m_11491, (kl11499, v11500) => (loopO n (F_counts_test_readings_s3 n t y9857 v11500 kl11499) (y9857.Force.Low, m_11491)).bind fun m_11665 => some m_11665
noncomputable def F_counts_test_readings_s1 (n : Nat) (t : counts_test) : Mp × Int → Option ((Mp × Int) ⊕ Mp)
 | (m_9851, x_9852) => if decide (x_9852 < (t.Run.Blows.length : Int)) = true then ((geti t.Run.Blows x_9852).bind fun y9857 => ((permO (F_counts_test_readings_s2 n t y9857) ([] : Mp) m_9851).bind fun z11820 => match z11820 with | m_11491 => some m_11491).bind fun m_10843 => some (Sum.inl (m_10843, (w64 (x_9852 + 1))))) else (some (Sum.inr m_9851))
noncomputable def F_counts_test_readings (n : Nat) (t : counts_test) : Option Mp :=
 (kok 6 [0, 0, 0, 0, 0, 0]).bind fun _ => (loopO n (F_counts_test_readings_s1 n t) ((mput ([] : Mp) [0, 0, 0, 0, 0, 0] 1), 0)).bind fun m_5912 => some m_5912
theorem c_counts_test_readings (n : Nat) (H : Hp) (t : counts_test) (t_v0 : Value) (ht_0 : SL H 7 R_Section t_v0 t.Run.Canopy.Frame.Sections) (t_v7 : Value) (ht_7 : SL H 2 R_Span t_v7 t.Run.Canopy.Ribs) (t_v8 : Value) (ht_8 : SL H 1 RInt t_v8 t.Run.Canopy.Shares) (t_v9 : Value) (ht_9 : SL H 3 R_Blow t_v9 t.Run.Blows) (t_v10 : Value) (ht_10 : SL H 2 R_Meter t_v10 t.Run.Meters) (t_v12 : Value) (ht_12 : FN_168 H t_v12 t.asked) (t_b t_o : Nat) (t_c : Cells H t_b t_o [t_v0, .int .i64 t.Run.Canopy.Frame.Low, .int .i64 t.Run.Canopy.Frame.High, .int .i64 t.Run.Canopy.Frame.Ease.Num, .int .i64 t.Run.Canopy.Frame.Ease.Den, .int .i64 t.Run.Canopy.Frame.Rod, .int .i64 t.Run.Canopy.Frame.Case, t_v7, t_v8, t_v9, t_v10, .int .i64 t.Run.Wrong, t_v12]) (y : Mp) (hF : F_counts_test_readings n t = some y) : XB Try.prog 222 [.pointer (some ⟨t_b, t_o, none⟩)] H (fun H' v bs' => ∃ b es ck, v = .map (some b) ∧ bs' = [(b, .map es ck)] ∧ MR 6 ekA y es ck) := by
 rw [F_counts_test_readings] at hF
 refine XB.of (N := 55) Try.func222 rfl rfl rfl fun w => ?_
 refine JC.seq (JC.region (by rfl) ?_)
 intro hQ
 refine JL.assign .none rfl ?_
 refine JL.done hQ (JQ.go (JC.seq (JC.region (by rfl) ?_)))
 intro hQ
 refine JL.makeMap .none rfl ?_
 intro b1
 refine JL.build (l := [.int .i64 0, .int .i64 0, .int .i64 0, .int .i64 0, .int .i64 0, .int .i64 0]) (by kernel_rfl) .none rfl ?_
 obtain ⟨u2, hu2, hF⟩ := bind_some hF
 refine JL.insertM (k := [0, 0, 0, 0, 0, 0]) 0 mp_209 kt_213 rfl rfl MR.empty rfl hu2 rfl .none rfl ?_
 intro es3 ck4 hm5
 refine JL.move .none rfl ?_
 refine JL.assign .none rfl ?_
 refine JL.done hQ (JQ.go (JC.seq (JC.seq (JC.region (by rfl) ?_))))
 intro hQ
 refine JL.move .none rfl ?_
 refine JL.nilCheck rfl .none rfl ?_
 refine JL.fieldAddr fo_239_0 rfl .none rfl ?_
 refine JL.fieldAddr fo_90_1 rfl .none rfl ?_
 refine JL.loadH 9 az_87 rfl t_c rfl .none rfl ?_
 refine JL.lenSL (R := R_Blow) ul_87 ht_9 .none rfl ?_
 refine JL.move .none rfl ?_
 refine JL.done hQ (JQ.go ?_)
 obtain ⟨r5914, hlr5914, hKr5914⟩ := bind_some hF
 refine JC.join (fun (m_5912 : Mp) H5913 f bs gs => ∃ (bm_5912 : Nat) (em_5912 : Array MapEntry) (cm_5912 : Nat), f 3 = .map (some bm_5912) ∧ bs = [(bm_5912, .map em_5912 cm_5912)] ∧ gs = [] ∧ MR 6 ekA m_5912 em_5912 cm_5912 ∧ HSub H H5913 ∧ m_5912 = r5914) ?_ ?_
 ·skip
  refine JC.block (JC.loop hlr5914 (fun (x : Mp × Int) H9853 f bs gs => match x with | (m_9851, x_9852) => ∃ (bm_9851 : Nat) (em_9851 : Array MapEntry) (cm_9851 : Nat), f 0 = .pointer (some ⟨t_b, t_o, none⟩) ∧ f 3 = .map (some bm_9851) ∧ f 17 = t_v9 ∧ f 18 = .int .i64 (t.Run.Blows.length : Int) ∧ f 19 = .int .i64 x_9852 ∧ bs = [(bm_9851, .map em_9851 cm_9851)] ∧ gs = [] ∧ MR 6 ekA m_9851 em_9851 cm_9851 ∧ HSub H H9853) ⟨b1, es3, ck4, rfl, rfl, rfl, rfl, rfl, rfl, rfl, hm5, (HSub.refl _)⟩ ?_)
  rintro ⟨m_9851, x_9852⟩ x9855 H9853 f bs gs ⟨bm_9851, em_9851, cm_9851, hf0, hf3, hf17, hf18, hf19, rfl, rfl, hm_9851, hs9853⟩ hF hr9854
  rw [F_counts_test_readings_s1] at hF
  refine (JC.norm (i := 0) hf0 (JC.norm (i := 3) hf3 (JC.norm (i := 17) hf17 (JC.norm (i := 18) hf18 (JC.norm (i := 19) hf19 ?_)))))
  refine JC.seq (JC.region (by rfl) ?_)
  intro hQ
  refine JL.bin rfl rfl rfl .none rfl ?_
  refine JL.done hQ (JQ.go (JC.seq ?_))
  rcases ite_some hF with ⟨hc9856, hF⟩ | ⟨hc9856, hF⟩
  ·refine JC.cond_t (b := decide (x_9852 < (t.Run.Blows.length : Int))) rfl hc9856 ?_
   refine JC.skip (JQ.go (JC.seq (JC.block (JC.seq (JC.region (by rfl) ?_)))))
   intro hQ
   obtain ⟨y9857, hy9857, hF⟩ := bind_some hF
   refine JL.indexSL (R := R_Blow) sl_87 (SL.mono R_Blow_mono hs9853 ht_9) rfl hy9857 .none rfl ?_
   rintro b9858 o9859 cs9860 hc9861 - rfl
   refine JL.loadH 0 az_98 rfl hc9861 rfl .none rfl ?_
   refine JL.alloc ze_98 .none rfl ?_
   intro b9862
   refine JL.storeOwn 0 (cs := [.int .i64 y9857.At, .int .i64 y9857.Force.Low, .int .i64 y9857.Force.High]) az_98 rfl rfl rfl (one_cons rfl (one_cons rfl (one_cons rfl one_nil))) rfl rfl .none ?_
   refine JL.done hQ (JQ.go (JC.seq (JC.region (by rfl) ?_)))
   intro hQ
   refine JL.makeMap .none rfl ?_
   intro b9863
   refine JL.assign .none rfl ?_
   refine JL.done hQ (JQ.go (JC.seq (JC.seq (JC.region (by rfl) ?_))))
   intro hQ
   refine JL.move .none rfl ?_
   refine JL.rangeM mp_209 rfl (.own 2 rfl) hm_9851 .none rfl ?_
   intro r9864 sn9865 seen9866 cz9867 hI9868
   refine JL.done hQ (JQ.go ?_)
   obtain ⟨r10845, hlr10845, hKr10845⟩ := bind_some hF
   refine JC.join (fun (m_10843 : Mp) H10844 f bs gs => ∃ (em_10843 : Array MapEntry) (cm_10843 : Nat), f 0 = .pointer (some ⟨t_b, t_o, none⟩) ∧ f 6 = .map (some b9863) ∧ f 17 = t_v9 ∧ f 18 = .int .i64 (t.Run.Blows.length : Int) ∧ f 19 = .int .i64 x_9852 ∧ bs = [(b9863, .map em_10843 cm_10843)] ∧ gs = [] ∧ MR 6 ekA m_10843 em_10843 cm_10843 ∧ HSub H9853 H10844 ∧ m_10843 = r10845) ?_ ?_
   ·skip
    obtain ⟨rs11493, hper11494, hl11495⟩ := bind_some hlr10845
    refine JC.block (JC.mapLoop (srt_nodup hI9868.srt) hper11494 (fun (dd : Mp) (m_11491 : Mp) H11492 f bs gs => ∃ (em_11491 : Array MapEntry) (cm_11491 : Nat) (sn_r9864 : Nat) (se_r9864 : Array Nat) (cz_r9864 : Nat), f 0 = .pointer (some ⟨t_b, t_o, none⟩) ∧ f 5 = .pointer (some ⟨b9862, 0, none⟩) ∧ f 6 = .map (some b9863) ∧ f 17 = t_v9 ∧ f 18 = .int .i64 (t.Run.Blows.length : Int) ∧ f 19 = .int .i64 x_9852 ∧ f 25 = .pointer (some ⟨r9864, 0, none⟩) ∧ bs = [(r9864, .mapIter (some bm_9851) sn_r9864 se_r9864 cz_r9864), (b9863, .map em_11491 cm_11491), (b9862, .cells [.int .i64 y9857.At, .int .i64 y9857.Force.Low, .int .i64 y9857.Force.High].toArray 98), (bm_9851, .map em_9851 cm_9851)] ∧ gs = [] ∧ MR 6 ekA m_11491 em_11491 cm_11491 ∧ IR 6 ekA m_9851 m_9851 em_9851 cm_9851 sn_r9864 se_r9864 cz_r9864 dd ∧ HSub H9853 H11492) ⟨#[], 0, sn9865, seen9866, cz9867, rfl, rfl, rfl, rfl, rfl, rfl, rfl, rfl, rfl, MR.empty, hI9868, (HSub.refl _)⟩ ?_)
    rintro dd m_11491 H11492 f bs gs ⟨em_11491, cm_11491, sn_r9864, se_r9864, cz_r9864, hf0, hf5, hf6, hf17, hf18, hf19, hf25, rfl, rfl, hm_11491, hI_r9864, hs11492⟩ hend11496 hgo11497
    refine (JC.norm (i := 0) hf0 (JC.norm (i := 5) hf5 (JC.norm (i := 6) hf6 (JC.norm (i := 17) hf17 (JC.norm (i := 18) hf18 (JC.norm (i := 19) hf19 (JC.norm (i := 25) hf25 ?_)))))))
    refine JC.seq (JC.region (by rfl) ?_)
    intro hQ
    refine JL.nextM 0 kt_213 rfl rfl (.own 3 rfl) hm_9851 hI_r9864 .none rfl ?_ ?_
    ·intro hp11498
     refine JL.extract rfl rfl .none rfl ?_
     refine JL.done hQ (JQ.go (JC.seq (JC.cond_f (b := false) rfl rfl ?_)))
     refine JC.exit (JQ.exit_then (JQ.exit_then (JQ.exit_block ?_)))
     have er11510 := hend11496 hp11498
     subst er11510
     obtain rfl := Option.some.inj hl11495
     refine JQ.mask [false, true, false, false] [] ?_
     exact JQ.join m_11491 ⟨em_11491, cm_11491, rfl, rfl, rfl, rfl, rfl, rfl, rfl, hm_11491, hs11492, rfl⟩
    ·rintro ⟨kl11499, v11500⟩ seen11501 cz11502 hx11503 hxm11504 hxn11505 hI11506 hE11507
     have kok11511 := (hm_9851.okk _ hxm11504)
     dsimp only at kok11511
     obtain ⟨sp11509, hst11508⟩ := hgo11497 (kl11499, v11500) hx11503 hxn11505
     have hF := hst11508
     rw [F_counts_test_readings_s2] at hF
     refine JL.extract rfl rfl .none rfl ?_
     refine JL.done hQ (JQ.go (JC.seq (JC.cond_t (b := true) rfl rfl ?_)))
     refine JC.skip (JQ.go (JC.block (JC.seq (JC.region (by rfl) ?_))))
     intro hQ
     refine JL.entryIt (y := (kl11499, v11500)) 0 rfl rfl (.own 3 rfl) hm_9851 hE11507 .none rfl ?_
     refine JL.extract rfl rfl .none rfl ?_
     refine JL.extract rfl rfl .none rfl ?_
     refine JL.alloc ze_213 .none rfl ?_
     intro b11512
     refine JL.storeArr (l := [0, 0, 0, 0, 0, 0]) (l' := kl11499) 0 az_213 rfl rfl rfl rfl kok11511.1 .none ?_
     refine JL.assign .none rfl ?_
     refine JL.done hQ (JQ.go (JC.seq (JC.region (by rfl) ?_)))
     intro hQ
     refine JL.fieldAddr fo_98_1 rfl .none rfl ?_
     refine JL.fieldAddr fo_39_0 rfl .none rfl ?_
     refine JL.loadOwn 3 az_3 rfl rfl rfl .none rfl ?_
     refine JL.assign .none rfl ?_
     refine JL.done hQ (JQ.go (JC.fresh (fun f => f 0 = .pointer (some ⟨t_b, t_o, none⟩) ∧ f 5 = .pointer (some ⟨b9862, 0, none⟩) ∧ f 6 = .map (some b9863) ∧ f 7 = .pointer (some ⟨b11512, 0, none⟩) ∧ f 8 = .int .i64 v11500 ∧ f 9 = .int .i64 y9857.Force.Low ∧ f 17 = t_v9 ∧ f 18 = .int .i64 (t.Run.Blows.length : Int) ∧ f 19 = .int .i64 x_9852 ∧ f 25 = .pointer (some ⟨r9864, 0, none⟩)) ⟨rfl, rfl, rfl, rfl, rfl, rfl, rfl, rfl, rfl, rfl⟩ ?_))
     rintro f ⟨hf0, hf5, hf6, hf7, hf8, hf9, hf17, hf18, hf19, hf25⟩
     refine (JC.norm (i := 0) hf0 (JC.norm (i := 5) hf5 (JC.norm (i := 6) hf6 (JC.norm (i := 7) hf7 (JC.norm (i := 8) hf8 (JC.norm (i := 9) hf9 (JC.norm (i := 17) hf17 (JC.norm (i := 18) hf18 (JC.norm (i := 19) hf19 (JC.norm (i := 25) hf25 ?_))))))))))
     obtain ⟨r11667, hlr11667, hKr11667⟩ := bind_some hF
     refine JC.join (fun (m_11665 : Mp) H11666 f bs gs => ∃ (em_11665 : Array MapEntry) (cm_11665 : Nat), f 0 = .pointer (some ⟨t_b, t_o, none⟩) ∧ f 5 = .pointer (some ⟨b9862, 0, none⟩) ∧ f 6 = .map (some b9863) ∧ f 17 = t_v9 ∧ f 18 = .int .i64 (t.Run.Blows.length : Int) ∧ f 19 = .int .i64 x_9852 ∧ f 25 = .pointer (some ⟨r9864, 0, none⟩) ∧ bs = [(r9864, .mapIter (some bm_9851) sn_r9864 seen11501 cz11502), (b9863, .map em_11665 cm_11665), (b9862, .cells [.int .i64 y9857.At, .int .i64 y9857.Force.Low, .int .i64 y9857.Force.High].toArray 98), (bm_9851, .map em_9851 cm_9851)] ∧ gs = [] ∧ MR 6 ekA m_11665 em_11665 cm_11665 ∧ HSub H11492 H11666 ∧ m_11665 = r11667) ?_ ?_
     ·skip
      refine JC.block (JC.loop hlr11667 (fun (x : Int × Mp) H11770 f bs gs => match x with | (force_11768, m_11769) => ∃ (em_11769 : Array MapEntry) (cm_11769 : Nat), f 0 = .pointer (some ⟨t_b, t_o, none⟩) ∧ f 5 = .pointer (some ⟨b9862, 0, none⟩) ∧ f 6 = .map (some b9863) ∧ f 7 = .pointer (some ⟨b11512, 0, none⟩) ∧ f 8 = .int .i64 v11500 ∧ f 9 = .int .i64 force_11768 ∧ f 17 = t_v9 ∧ f 18 = .int .i64 (t.Run.Blows.length : Int) ∧ f 19 = .int .i64 x_9852 ∧ f 25 = .pointer (some ⟨r9864, 0, none⟩) ∧ bs = [(b11512, .cells (av .i64 kl11499).toArray 213), (r9864, .mapIter (some bm_9851) sn_r9864 seen11501 cz11502), (b9863, .map em_11769 cm_11769), (b9862, .cells [.int .i64 y9857.At, .int .i64 y9857.Force.Low, .int .i64 y9857.Force.High].toArray 98), (bm_9851, .map em_9851 cm_9851)] ∧ gs = [] ∧ MR 6 ekA m_11769 em_11769 cm_11769 ∧ HSub H11492 H11770) ⟨em_11491, cm_11491, rfl, rfl, rfl, rfl, rfl, rfl, rfl, rfl, rfl, rfl, rfl, rfl, hm_11491, (HSub.refl _)⟩ ?_)
      rintro ⟨force_11768, m_11769⟩ x11772 H11770 f bs gs ⟨em_11769, cm_11769, hf0, hf5, hf6, hf7, hf8, hf9, hf17, hf18, hf19, hf25, rfl, rfl, hm_11769, hs11770⟩ hF hr11771
      rw [F_counts_test_readings_s3] at hF
      refine (JC.norm (i := 0) hf0 (JC.norm (i := 5) hf5 (JC.norm (i := 6) hf6 (JC.norm (i := 7) hf7 (JC.norm (i := 8) hf8 (JC.norm (i := 9) hf9 (JC.norm (i := 17) hf17 (JC.norm (i := 18) hf18 (JC.norm (i := 19) hf19 (JC.norm (i := 25) hf25 ?_))))))))))
      refine JC.seq (JC.seq (JC.region (by rfl) ?_))
      intro hQ
      refine JL.move .none rfl ?_
      refine JL.fieldAddr fo_98_1 rfl .none rfl ?_
      refine JL.fieldAddr fo_39_1 rfl .none rfl ?_
      refine JL.loadOwn 3 az_3 rfl rfl rfl .none rfl ?_
      refine JL.bin rfl rfl rfl .none rfl ?_
      refine JL.done hQ (JQ.go ?_)
      rcases ite_some hF with ⟨hc11773, hF⟩ | ⟨hc11773, hF⟩
      ·refine JC.cond_t (b := decide (force_11768 ≤ y9857.Force.High)) rfl hc11773 ?_
       refine JC.skip (JQ.go (JC.seq (JC.block ?_)))
       obtain ⟨y11776, hy11776, hF⟩ := bind_some hF
       obtain ⟨u11777, hu11777, hF⟩ := bind_some hF
       obtain ⟨u11778, hu11778, hF⟩ := bind_some hF
       refine JC.mixed 12 12 #[false, false, false, false, false, false, false, false, false, false, false, false] [(b11512, .cells (av .i64 kl11499).toArray 213), (r9864, .mapIter (some bm_9851) sn_r9864 seen11501 cz11502), (b9862, .cells [.int .i64 y9857.At, .int .i64 y9857.Force.Low, .int .i64 y9857.Force.High].toArray 98), (bm_9851, .map em_9851 cm_9851)] (by rfl) mo_ (by kernel_rfl) (by kernel_rfl) ?_
       intro hQ hE
       refine JA.cut 1 #[true, true, true, true, true, true, true, true, true, true, true, false] (fun H11805 f bs gs => ∃ (es11798 : Array MapEntry) (ck11799 : Nat) (stp11800 : Int), f 0 = .pointer (some ⟨t_b, t_o, none⟩) ∧ f 5 = .pointer (some ⟨b9862, 0, none⟩) ∧ f 6 = .map (some b9863) ∧ f 7 = .pointer (some ⟨b11512, 0, none⟩) ∧ f 8 = .int .i64 v11500 ∧ f 9 = .int .i64 force_11768 ∧ f 17 = t_v9 ∧ f 18 = .int .i64 (t.Run.Blows.length : Int) ∧ f 19 = .int .i64 x_9852 ∧ f 25 = .pointer (some ⟨r9864, 0, none⟩) ∧ f 41 = .map (some b9863) ∧ f 49 = .int .i64 (w64 ((mget m_11769 y11776) + v11500)) ∧ f 51 = .int .i64 stp11800 ∧ bs = [(b11512, .cells (av .i64 kl11499).toArray 213), (r9864, .mapIter (some bm_9851) sn_r9864 seen11501 cz11502), (b9863, .map es11798 ck11799), (b9862, .cells [.int .i64 y9857.At, .int .i64 y9857.Force.Low, .int .i64 y9857.Force.High].toArray 98), (bm_9851, .map em_9851 cm_9851)] ∧ gs = [] ∧ MR 6 ekA (mput m_11769 y11776 (mget m_11769 y11776)) es11798 ck11799 ∧ EAt es11798 stp11800 (ekA y11776) ∧ HSub H11770 H11805) ?_ ?_
       ·rintro H11805 f bs gs ⟨es11798, ck11799, stp11800, hf0, hf5, hf6, hf7, hf8, hf9, hf17, hf18, hf19, hf25, hf41, hf49, hf51, rfl, rfl, hm11806, hm11807, hs11805⟩
        refine (JA.norm (i := 0) hf0 (JA.norm (i := 5) hf5 (JA.norm (i := 6) hf6 (JA.norm (i := 7) hf7 (JA.norm (i := 8) hf8 (JA.norm (i := 9) hf9 (JA.norm (i := 17) hf17 (JA.norm (i := 18) hf18 (JA.norm (i := 19) hf19 (JA.norm (i := 25) hf25 (JA.norm (i := 41) hf41 (JA.norm (i := 49) hf49 (JA.norm (i := 51) hf51 ?_)))))))))))))
        refine JA.many [11] (by kernel_rfl) (by simp) (all_one ⟨_, #[true, true, true, true, true, true, true, true, true, true, true, true], rfl, (by kernel_rfl), ?_⟩)
        refine JL.storeM (k := y11776) 2 kt_213 rfl rfl hm11806 (kok_some hu11778) rfl hm11807 rfl .none rfl ?_
        intro es11808 hm11809
        refine JA.after hE hs11805 (.cons_cons _ (.cons_cons _ (.cons _ (.cons_cons _ (.cons_cons _ (List.nil_sublist _)))))) ?_
        refine JA.done hQ (by kernel_rfl) ?_
        refine JQ.normal_block (JQ.go (JC.region (by rfl) ?_))
        intro hQ
        refine JL.move .none rfl ?_
        refine JL.bin rfl rfl rfl .none rfl ?_
        refine JL.assign .none rfl ?_
        refine JL.done hQ ?_
        obtain rfl := Option.some.inj hF
        exact JQ.next rfl ⟨es11808, ck11799, rfl, rfl, rfl, rfl, rfl, rfl, rfl, rfl, rfl, rfl, rfl, rfl, hm11809, (HSub.trans hs11770 hs11805)⟩
       intro nd11804_0
       refine JA.take 0 (listed' := #[true, false, false, false, false, false, false, false, false, false, false, false]) hQ rfl (by kernel_rfl) (by kernel_rfl) (by kernel_rfl) (by kernel_rfl) (by kernel_rfl) hE (HSub.refl _) (.cons_cons _ (.cons_cons _ (.cons _ (.cons_cons _ (.cons_cons _ (List.nil_sublist _)))))) ?_
       refine JL.move .none rfl ?_
       refine JA.cont ?_
       refine JA.take 1 (listed' := #[true, true, false, false, false, false, false, false, false, false, false, false]) hQ rfl (by kernel_rfl) (by kernel_rfl) (by kernel_rfl) (by kernel_rfl) (by kernel_rfl) hE (HSub.refl _) (.cons_cons _ (.cons_cons _ (.cons _ (.cons_cons _ (.cons_cons _ (List.nil_sublist _)))))) ?_
       refine JL.move .none rfl ?_
       refine JA.cont ?_
       refine JA.take 2 (listed' := #[true, true, true, false, false, false, false, false, false, false, false, false]) hQ rfl (by kernel_rfl) (by kernel_rfl) (by kernel_rfl) (by kernel_rfl) (by kernel_rfl) hE (HSub.refl _) (.cons_cons _ (.cons_cons _ (.cons _ (.cons_cons _ (.cons_cons _ (List.nil_sublist _)))))) ?_
       refine JL.loadArr (l := kl11499) 0 az_213 rfl rfl kok11511.1 .none rfl ?_
       refine JA.cont ?_
       refine JA.take 3 (listed' := #[true, true, true, true, false, false, false, false, false, false, false, false]) hQ rfl (by kernel_rfl) (by kernel_rfl) (by kernel_rfl) (by kernel_rfl) (by kernel_rfl) hE (HSub.refl _) (.cons_cons _ (.cons_cons _ (.cons _ (.cons_cons _ (.cons_cons _ (List.nil_sublist _)))))) ?_
       refine JL.loadOwn 2 az_98 rfl rfl rfl .none rfl ?_
       refine JA.cont ?_
       refine JA.take 4 (listed' := #[true, true, true, true, true, false, false, false, false, false, false, false]) hQ rfl (by kernel_rfl) (by kernel_rfl) (by kernel_rfl) (by kernel_rfl) (by kernel_rfl) hE (HSub.refl _) (.cons_cons _ (.cons_cons _ (.cons _ (.cons_cons _ (.cons_cons _ (List.nil_sublist _)))))) ?_
       refine JL.move .none rfl ?_
       refine JA.cont ?_
       refine JA.take 7 (listed' := #[true, true, true, true, true, false, false, true, false, false, false, false]) hQ rfl (by kernel_rfl) (by kernel_rfl) (by kernel_rfl) (by kernel_rfl) (by kernel_rfl) hE (HSub.refl _) (.cons_cons _ (.cons_cons _ (.cons _ (.cons_cons _ (.cons_cons _ (List.nil_sublist _)))))) ?_
       refine JL.move .none rfl ?_
       refine JA.cont ?_
       refine JA.many [5] (by kernel_rfl) (by simp) (all_one ⟨_, #[true, true, true, true, true, true, false, true, false, false, false, false], rfl, (by kernel_rfl), ?_⟩)
       refine JL.callS (c_counts_test_add n H11770 t t_v0 (SL.mono R_Section_mono (HSub.trans hs9853 (HSub.trans hs11492 hs11770)) ht_0) t_v7 (SL.mono R_Span_mono (HSub.trans hs9853 (HSub.trans hs11492 hs11770)) ht_7) t_v8 (SL.mono RInt.mono (HSub.trans hs9853 (HSub.trans hs11492 hs11770)) ht_8) t_v9 (SL.mono R_Blow_mono (HSub.trans hs9853 (HSub.trans hs11492 hs11770)) ht_9) t_v10 (SL.mono R_Meter_mono (HSub.trans hs9853 (HSub.trans hs11492 hs11770)) ht_10) t_v12 (FN_168.mono (HSub.trans hs9853 (HSub.trans hs11492 hs11770)) ht_12) t_b t_o (Cells.mono (HSub.trans hs9853 (HSub.trans hs11492 hs11770)) t_c) kl11499 kok11511.1 y9857 force_11768 y11776 hy11776) rfl en_241 .none rfl ?_
       refine JA.after hE (HSub.refl _) (.cons_cons _ (.cons_cons _ (.cons _ (.cons_cons _ (.cons_cons _ (List.nil_sublist _)))))) ?_
       refine JA.many [6, 9] (by kernel_rfl) (by simp) (all_cons ⟨_, #[true, true, true, true, true, true, true, true, false, false, false, false], rfl, (by kernel_rfl), ?_⟩ (all_one ⟨_, #[true, true, true, true, true, true, false, true, false, true, false, false], rfl, (by kernel_rfl), ?_⟩))
       ·skip
        refine JL.lookupM (k := y11776) mp_209 kt_213 rfl (.own 2 rfl) hm_11769 rfl hu11777 .none rfl ?_
        refine JA.after hE (HSub.refl _) (.cons_cons _ (.cons_cons _ (.cons _ (.cons_cons _ (.cons_cons _ (List.nil_sublist _)))))) ?_
        refine JA.take 8 (listed' := #[true, true, true, true, true, true, true, true, true, false, false, false]) hQ rfl (by kernel_rfl) (by kernel_rfl) (by kernel_rfl) (by kernel_rfl) (by kernel_rfl) hE (HSub.refl _) (.cons_cons _ (.cons_cons _ (.cons _ (.cons_cons _ (.cons_cons _ (List.nil_sublist _)))))) ?_
        refine JL.bin rfl rfl rfl .none rfl ?_
        refine JA.cont ?_
        refine JA.many [9] (by kernel_rfl) (by simp) (all_one ⟨_, #[true, true, true, true, true, true, true, true, true, true, false, false], rfl, (by kernel_rfl), ?_⟩)
        refine JL.entryM (k := y11776) 2 mp_209 kt_213 rfl rfl hm_11769 rfl hu11778 .none rfl ?_
        intro es11810 ck11811 stp11812 hm11813 he11814
        refine JA.after hE (HSub.refl _) (.cons_cons _ (.cons_cons _ (.cons _ (.cons_cons _ (.cons_cons _ (List.nil_sublist _)))))) ?_
        refine JA.take 10 (listed' := #[true, true, true, true, true, true, true, true, true, true, true, false]) hQ rfl (by kernel_rfl) (by kernel_rfl) (by kernel_rfl) (by kernel_rfl) (by kernel_rfl) hE (HSub.refl _) (.cons_cons _ (.cons_cons _ (.cons _ (.cons_cons _ (.cons_cons _ (List.nil_sublist _)))))) ?_
        refine JL.extract rfl rfl .none rfl ?_
        refine JA.cont ?_
        exact nd11804_0 _ _ _ _ ⟨es11810, ck11811, stp11812, rfl, rfl, rfl, rfl, rfl, rfl, rfl, rfl, rfl, rfl, rfl, rfl, rfl, rfl, rfl, hm11813, he11814, (HSub.refl _)⟩
       ·skip
        refine JL.entryM (k := y11776) 2 mp_209 kt_213 rfl rfl hm_11769 rfl hu11778 .none rfl ?_
        intro es11815 ck11816 stp11817 hm11818 he11819
        refine JA.after hE (HSub.refl _) (.cons_cons _ (.cons_cons _ (.cons _ (.cons_cons _ (.cons_cons _ (List.nil_sublist _)))))) ?_
        refine JA.take 10 (listed' := #[true, true, true, true, true, true, false, true, false, true, true, false]) hQ rfl (by kernel_rfl) (by kernel_rfl) (by kernel_rfl) (by kernel_rfl) (by kernel_rfl) hE (HSub.refl _) (.cons_cons _ (.cons_cons _ (.cons _ (.cons_cons _ (.cons_cons _ (List.nil_sublist _)))))) ?_
        refine JL.extract rfl rfl .none rfl ?_
        refine JA.cont ?_
        refine JA.many [6] (by kernel_rfl) (by simp) (all_one ⟨_, #[true, true, true, true, true, true, true, true, false, true, true, false], rfl, (by kernel_rfl), ?_⟩)
        refine JL.lookupMv (k := y11776) mp_209 kt_213 rfl (.own 2 rfl) hm11818 rfl hu11777 (mget_mput hm_11769.srt) .none rfl ?_
        refine JA.after hE (HSub.refl _) (.cons_cons _ (.cons_cons _ (.cons _ (.cons_cons _ (.cons_cons _ (List.nil_sublist _)))))) ?_
        refine JA.take 8 (listed' := #[true, true, true, true, true, true, true, true, true, true, true, false]) hQ rfl (by kernel_rfl) (by kernel_rfl) (by kernel_rfl) (by kernel_rfl) (by kernel_rfl) hE (HSub.refl _) (.cons_cons _ (.cons_cons _ (.cons _ (.cons_cons _ (.cons_cons _ (List.nil_sublist _)))))) ?_
        refine JL.bin rfl rfl rfl .none rfl ?_
        refine JA.cont ?_
        exact nd11804_0 _ _ _ _ ⟨es11815, ck11816, stp11817, rfl, rfl, rfl, rfl, rfl, rfl, rfl, rfl, rfl, rfl, rfl, rfl, rfl, rfl, rfl, hm11818, he11819, (HSub.refl _)⟩
      ·refine JC.cond_f (b := decide (force_11768 ≤ y9857.Force.High)) rfl hc11773 ?_
       refine JC.exit (JQ.exit_then (JQ.exit_then (JQ.exit_block ?_)))
       obtain rfl := Option.some.inj hF
       have ehr11771 := hr11771 _ rfl
       subst ehr11771
       refine JQ.mask [false, true, true, true, true] [] ?_
       exact JQ.join m_11769 ⟨em_11769, cm_11769, rfl, rfl, rfl, rfl, rfl, rfl, rfl, rfl, rfl, hm_11769, hs11770, rfl⟩
     ·rintro m_11665 H11666 f bs gs ⟨em_11665, cm_11665, hf0, hf5, hf6, hf17, hf18, hf19, hf25, rfl, rfl, hm_11665, hs11666, rfl⟩
      have hF := hKr11667
      try dsimp only at hF
      refine (JQ.norm (i := 0) hf0 (JQ.norm (i := 5) hf5 (JQ.norm (i := 6) hf6 (JQ.norm (i := 17) hf17 (JQ.norm (i := 18) hf18 (JQ.norm (i := 19) hf19 (JQ.norm (i := 25) hf25 ?_)))))))
      refine JQ.normal_block ?_
      obtain rfl := Option.some.inj hF
      exact JQ.mnext hx11503 hxn11505 hst11508 ⟨em_11665, cm_11665, sn_r9864, seen11501, cz11502, rfl, rfl, rfl, rfl, rfl, rfl, rfl, rfl, rfl, hm_11665, hI11506, (HSub.trans hs11492 hs11666)⟩
   ·rintro m_10843 H10844 f bs gs ⟨em_10843, cm_10843, hf0, hf6, hf17, hf18, hf19, rfl, rfl, hm_10843, hs10844, rfl⟩
    have hF := hKr10845
    try dsimp only at hF
    refine (JQ.norm (i := 0) hf0 (JQ.norm (i := 6) hf6 (JQ.norm (i := 17) hf17 (JQ.norm (i := 18) hf18 (JQ.norm (i := 19) hf19 ?_)))))
    refine JQ.go (JC.region (by rfl) ?_)
    intro hQ
    refine JL.move .none rfl ?_
    refine JL.assign .none rfl ?_
    refine JL.done hQ (JQ.normal_block (JQ.go (JC.region (by rfl) ?_)))
    intro hQ
    refine JL.bin rfl rfl rfl .none rfl ?_
    refine JL.move .none rfl ?_
    refine JL.done hQ ?_
    obtain rfl := Option.some.inj hF
    exact JQ.next rfl ⟨b9863, em_10843, cm_10843, rfl, rfl, rfl, rfl, rfl, rfl, rfl, hm_10843, (HSub.trans hs9853 hs10844)⟩
  ·refine JC.cond_f (b := decide (x_9852 < (t.Run.Blows.length : Int))) rfl hc9856 ?_
   refine JC.exit (JQ.exit_then (JQ.exit_then (JQ.exit_block ?_)))
   obtain rfl := Option.some.inj hF
   have ehr9854 := hr9854 _ rfl
   subst ehr9854
   exact JQ.join m_9851 ⟨bm_9851, em_9851, cm_9851, rfl, rfl, rfl, hm_9851, hs9853, rfl⟩
 ·rintro m_5912 H5913 f bs gs ⟨bm_5912, em_5912, cm_5912, hf3, rfl, rfl, hm_5912, hs5913, rfl⟩
  have hF := hKr5914
  try dsimp only at hF
  refine (JQ.norm (i := 3) hf3 ?_)
  refine JQ.go (JC.seq (JC.region (by rfl) ?_))
  intro hQ
  refine JL.move .none rfl ?_
  refine JL.assign .none rfl ?_
  refine JL.done hQ (JQ.go (JC.ret ?_))
  obtain rfl := Option.some.inj hF
  exact JQ.outB rfl (.tmp .nil) ⟨bm_5912, em_5912, cm_5912, rfl, rfl, hm_5912⟩
end Go.Proofs.Yteihdclpiekmaaa
end
section
set_option maxRecDepth 100000
set_option maxHeartbeats 40000000
namespace Go.Proofs.Yteihdclpiekmaaa
open Go Go.RowKit Go.Dec
set_option linter.unusedVariables false
-- 242 (*ferrule/counts.test).right
def F_counts_test_right (n : Nat) (t : counts_test) (x_ : List Int) (meter : Int) : Option Bool :=
 (geti x_ meter).bind fun y8 => (geti t.Run.Meters meter).bind fun y9 => some (y8 == y9.Count)
theorem c_counts_test_right (n : Nat) (H : Hp) (t : counts_test) (t_v0 : Value) (ht_0 : SL H 7 R_Section t_v0 t.Run.Canopy.Frame.Sections) (t_v7 : Value) (ht_7 : SL H 2 R_Span t_v7 t.Run.Canopy.Ribs) (t_v8 : Value) (ht_8 : SL H 1 RInt t_v8 t.Run.Canopy.Shares) (t_v9 : Value) (ht_9 : SL H 3 R_Blow t_v9 t.Run.Blows) (t_v10 : Value) (ht_10 : SL H 2 R_Meter t_v10 t.Run.Meters) (t_v12 : Value) (ht_12 : FN_168 H t_v12 t.asked) (t_b t_o : Nat) (t_c : Cells H t_b t_o [t_v0, .int .i64 t.Run.Canopy.Frame.Low, .int .i64 t.Run.Canopy.Frame.High, .int .i64 t.Run.Canopy.Frame.Ease.Num, .int .i64 t.Run.Canopy.Frame.Ease.Den, .int .i64 t.Run.Canopy.Frame.Rod, .int .i64 t.Run.Canopy.Frame.Case, t_v7, t_v8, t_v9, t_v10, .int .i64 t.Run.Wrong, t_v12]) (x_ : List Int) (x__l : x_.length = 6) (meter : Int) (y : Bool) (hF : F_counts_test_right n t x_ meter = some y) : SC Try.prog 242 [.pointer (some ⟨t_b, t_o, none⟩), .agg (av .i64 x_).toArray, .int .i64 meter] (.bool y) H := by
 rw [F_counts_test_right] at hF
 refine SC.of (N := 20) Try.func242 rfl rfl rfl fun w => ?_
 refine JC.seq (JC.region (by rfl) ?_)
 intro hQ
 refine JL.box (cs := av .i64 x_) rfl .none rfl ?_
 intro b1
 refine JL.assign .none rfl ?_
 refine JL.done hQ (JQ.go (JC.seq (JC.draw (by rfl) mo_ (by kernel_rfl) ?_)))
 intro hQ
 refine JL.move .none rfl ?_
 obtain ⟨y8, hy8, hF⟩ := bind_some hF
 refine JL.indexArrP (l := x_) ar_213 az_3 rfl rfl x__l hy8 .none rfl ?_
 refine JL.loadEl (j := meter) 0 az_3 rfl rfl hy8 .none rfl ?_
 refine JL.move .none rfl ?_
 refine JL.nilCheck rfl .none rfl ?_
 refine JL.fieldAddr fo_239_0 rfl .none rfl ?_
 refine JL.fieldAddr fo_90_2 rfl .none rfl ?_
 refine JL.loadH 10 az_88 rfl t_c rfl .none rfl ?_
 refine JL.move .none rfl ?_
 obtain ⟨y9, hy9, hF⟩ := bind_some hF
 refine JL.indexSL (R := R_Meter) sl_88 ht_10 rfl hy9 .none rfl ?_
 rintro b10 o11 cs12 hc13 - rfl
 refine JL.fieldAddr fo_206_1 rfl .none rfl ?_
 refine JL.loadH 1 az_3 rfl hc13 rfl .none rfl ?_
 refine JL.bin rfl rfl rfl .none rfl ?_
 refine JL.assign .none rfl ?_
 refine JL.doneQ hQ ?_
 refine JQ.go (JC.fresh (fun f => f 6 = .bool (y8 == y9.Count)) rfl ?_)
 rintro f hf6
 refine (JC.norm (i := 6) hf6 ?_)
 refine JC.ret ?_
 obtain rfl := Option.some.inj hF
 exact JQ.outS rfl (.tmp .nil) rfl
-- 223 (*ferrule/counts.test).wrong
def F_counts_test_wrong_s1 (n : Nat) (t : counts_test) (x_ : List Int) : Int × Int → Option ((Int × Int) ⊕ Int)
 | (n_57, x_58) => if decide (x_58 < (t.Run.Meters.length : Int)) = true then ((F_counts_test_right n t x_ x_58).bind fun y63 => (if (!y63) = true then (some (w64 (n_57 + 1))) else (some n_57)).bind fun n_65 => some (Sum.inl (n_65, (w64 (x_58 + 1))))) else (some (Sum.inr n_57))
def F_counts_test_wrong (n : Nat) (t : counts_test) (x_ : List Int) : Option Int :=
 (loopO n (F_counts_test_wrong_s1 n t x_) (0, 0)).bind fun n_34 => some n_34
theorem c_counts_test_wrong (n : Nat) (H : Hp) (t : counts_test) (t_v0 : Value) (ht_0 : SL H 7 R_Section t_v0 t.Run.Canopy.Frame.Sections) (t_v7 : Value) (ht_7 : SL H 2 R_Span t_v7 t.Run.Canopy.Ribs) (t_v8 : Value) (ht_8 : SL H 1 RInt t_v8 t.Run.Canopy.Shares) (t_v9 : Value) (ht_9 : SL H 3 R_Blow t_v9 t.Run.Blows) (t_v10 : Value) (ht_10 : SL H 2 R_Meter t_v10 t.Run.Meters) (t_v12 : Value) (ht_12 : FN_168 H t_v12 t.asked) (t_b t_o : Nat) (t_c : Cells H t_b t_o [t_v0, .int .i64 t.Run.Canopy.Frame.Low, .int .i64 t.Run.Canopy.Frame.High, .int .i64 t.Run.Canopy.Frame.Ease.Num, .int .i64 t.Run.Canopy.Frame.Ease.Den, .int .i64 t.Run.Canopy.Frame.Rod, .int .i64 t.Run.Canopy.Frame.Case, t_v7, t_v8, t_v9, t_v10, .int .i64 t.Run.Wrong, t_v12]) (x_ : List Int) (x__l : x_.length = 6) (y : Int) (hF : F_counts_test_wrong n t x_ = some y) : SC Try.prog 223 [.pointer (some ⟨t_b, t_o, none⟩), .agg (av .i64 x_).toArray] (.int .i64 y) H := by
 rw [F_counts_test_wrong] at hF
 refine SC.of (N := 25) Try.func223 rfl rfl rfl fun w => ?_
 refine JC.seq (JC.region (by rfl) ?_)
 intro hQ
 refine JL.box (cs := av .i64 x_) rfl .none rfl ?_
 intro b1
 refine JL.assign .none rfl ?_
 refine JL.done hQ (JQ.go (JC.seq (JC.region (by rfl) ?_)))
 intro hQ
 refine JL.assign .none rfl ?_
 refine JL.done hQ (JQ.go (JC.seq (JC.seq (JC.region (by rfl) ?_))))
 intro hQ
 refine JL.move .none rfl ?_
 refine JL.nilCheck rfl .none rfl ?_
 refine JL.fieldAddr fo_239_0 rfl .none rfl ?_
 refine JL.fieldAddr fo_90_2 rfl .none rfl ?_
 refine JL.loadH 10 az_88 rfl t_c rfl .none rfl ?_
 refine JL.lenSL (R := R_Meter) ul_88 ht_10 .none rfl ?_
 refine JL.move .none rfl ?_
 refine JL.done hQ (JQ.go ?_)
 obtain ⟨r36, hlr36, hKr36⟩ := bind_some hF
 refine JC.join (fun (n_34 : Int) H35 f bs gs => f 5 = .int .i64 n_34 ∧ bs = [] ∧ gs = [] ∧ HSub H H35 ∧ n_34 = r36) ?_ ?_
 ·skip
  refine JC.block (JC.loop hlr36 (fun (x : Int × Int) H59 f bs gs => match x with | (n_57, x_58) => f 0 = .pointer (some ⟨t_b, t_o, none⟩) ∧ f 3 = .pointer (some ⟨b1, 0, none⟩) ∧ f 5 = .int .i64 n_57 ∧ f 12 = .int .i64 (t.Run.Meters.length : Int) ∧ f 13 = .int .i64 x_58 ∧ bs = [(b1, .cells (av .i64 x_).toArray 213)] ∧ gs = [] ∧ HSub H H59) ⟨rfl, rfl, rfl, rfl, rfl, rfl, rfl, (HSub.refl _)⟩ ?_)
  rintro ⟨n_57, x_58⟩ x61 H59 f bs gs ⟨hf0, hf3, hf5, hf12, hf13, rfl, rfl, hs59⟩ hF hr60
  rw [F_counts_test_wrong_s1] at hF
  refine (JC.norm (i := 0) hf0 (JC.norm (i := 3) hf3 (JC.norm (i := 5) hf5 (JC.norm (i := 12) hf12 (JC.norm (i := 13) hf13 ?_)))))
  refine JC.seq (JC.region (by rfl) ?_)
  intro hQ
  refine JL.bin rfl rfl rfl .none rfl ?_
  refine JL.done hQ (JQ.go (JC.seq ?_))
  rcases ite_some hF with ⟨hc62, hF⟩ | ⟨hc62, hF⟩
  ·refine JC.cond_t (b := decide (x_58 < (t.Run.Meters.length : Int))) rfl hc62 ?_
   refine JC.skip (JQ.go (JC.seq (JC.block (JC.seq (JC.region (by rfl) ?_)))))
   intro hQ
   refine JL.move .none rfl ?_
   refine JL.assign .none rfl ?_
   refine JL.done hQ (JQ.go (JC.seq (JC.region (by rfl) ?_)))
   intro hQ
   refine JL.move .none rfl ?_
   refine JL.loadArr (l := x_) 0 az_213 rfl rfl x__l .none rfl ?_
   refine JL.move .none rfl ?_
   obtain ⟨y63, hy63, hF⟩ := bind_some hF
   refine JL.callS (c_counts_test_right n H59 t t_v0 (SL.mono R_Section_mono hs59 ht_0) t_v7 (SL.mono R_Span_mono hs59 ht_7) t_v8 (SL.mono RInt.mono hs59 ht_8) t_v9 (SL.mono R_Blow_mono hs59 ht_9) t_v10 (SL.mono R_Meter_mono hs59 ht_10) t_v12 (FN_168.mono hs59 ht_12) t_b t_o (Cells.mono hs59 t_c) x_ x__l x_58 y63 hy63) rfl en_242 .none rfl ?_
   refine JL.not rfl .none rfl ?_
   refine JL.done hQ (JQ.go ?_)
   obtain ⟨r67, hlr67, hKr67⟩ := bind_some hF
   refine JC.join (fun (n_65 : Int) H66 f bs gs => f 0 = .pointer (some ⟨t_b, t_o, none⟩) ∧ f 3 = .pointer (some ⟨b1, 0, none⟩) ∧ f 5 = .int .i64 n_65 ∧ f 12 = .int .i64 (t.Run.Meters.length : Int) ∧ f 13 = .int .i64 x_58 ∧ bs = [(b1, .cells (av .i64 x_).toArray 213)] ∧ gs = [] ∧ HSub H59 H66 ∧ n_65 = r67) ?_ ?_
   ·have hF := hlr67
    rcases ite_some hF with ⟨hc68, hF⟩ | ⟨hc68, hF⟩
    ·refine JC.cond_t (b := (!y63)) rfl hc68 ?_
     refine JC.region (by rfl) ?_
     intro hQ
     refine JL.move .none rfl ?_
     refine JL.bin rfl rfl rfl .none rfl ?_
     refine JL.assign .none rfl ?_
     refine JL.done hQ ?_
     obtain rfl := Option.some.inj hF
     exact JQ.join (w64 (n_57 + 1)) ⟨rfl, rfl, rfl, rfl, rfl, rfl, rfl, (HSub.refl _), rfl⟩
    ·refine JC.cond_f (b := (!y63)) rfl hc68 ?_
     refine JC.skip ?_
     obtain rfl := Option.some.inj hF
     exact JQ.join n_57 ⟨rfl, rfl, rfl, rfl, rfl, rfl, rfl, (HSub.refl _), rfl⟩
   ·rintro n_65 H66 f bs gs ⟨hf0, hf3, hf5, hf12, hf13, rfl, rfl, hs66, rfl⟩
    have hF := hKr67
    try dsimp only at hF
    refine (JQ.norm (i := 0) hf0 (JQ.norm (i := 3) hf3 (JQ.norm (i := 5) hf5 (JQ.norm (i := 12) hf12 (JQ.norm (i := 13) hf13 ?_)))))
    refine JQ.normal_block (JQ.go (JC.region (by rfl) ?_))
    intro hQ
    refine JL.bin rfl rfl rfl .none rfl ?_
    refine JL.move .none rfl ?_
    refine JL.done hQ ?_
    obtain rfl := Option.some.inj hF
    exact JQ.next rfl ⟨rfl, rfl, rfl, rfl, rfl, rfl, rfl, (HSub.trans hs59 hs66)⟩
  ·refine JC.cond_f (b := decide (x_58 < (t.Run.Meters.length : Int))) rfl hc62 ?_
   refine JC.exit (JQ.exit_then (JQ.exit_then (JQ.exit_block ?_)))
   obtain rfl := Option.some.inj hF
   have ehr60 := hr60 _ rfl
   subst ehr60
   refine JQ.mask [false] [] ?_
   exact JQ.join n_57 ⟨rfl, rfl, rfl, hs59, rfl⟩
 ·rintro n_34 H35 f bs gs ⟨hf5, rfl, rfl, hs35, rfl⟩
  have hF := hKr36
  try dsimp only at hF
  refine (JQ.norm (i := 5) hf5 ?_)
  refine JQ.go (JC.seq (JC.region (by rfl) ?_))
  intro hQ
  refine JL.move .none rfl ?_
  refine JL.assign .none rfl ?_
  refine JL.done hQ (JQ.go (JC.ret ?_))
  obtain rfl := Option.some.inj hF
  exact JQ.outS rfl (.tmp .nil) rfl
-- 185 (*ferrule/counts.test).truths
noncomputable def F_counts_test_truths_s1 (n : Nat) (t : counts_test) : Mp → List Int × Int → Option Mp
 | m_174, (kl182, v183) => (F_counts_test_wrong n t kl182).bind fun y197 => (if decide (t.Run.Wrong < y197) = true then (some (mdel m_174 kl182)) else (some m_174)).bind fun m_203 => some m_203
noncomputable def F_counts_test_truths (n : Nat) (t : counts_test) : Option Mp :=
 (F_counts_test_readings n t).bind fun y1 => ((permO (F_counts_test_truths_s1 n t) y1 y1).bind fun z211 => match z211 with | m_174 => some m_174).bind fun m_110 => some m_110
theorem c_counts_test_truths (n : Nat) (H : Hp) (t : counts_test) (t_v0 : Value) (ht_0 : SL H 7 R_Section t_v0 t.Run.Canopy.Frame.Sections) (t_v7 : Value) (ht_7 : SL H 2 R_Span t_v7 t.Run.Canopy.Ribs) (t_v8 : Value) (ht_8 : SL H 1 RInt t_v8 t.Run.Canopy.Shares) (t_v9 : Value) (ht_9 : SL H 3 R_Blow t_v9 t.Run.Blows) (t_v10 : Value) (ht_10 : SL H 2 R_Meter t_v10 t.Run.Meters) (t_v12 : Value) (ht_12 : FN_168 H t_v12 t.asked) (t_b t_o : Nat) (t_c : Cells H t_b t_o [t_v0, .int .i64 t.Run.Canopy.Frame.Low, .int .i64 t.Run.Canopy.Frame.High, .int .i64 t.Run.Canopy.Frame.Ease.Num, .int .i64 t.Run.Canopy.Frame.Ease.Den, .int .i64 t.Run.Canopy.Frame.Rod, .int .i64 t.Run.Canopy.Frame.Case, t_v7, t_v8, t_v9, t_v10, .int .i64 t.Run.Wrong, t_v12]) (y : Mp) (hF : F_counts_test_truths n t = some y) : XB Try.prog 185 [.pointer (some ⟨t_b, t_o, none⟩)] H (fun H' v bs' => ∃ b es ck, v = .map (some b) ∧ bs' = [(b, .map es ck)] ∧ MR 6 ekA y es ck) := by
 rw [F_counts_test_truths] at hF
 refine XB.of (N := 25) Try.func185 rfl rfl rfl fun w => ?_
 refine JC.seq (JC.region (by rfl) ?_)
 intro hQ
 refine JL.assign .none rfl ?_
 refine JL.done hQ (JQ.go (JC.seq (JC.region (by rfl) ?_)))
 intro hQ
 refine JL.move .none rfl ?_
 obtain ⟨y1, hy1, hF⟩ := bind_some hF
 refine JL.callXB (c_counts_test_readings n H t t_v0 ht_0 t_v7 ht_7 t_v8 ht_8 t_v9 ht_9 t_v10 ht_10 t_v12 ht_12 t_b t_o t_c y1 hy1) rfl en_222 .none rfl ?_
 rintro H2 _ _ hs2 ⟨b3, es4, ck5, rfl, rfl, hm6⟩
 refine JL.assign .none rfl ?_
 refine JL.done hQ (JQ.go (JC.seq (JC.seq (JC.region (by rfl) ?_))))
 intro hQ
 refine JL.move .none rfl ?_
 refine JL.rangeM mp_209 rfl (.own 0 rfl) hm6 .none rfl ?_
 intro r7 sn8 seen9 cz10 hI11
 refine JL.done hQ (JQ.go ?_)
 obtain ⟨r112, hlr112, hKr112⟩ := bind_some hF
 refine JC.join (fun (m_110 : Mp) H111 f bs gs => ∃ (em_110 : Array MapEntry) (cm_110 : Nat), f 3 = .map (some b3) ∧ bs = [(b3, .map em_110 cm_110)] ∧ gs = [] ∧ MR 6 ekA m_110 em_110 cm_110 ∧ HSub H2 H111 ∧ m_110 = r112) ?_ ?_
 ·skip
  obtain ⟨rs176, hper177, hl178⟩ := bind_some hlr112
  refine JC.block (JC.mapLoop (srt_nodup hI11.srt) hper177 (fun (dd : Mp) (m_174 : Mp) H175 f bs gs => ∃ (em_174 : Array MapEntry) (cm_174 : Nat) (sn_r7 : Nat) (se_r7 : Array Nat) (cz_r7 : Nat), f 0 = .pointer (some ⟨t_b, t_o, none⟩) ∧ f 3 = .map (some b3) ∧ f 8 = .pointer (some ⟨r7, 0, none⟩) ∧ bs = [(r7, .mapIter (some b3) sn_r7 se_r7 cz_r7), (b3, .map em_174 cm_174)] ∧ gs = [] ∧ MR 6 ekA m_174 em_174 cm_174 ∧ IR 6 ekA y1 m_174 em_174 cm_174 sn_r7 se_r7 cz_r7 dd ∧ HSub H2 H175) ⟨es4, ck5, sn8, seen9, cz10, rfl, rfl, rfl, rfl, rfl, hm6, hI11, (HSub.refl _)⟩ ?_)
  rintro dd m_174 H175 f bs gs ⟨em_174, cm_174, sn_r7, se_r7, cz_r7, hf0, hf3, hf8, rfl, rfl, hm_174, hI_r7, hs175⟩ hend179 hgo180
  refine (JC.norm (i := 0) hf0 (JC.norm (i := 3) hf3 (JC.norm (i := 8) hf8 ?_)))
  refine JC.seq (JC.region (by rfl) ?_)
  intro hQ
  refine JL.nextM 0 kt_213 rfl rfl (.own 1 rfl) hm_174 hI_r7 .none rfl ?_ ?_
  ·intro hp181
   refine JL.extract rfl rfl .none rfl ?_
   refine JL.done hQ (JQ.go (JC.seq (JC.cond_f (b := false) rfl rfl ?_)))
   refine JC.exit (JQ.exit_then (JQ.exit_then (JQ.exit_block ?_)))
   have er193 := hend179 hp181
   subst er193
   obtain rfl := Option.some.inj hl178
   refine JQ.mask [false, true] [] ?_
   exact JQ.join m_174 ⟨em_174, cm_174, rfl, rfl, rfl, hm_174, hs175, rfl⟩
  ·rintro ⟨kl182, v183⟩ seen184 cz185 hx186 hxm187 hxn188 hI189 hE190
   have kok194 := (hm_174.okk _ hxm187)
   dsimp only at kok194
   obtain ⟨sp192, hst191⟩ := hgo180 (kl182, v183) hx186 hxn188
   have hF := hst191
   rw [F_counts_test_truths_s1] at hF
   refine JL.extract rfl rfl .none rfl ?_
   refine JL.done hQ (JQ.go (JC.seq (JC.cond_t (b := true) rfl rfl ?_)))
   refine JC.skip (JQ.go (JC.block (JC.seq (JC.region (by rfl) ?_))))
   intro hQ
   refine JL.entryIt (y := (kl182, v183)) 0 rfl rfl (.own 1 rfl) hm_174 hE190 .none rfl ?_
   refine JL.extract rfl rfl .none rfl ?_
   refine JL.alloc ze_213 .none rfl ?_
   intro b195
   refine JL.storeArr (l := [0, 0, 0, 0, 0, 0]) (l' := kl182) 0 az_213 rfl rfl rfl rfl kok194.1 .none ?_
   refine JL.done hQ (JQ.go (JC.seq (JC.draw (by rfl) mo_ (by kernel_rfl) ?_)))
   intro hQ
   refine JL.move .none rfl ?_
   refine JL.loadArr (l := kl182) 0 az_213 rfl rfl kok194.1 .none rfl ?_
   obtain ⟨y197, hy197, hF⟩ := bind_some hF
   refine JL.callS (c_counts_test_wrong n H175 t t_v0 (SL.mono R_Section_mono (HSub.trans hs2 hs175) ht_0) t_v7 (SL.mono R_Span_mono (HSub.trans hs2 hs175) ht_7) t_v8 (SL.mono RInt.mono (HSub.trans hs2 hs175) ht_8) t_v9 (SL.mono R_Blow_mono (HSub.trans hs2 hs175) ht_9) t_v10 (SL.mono R_Meter_mono (HSub.trans hs2 hs175) ht_10) t_v12 (FN_168.mono (HSub.trans hs2 hs175) ht_12) t_b t_o (Cells.mono (HSub.trans hs2 hs175) t_c) kl182 kok194.1 y197 hy197) rfl en_223 .none rfl ?_
   refine JL.move .none rfl ?_
   refine JL.nilCheck rfl .none rfl ?_
   refine JL.fieldAddr fo_239_0 rfl .none rfl ?_
   refine JL.fieldAddr fo_90_3 rfl .none rfl ?_
   refine JL.loadH 11 az_3 rfl (Cells.mono (HSub.trans hs2 hs175) t_c) rfl .none rfl ?_
   refine JL.bin rfl rfl rfl .none rfl ?_
   refine JL.doneQ hQ ?_
   refine JQ.go (JC.fresh (fun f => f 0 = .pointer (some ⟨t_b, t_o, none⟩) ∧ f 3 = .map (some b3) ∧ f 4 = .pointer (some ⟨b195, 0, none⟩) ∧ f 8 = .pointer (some ⟨r7, 0, none⟩) ∧ f 21 = .bool (decide (t.Run.Wrong < y197))) ⟨rfl, rfl, rfl, rfl, rfl⟩ ?_)
   rintro f ⟨hf0, hf3, hf4, hf8, hf21⟩
   refine (JC.norm (i := 0) hf0 (JC.norm (i := 3) hf3 (JC.norm (i := 4) hf4 (JC.norm (i := 8) hf8 (JC.norm (i := 21) hf21 ?_)))))
   obtain ⟨r205, hlr205, hKr205⟩ := bind_some hF
   refine JC.join (fun (m_203 : Mp) H204 f bs gs => ∃ (em_203 : Array MapEntry) (cm_203 : Nat), f 0 = .pointer (some ⟨t_b, t_o, none⟩) ∧ f 3 = .map (some b3) ∧ f 8 = .pointer (some ⟨r7, 0, none⟩) ∧ bs = [(r7, .mapIter (some b3) sn_r7 seen184 cz185), (b3, .map em_203 cm_203)] ∧ gs = [] ∧ MR 6 ekA m_203 em_203 cm_203 ∧ IR 6 ekA y1 m_203 em_203 cm_203 sn_r7 seen184 cz185 (dd ++ [(kl182, v183)]) ∧ HSub H175 H204 ∧ m_203 = r205) ?_ ?_
   ·have hF := hlr205
    rcases ite_some hF with ⟨hc206, hF⟩ | ⟨hc206, hF⟩
    ·refine JC.cond_t (b := decide (t.Run.Wrong < y197)) rfl hc206 ?_
     refine JC.region (by rfl) ?_
     intro hQ
     refine JL.move .none rfl ?_
     refine JL.loadArr (l := kl182) 0 az_213 rfl rfl kok194.1 .none rfl ?_
     refine JL.deleteM (k := kl182) 2 mp_209 kt_213 rfl rfl hm_174 rfl kok194 .none rfl ?_
     intro es207 hm208 hsu209
     have hI210 := hI189.drop hsu209 (x := (kl182, v183)) (List.mem_append_right _ (List.mem_singleton.2 rfl))
     refine JL.done hQ ?_
     obtain rfl := Option.some.inj hF
     refine JQ.mask [false, true, true] [] ?_
     exact JQ.join (mdel m_174 kl182) ⟨es207, cm_174, rfl, rfl, rfl, rfl, rfl, hm208, hI210, (HSub.refl _), rfl⟩
    ·refine JC.cond_f (b := decide (t.Run.Wrong < y197)) rfl hc206 ?_
     refine JC.skip ?_
     obtain rfl := Option.some.inj hF
     refine JQ.mask [false, true, true] [] ?_
     exact JQ.join m_174 ⟨em_174, cm_174, rfl, rfl, rfl, rfl, rfl, hm_174, hI189, (HSub.refl _), rfl⟩
   ·rintro m_203 H204 f bs gs ⟨em_203, cm_203, hf0, hf3, hf8, rfl, rfl, hm_203, hIm_203, hs204, rfl⟩
    have hF := hKr205
    try dsimp only at hF
    refine (JQ.norm (i := 0) hf0 (JQ.norm (i := 3) hf3 (JQ.norm (i := 8) hf8 ?_)))
    refine JQ.normal_block ?_
    obtain rfl := Option.some.inj hF
    exact JQ.mnext hx186 hxn188 hst191 ⟨em_203, cm_203, sn_r7, seen184, cz185, rfl, rfl, rfl, rfl, rfl, hm_203, hIm_203, (HSub.trans hs175 hs204)⟩
 ·rintro m_110 H111 f bs gs ⟨em_110, cm_110, hf3, rfl, rfl, hm_110, hs111, rfl⟩
  have hF := hKr112
  try dsimp only at hF
  refine (JQ.norm (i := 3) hf3 ?_)
  refine JQ.go (JC.seq (JC.region (by rfl) ?_))
  intro hQ
  refine JL.move .none rfl ?_
  refine JL.assign .none rfl ?_
  refine JL.done hQ (JQ.go (JC.ret ?_))
  obtain rfl := Option.some.inj hF
  exact JQ.outB rfl (.tmp .nil) ⟨b3, em_110, cm_110, rfl, rfl, hm_110⟩
-- 148 ferrule/counts.open
noncomputable def F_counts_open (n : Nat) (r : Run) (is : Bool) (asked : Blow → Int → Option Bool) : Option ((Option counts_test) × Mp × Int) :=
 (F_counts_Check n r).bind fun y2 => if (y2 != 0) = true then (some ((none : Option counts_test), ([] : Mp), y2)) else (if (!is) = true then (some ((none : Option counts_test), ([] : Mp), 1)) else ((F_counts_test_truths n (counts_test.mk r asked)).bind fun y23 => if ((y23.length : Int) == 0) = true then (some ((none : Option counts_test), ([] : Mp), 3)) else (some ((some (counts_test.mk r asked)), y23, 0))))
theorem c_counts_open (n : Nat) (H : Hp) (r : Run) (r_v0 : Value) (hr_0 : SL H 7 R_Section r_v0 r.Canopy.Frame.Sections) (r_v7 : Value) (hr_7 : SL H 2 R_Span r_v7 r.Canopy.Ribs) (r_v8 : Value) (hr_8 : SL H 1 RInt r_v8 r.Canopy.Shares) (r_v9 : Value) (hr_9 : SL H 3 R_Blow r_v9 r.Blows) (r_v10 : Value) (hr_10 : SL H 2 R_Meter r_v10 r.Meters) (is : Bool) (asked : Blow → Int → Option Bool) (asked_k : Nat) (asked_c : List Value) (asked_e : Ent Try.prog asked_k) (asked_h : ∀ H', HSub H H' → ∀ (a0_ : Blow) (a1_ : Int) (y : Bool), asked a0_ a1_ = some y → SC Try.prog asked_k ([.agg [.int .i64 a0_.At, .int .i64 a0_.Force.Low, .int .i64 a0_.Force.High].toArray, .int .i64 a1_] ++ asked_c) (.bool y) H') (y : (Option counts_test) × Mp × Int) (hF : F_counts_open n r is asked = some y) : HC Try.prog 148 [.agg [r_v0, .int .i64 r.Canopy.Frame.Low, .int .i64 r.Canopy.Frame.High, .int .i64 r.Canopy.Frame.Ease.Num, .int .i64 r.Canopy.Frame.Ease.Den, .int .i64 r.Canopy.Frame.Rod, .int .i64 r.Canopy.Frame.Case, r_v7, r_v8, r_v9, r_v10, .int .i64 r.Wrong].toArray, .bool is, .func (.func asked_k) #[] asked_c.toArray] H (fun H' v => ∃ ra_v0 rb_v0 : Value, v = .tuple [ra_v0, rb_v0, .int .i64 y.2.2].toArray ∧ PT H' R_counts_test ra_v0 y.1 ∧ MD 6 ekA H' rb_v0 y.2.1) := by
 rw [F_counts_open] at hF
 refine HC.of (N := 30) Try.func148 rfl rfl rfl fun w => ?_
 refine JC.seq (JC.region (by rfl) ?_)
 intro hQ
 refine JL.box (cs := [r_v0, .int .i64 r.Canopy.Frame.Low, .int .i64 r.Canopy.Frame.High, .int .i64 r.Canopy.Frame.Ease.Num, .int .i64 r.Canopy.Frame.Ease.Den, .int .i64 r.Canopy.Frame.Rod, .int .i64 r.Canopy.Frame.Case, r_v7, r_v8, r_v9, r_v10, .int .i64 r.Wrong]) rfl .none rfl ?_
 intro b1
 refine JL.assign .none rfl ?_
 refine JL.assign .none rfl ?_
 refine JL.assign .none rfl ?_
 refine JL.done hQ (JQ.go (JC.seq (JC.seq (JC.region (by rfl) ?_))))
 intro hQ
 refine JL.loadOwn 0 az_90 rfl rfl rfl .none rfl ?_
 obtain ⟨y2, hy2, hF⟩ := bind_some hF
 refine JL.callS (c_counts_Check n H r r_v0 hr_0 r_v7 hr_7 r_v8 hr_8 r_v9 hr_9 r_v10 hr_10 y2 hy2) rfl en_184 .none rfl ?_
 refine JL.assign .none rfl ?_
 refine JL.done hQ (JQ.go (JC.seq (JC.region (by rfl) ?_)))
 intro hQ
 refine JL.move .none rfl ?_
 refine JL.bin rfl rfl rfl .none rfl ?_
 refine JL.done hQ (JQ.go ?_)
 rcases ite_some hF with ⟨hc3, hF⟩ | ⟨hc3, hF⟩
 ·refine JC.cond_t (b := (y2 != 0)) rfl hc3 ?_
  refine JC.seq (JC.region (by rfl) ?_)
  intro hQ
  refine JL.move .none rfl ?_
  refine JL.assign .none rfl ?_
  refine JL.assign .none rfl ?_
  refine JL.assign .none rfl ?_
  refine JL.done hQ (JQ.go (JC.ret (JQ.ret_then ?_)))
  obtain rfl := Option.some.inj hF
  exact JQ.outH rfl (.tmp (.tmp (.tmp .nil))) ⟨(.pointer none), (.map none), rfl, rfl, MD.nil⟩
 ·refine JC.cond_f (b := (y2 != 0)) rfl hc3 ?_
  refine JC.skip (JQ.go (JC.seq (JC.seq (JC.region (by rfl) ?_))))
  intro hQ
  refine JL.move .none rfl ?_
  refine JL.not rfl .none rfl ?_
  refine JL.done hQ (JQ.go (JC.fresh (fun f => f 2 = .func (.func asked_k) #[] asked_c.toArray ∧ f 3 = .pointer (some ⟨b1, 0, none⟩) ∧ f 6 = .pointer none ∧ f 7 = .map none ∧ f 8 = .int .i64 0 ∧ f 18 = .bool (!is)) ⟨rfl, rfl, rfl, rfl, rfl, rfl⟩ ?_))
  rintro f ⟨hf2, hf3, hf6, hf7, hf8, hf18⟩
  refine (JC.norm (i := 2) hf2 (JC.norm (i := 3) hf3 (JC.norm (i := 6) hf6 (JC.norm (i := 7) hf7 (JC.norm (i := 8) hf8 (JC.norm (i := 18) hf18 ?_))))))
  rcases ite_some hF with ⟨hc4, hF⟩ | ⟨hc4, hF⟩
  ·refine JC.cond_t (b := (!is)) rfl hc4 ?_
   refine JC.seq (JC.region (by rfl) ?_)
   intro hQ
   refine JL.assign .none rfl ?_
   refine JL.assign .none rfl ?_
   refine JL.assign .none rfl ?_
   refine JL.done hQ (JQ.go (JC.ret (JQ.ret_then ?_)))
   obtain rfl := Option.some.inj hF
   exact JQ.outH rfl (.tmp (.tmp (.tmp .nil))) ⟨(.pointer none), (.map none), rfl, rfl, MD.nil⟩
  ·refine JC.cond_f (b := (!is)) rfl hc4 ?_
   refine JC.skip (JQ.go (JC.seq (JC.region (by rfl) ?_)))
   intro hQ
   refine JL.loadOwn 0 az_90 rfl rfl rfl .none rfl ?_
   refine JL.move .none rfl ?_
   obtain ⟨a5, c6, rfl, hh7⟩ := hr_0
   have hr_0 : SL H 7 R_Section (.slice a5 r.Canopy.Frame.Sections.length c6) r.Canopy.Frame.Sections := ⟨a5, c6, rfl, hh7⟩
   obtain ⟨a8, c9, rfl, hh10⟩ := hr_7
   have hr_7 : SL H 2 R_Span (.slice a8 r.Canopy.Ribs.length c9) r.Canopy.Ribs := ⟨a8, c9, rfl, hh10⟩
   obtain ⟨a11, c12, rfl, hh13⟩ := hr_8
   have hr_8 : SL H 1 RInt (.slice a11 r.Canopy.Shares.length c12) r.Canopy.Shares := ⟨a11, c12, rfl, hh13⟩
   obtain ⟨a14, c15, rfl, hh16⟩ := hr_9
   have hr_9 : SL H 3 R_Blow (.slice a14 r.Blows.length c15) r.Blows := ⟨a14, c15, rfl, hh16⟩
   obtain ⟨a17, c18, rfl, hh19⟩ := hr_10
   have hr_10 : SL H 2 R_Meter (.slice a17 r.Meters.length c18) r.Meters := ⟨a17, c18, rfl, hh19⟩
   refine JL.build (l := [(.slice a5 r.Canopy.Frame.Sections.length c6), .int .i64 r.Canopy.Frame.Low, .int .i64 r.Canopy.Frame.High, .int .i64 r.Canopy.Frame.Ease.Num, .int .i64 r.Canopy.Frame.Ease.Den, .int .i64 r.Canopy.Frame.Rod, .int .i64 r.Canopy.Frame.Case, (.slice a8 r.Canopy.Ribs.length c9), (.slice a11 r.Canopy.Shares.length c12), (.slice a14 r.Blows.length c15), (.slice a17 r.Meters.length c18), .int .i64 r.Wrong, .func (.func asked_k) #[] asked_c.toArray]) (by kernel_rfl) .none rfl ?_
   refine JL.box (cs := [(.slice a5 r.Canopy.Frame.Sections.length c6), .int .i64 r.Canopy.Frame.Low, .int .i64 r.Canopy.Frame.High, .int .i64 r.Canopy.Frame.Ease.Num, .int .i64 r.Canopy.Frame.Ease.Den, .int .i64 r.Canopy.Frame.Rod, .int .i64 r.Canopy.Frame.Case, (.slice a8 r.Canopy.Ribs.length c9), (.slice a11 r.Canopy.Shares.length c12), (.slice a14 r.Blows.length c15), (.slice a17 r.Meters.length c18), .int .i64 r.Wrong, .func (.func asked_k) #[] asked_c.toArray]) rfl .none rfl ?_
   intro b20
   refine JL.assign .none rfl ?_
   refine JL.done hQ (JQ.go (JC.seq (JC.region (by rfl) ?_)))
   intro hQ
   refine JL.move .none rfl ?_
   refine JL.freezeC 0 (l := [(.slice a5 r.Canopy.Frame.Sections.length c6), .int .i64 r.Canopy.Frame.Low, .int .i64 r.Canopy.Frame.High, .int .i64 r.Canopy.Frame.Ease.Num, .int .i64 r.Canopy.Frame.Ease.Den, .int .i64 r.Canopy.Frame.Rod, .int .i64 r.Canopy.Frame.Case, (.slice a8 r.Canopy.Ribs.length c9), (.slice a11 r.Canopy.Shares.length c12), (.slice a14 r.Blows.length c15), (.slice a17 r.Meters.length c18), .int .i64 r.Wrong, .func (.func asked_k) #[] asked_c.toArray]) rfl ?_
   intro H21 hs21 hc22
   obtain ⟨y23, hy23, hF⟩ := bind_some hF
   refine JL.callXB (c_counts_test_truths n H21 (counts_test.mk r asked) (.slice a5 r.Canopy.Frame.Sections.length c6) (SL.mono R_Section_mono hs21 hr_0) (.slice a8 r.Canopy.Ribs.length c9) (SL.mono R_Span_mono hs21 hr_7) (.slice a11 r.Canopy.Shares.length c12) (SL.mono RInt.mono hs21 hr_8) (.slice a14 r.Blows.length c15) (SL.mono R_Blow_mono hs21 hr_9) (.slice a17 r.Meters.length c18) (SL.mono R_Meter_mono hs21 hr_10) (.func (.func asked_k) #[] asked_c.toArray) ⟨asked_k, asked_c, rfl, asked_e, (fun H' hs' => asked_h H' (HSub.trans hs21 hs'))⟩ b20 0 hc22 y23 hy23) rfl en_185 .none rfl ?_
   rintro H24 _ _ hs24 ⟨b25, es26, ck27, rfl, rfl, hm28⟩
   refine JL.assign .none rfl ?_
   refine JL.done hQ (JQ.go (JC.fresh (fun f => f 6 = .pointer none ∧ f 7 = .map none ∧ f 8 = .int .i64 0 ∧ f 10 = .pointer (some ⟨b20, 0, none⟩) ∧ f 11 = .map (some b25)) ⟨rfl, rfl, rfl, rfl, rfl⟩ ?_))
   rintro f ⟨hf6, hf7, hf8, hf10, hf11⟩
   refine (JC.norm (i := 6) hf6 (JC.norm (i := 7) hf7 (JC.norm (i := 8) hf8 (JC.norm (i := 10) hf10 (JC.norm (i := 11) hf11 ?_)))))
   refine JC.seq (JC.seq (JC.region (by rfl) ?_))
   intro hQ
   refine JL.move .none rfl ?_
   refine JL.lenM mp_209 rfl (.own 0 rfl) hm28 .none rfl ?_
   refine JL.bin rfl rfl rfl .none rfl ?_
   refine JL.done hQ (JQ.go ?_)
   rcases ite_some hF with ⟨hc29, hF⟩ | ⟨hc29, hF⟩
   ·refine JC.cond_t (b := ((y23.length : Int) == 0)) rfl hc29 ?_
    refine JC.seq (JC.region (by rfl) ?_)
    intro hQ
    refine JL.assign .none rfl ?_
    refine JL.assign .none rfl ?_
    refine JL.assign .none rfl ?_
    refine JL.done hQ (JQ.go (JC.ret (JQ.ret_then ?_)))
    obtain rfl := Option.some.inj hF
    exact JQ.outH rfl (.tmp (.tmp (.tmp .nil))) ⟨(.pointer none), (.map none), rfl, rfl, MD.nil⟩
   ·refine JC.cond_f (b := ((y23.length : Int) == 0)) rfl hc29 ?_
    refine JC.skip (JQ.go (JC.seq (JC.region (by rfl) ?_)))
    intro hQ
    refine JL.move .none rfl ?_
    refine JL.move .none rfl ?_
    refine JL.assign .none rfl ?_
    refine JL.assign .none rfl ?_
    refine JL.assign .none rfl ?_
    refine JL.done hQ (JQ.go (JC.ret (JQ.freezeM 0 rfl hm28 ?_)))
    intro H30 hs30 hmd31
    obtain rfl := Option.some.inj hF
    exact JQ.outH rfl (.tmp (.tmp (.tmp .nil))) ⟨(.pointer (some ⟨b20, 0, none⟩)), (.map (some b25)), rfl, ⟨_, _, _, rfl, (Cells.mono (HSub.trans hs24 hs30) hc22), ⟨(.slice a5 r.Canopy.Frame.Sections.length c6), (.slice a8 r.Canopy.Ribs.length c9), (.slice a11 r.Canopy.Shares.length c12), (.slice a14 r.Blows.length c15), (.slice a17 r.Meters.length c18), .func (.func asked_k) #[] asked_c.toArray, rfl, (SL.mono R_Section_mono (HSub.trans hs21 (HSub.trans hs24 hs30)) hr_0), (SL.mono R_Span_mono (HSub.trans hs21 (HSub.trans hs24 hs30)) hr_7), (SL.mono RInt.mono (HSub.trans hs21 (HSub.trans hs24 hs30)) hr_8), (SL.mono R_Blow_mono (HSub.trans hs21 (HSub.trans hs24 hs30)) hr_9), (SL.mono R_Meter_mono (HSub.trans hs21 (HSub.trans hs24 hs30)) hr_10), ⟨asked_k, asked_c, rfl, asked_e, (fun H' hs' => asked_h H' (HSub.trans (HSub.trans hs21 (HSub.trans hs24 hs30)) hs'))⟩⟩⟩, hmd31⟩
-- 149 ferrule/counts.none
def F_counts_none (n : Nat) (a0 : Blow) (a1 : Int) : Option Bool :=
 some false
theorem c_counts_none (n : Nat) (H : Hp) (a0 : Blow) (a1 : Int) (y : Bool) (hF : F_counts_none n a0 a1 = some y) : SC Try.prog 149 [.agg [.int .i64 a0.At, .int .i64 a0.Force.Low, .int .i64 a0.Force.High].toArray, .int .i64 a1] (.bool y) H := by
 rw [F_counts_none] at hF
 refine SC.of (N := 5) Try.func149 rfl rfl rfl fun w => ?_
 refine JC.seq (JC.region (by rfl) ?_)
 intro hQ
 refine JL.box (cs := [.int .i64 a0.At, .int .i64 a0.Force.Low, .int .i64 a0.Force.High]) rfl .none rfl ?_
 intro b1
 refine JL.assign .none rfl ?_
 refine JL.done hQ (JQ.go (JC.seq (JC.region (by rfl) ?_)))
 intro hQ
 refine JL.assign .none rfl ?_
 refine JL.done hQ (JQ.go (JC.ret ?_))
 obtain rfl := Option.some.inj hF
 exact JQ.outS rfl (.tmp .nil) rfl
-- 95 ferrule/counts.Many
noncomputable def F_counts_Many_s1 (n : Nat)  : Int → List Int × Int → Option Int
 | sum_100, (kl108, v109) => some (w64 (sum_100 + v109))
noncomputable def F_counts_Many (n : Nat) (r : Run) : Option (Int × Int) :=
 (F_counts_open n r true (fun a0_ a1_ => F_counts_none n a0_ a1_)).bind fun y2 => if (y2.2.2 != 0) = true then (some (0, y2.2.2)) else ((neM y2.2.1).bind fun _ => ((permO (F_counts_Many_s1 n) 0 y2.2.1).bind fun z121 => match z121 with | sum_100 => some sum_100).bind fun sum_68 => some (sum_68, 0))
theorem c_counts_Many (n : Nat) (H : Hp) (r : Run) (r_v0 : Value) (hr_0 : SL H 7 R_Section r_v0 r.Canopy.Frame.Sections) (r_v7 : Value) (hr_7 : SL H 2 R_Span r_v7 r.Canopy.Ribs) (r_v8 : Value) (hr_8 : SL H 1 RInt r_v8 r.Canopy.Shares) (r_v9 : Value) (hr_9 : SL H 3 R_Blow r_v9 r.Blows) (r_v10 : Value) (hr_10 : SL H 2 R_Meter r_v10 r.Meters) (y : Int × Int) (hF : F_counts_Many n r = some y) : SC Try.prog 95 [.agg [r_v0, .int .i64 r.Canopy.Frame.Low, .int .i64 r.Canopy.Frame.High, .int .i64 r.Canopy.Frame.Ease.Num, .int .i64 r.Canopy.Frame.Ease.Den, .int .i64 r.Canopy.Frame.Rod, .int .i64 r.Canopy.Frame.Case, r_v7, r_v8, r_v9, r_v10, .int .i64 r.Wrong].toArray] (.tuple [.int .i64 y.1, .int .i64 y.2].toArray) H := by
 rw [F_counts_Many] at hF
 refine SC.of (N := 29) Try.func95 rfl rfl rfl fun w => ?_
 refine JC.seq (JC.region (by rfl) ?_)
 intro hQ
 refine JL.box (cs := [r_v0, .int .i64 r.Canopy.Frame.Low, .int .i64 r.Canopy.Frame.High, .int .i64 r.Canopy.Frame.Ease.Num, .int .i64 r.Canopy.Frame.Ease.Den, .int .i64 r.Canopy.Frame.Rod, .int .i64 r.Canopy.Frame.Case, r_v7, r_v8, r_v9, r_v10, .int .i64 r.Wrong]) rfl .none rfl ?_
 intro b1
 refine JL.assign .none rfl ?_
 refine JL.assign .none rfl ?_
 refine JL.done hQ (JQ.go (JC.seq (JC.region (by rfl) ?_)))
 intro hQ
 refine JL.loadOwn 0 az_90 rfl rfl rfl .none rfl ?_
 obtain ⟨y2, hy2, hF⟩ := bind_some hF
 refine JL.callH (c_counts_open n H r r_v0 hr_0 r_v7 hr_7 r_v8 hr_8 r_v9 hr_9 r_v10 hr_10 true (fun a0_ a1_ => F_counts_none n a0_ a1_) 149 [] en_149 (fun H' hs' a0_ a1_ y' hy' => c_counts_none n H' a0_ a1_ y' hy') y2 hy2) rfl en_148 .none rfl ?_
 rintro H3 vv4 hs3 ⟨y2a_v0, y2b_v0, rfl, hy2a_0, hy2b_0⟩
 refine JL.move .none rfl ?_
 refine JL.extract rfl rfl .none rfl ?_
 refine JL.extract rfl rfl .none rfl ?_
 refine JL.extract rfl rfl .none rfl ?_
 refine JL.assign .none rfl ?_
 refine JL.assign .none rfl ?_
 refine JL.assign .none rfl ?_
 refine JL.done hQ (JQ.go (JC.seq (JC.seq (JC.region (by rfl) ?_))))
 intro hQ
 refine JL.move .none rfl ?_
 refine JL.bin rfl rfl rfl .none rfl ?_
 refine JL.done hQ (JQ.go (JC.fresh (fun f => f 2 = .int .i64 0 ∧ f 3 = .int .i64 0 ∧ f 5 = y2b_v0 ∧ f 6 = .int .i64 y2.2.2 ∧ f 17 = .bool (y2.2.2 != 0)) ⟨rfl, rfl, rfl, rfl, rfl⟩ ?_))
 rintro f ⟨hf2, hf3, hf5, hf6, hf17⟩
 refine (JC.norm (i := 2) hf2 (JC.norm (i := 3) hf3 (JC.norm (i := 5) hf5 (JC.norm (i := 6) hf6 (JC.norm (i := 17) hf17 ?_)))))
 rcases ite_some hF with ⟨hc5, hF⟩ | ⟨hc5, hF⟩
 ·refine JC.cond_t (b := (y2.2.2 != 0)) rfl hc5 ?_
  refine JC.seq (JC.region (by rfl) ?_)
  intro hQ
  refine JL.move .none rfl ?_
  refine JL.assign .none rfl ?_
  refine JL.assign .none rfl ?_
  refine JL.done hQ (JQ.go (JC.ret (JQ.ret_then ?_)))
  obtain rfl := Option.some.inj hF
  exact JQ.outS rfl (.tmp (.tmp .nil)) rfl
 ·refine JC.cond_f (b := (y2.2.2 != 0)) rfl hc5 ?_
  refine JC.skip (JQ.go (JC.seq (JC.region (by rfl) ?_)))
  intro hQ
  refine JL.assign .none rfl ?_
  refine JL.done hQ (JQ.go (JC.seq (JC.seq (JC.region (by rfl) ?_))))
  intro hQ
  refine JL.move .none rfl ?_
  obtain ⟨u11, hu11, hF⟩ := bind_some hF
  obtain ⟨mb12, es13, ck14, hv15, hH16, hm17⟩ := MD.get hy2b_0 (neM_some hu11)
  refine JL.rangeM mp_209 hv15 (.data hH16) hm17 .none rfl ?_
  intro r6 sn7 seen8 cz9 hI10
  refine JL.done hQ (JQ.go ?_)
  obtain ⟨r70, hlr70, hKr70⟩ := bind_some hF
  refine JC.join (fun (sum_68 : Int) H69 f bs gs => f 7 = .int .i64 sum_68 ∧ bs = [] ∧ gs = [] ∧ HSub H3 H69 ∧ sum_68 = r70) ?_ ?_
  ·skip
   obtain ⟨rs102, hper103, hl104⟩ := bind_some hlr70
   refine JC.block (JC.mask [true, false] [] ?_)
   refine JC.mapLoop (srt_nodup hI10.srt) hper103 (fun (dd : Mp) (sum_100 : Int) H101 f bs gs => ∃ (sn_r6 : Nat) (se_r6 : Array Nat) (cz_r6 : Nat), f 7 = .int .i64 sum_100 ∧ f 20 = .pointer (some ⟨r6, 0, none⟩) ∧ bs = [(r6, .mapIter (some mb12) sn_r6 se_r6 cz_r6)] ∧ gs = [] ∧ IR 6 ekA y2.2.1 y2.2.1 es13 ck14 sn_r6 se_r6 cz_r6 dd ∧ HSub H3 H101) ⟨sn7, seen8, cz9, rfl, rfl, rfl, rfl, hI10, (HSub.refl _)⟩ ?_
   rintro dd sum_100 H101 f bs gs ⟨sn_r6, se_r6, cz_r6, hf7, hf20, rfl, rfl, hI_r6, hs101⟩ hend105 hgo106
   refine (JC.norm (i := 7) hf7 (JC.norm (i := 20) hf20 ?_))
   refine JC.seq (JC.region (by rfl) ?_)
   intro hQ
   refine JL.nextM 0 kt_213 rfl rfl (.data (hs101.le _ _ hH16)) hm17 hI_r6 .none rfl ?_ ?_
   ·intro hp107
    refine JL.extract rfl rfl .none rfl ?_
    refine JL.done hQ (JQ.go (JC.seq (JC.cond_f (b := false) rfl rfl ?_)))
    refine JC.exit (JQ.exit_then (JQ.exit_then (JQ.exit_block ?_)))
    have er119 := hend105 hp107
    subst er119
    obtain rfl := Option.some.inj hl104
    refine JQ.mask [false] [] ?_
    exact JQ.join sum_100 ⟨rfl, rfl, rfl, hs101, rfl⟩
   ·rintro ⟨kl108, v109⟩ seen110 cz111 hx112 hxm113 hxn114 hI115 hE116
    have kok120 := (hm17.okk _ hxm113)
    dsimp only at kok120
    obtain ⟨sp118, hst117⟩ := hgo106 (kl108, v109) hx112 hxn114
    have hF := hst117
    rw [F_counts_Many_s1] at hF
    refine JL.extract rfl rfl .none rfl ?_
    refine JL.done hQ (JQ.go (JC.seq (JC.cond_t (b := true) rfl rfl ?_)))
    refine JC.skip (JQ.go (JC.block (JC.seq (JC.region (by rfl) ?_))))
    intro hQ
    refine JL.entryIt (y := (kl108, v109)) 0 rfl rfl (.data (hs101.le _ _ hH16)) hm17 hE116 .none rfl ?_
    refine JL.extract rfl rfl .none rfl ?_
    refine JL.assign .none rfl ?_
    refine JL.done hQ (JQ.go (JC.region (by rfl) ?_))
    intro hQ
    refine JL.move .none rfl ?_
    refine JL.move .none rfl ?_
    refine JL.bin rfl rfl rfl .none rfl ?_
    refine JL.assign .none rfl ?_
    refine JL.done hQ (JQ.normal_block ?_)
    obtain rfl := Option.some.inj hF
    exact JQ.mnext hx112 hxn114 hst117 ⟨sn_r6, seen110, cz111, rfl, rfl, rfl, rfl, hI115, hs101⟩
  ·rintro sum_68 H69 f bs gs ⟨hf7, rfl, rfl, hs69, rfl⟩
   have hF := hKr70
   try dsimp only at hF
   refine (JQ.norm (i := 7) hf7 ?_)
   refine JQ.go (JC.seq (JC.region (by rfl) ?_))
   intro hQ
   refine JL.move .none rfl ?_
   refine JL.assign .none rfl ?_
   refine JL.assign .none rfl ?_
   refine JL.done hQ (JQ.go (JC.ret ?_))
   obtain rfl := Option.some.inj hF
   exact JQ.outS rfl (.tmp (.tmp .nil)) rfl
-- 42 ferrule/ferruletop.tested
noncomputable def F_top_tested (n : Nat)  : Option Bool :=
 (F_law05_Example n).bind fun y1 => (F_gusts_Lift n y1).bind fun y4 => (F_law13_Example n).bind fun y6 => (F_counts_Many n y6).bind fun y9 => some ((((y4.2 == 0) && (y9.2 == 0)) && ((y4.1.Low == 65) && (y4.1.High == 76))) && (y9.1 == 22))
theorem c_top_tested (n : Nat) (H : Hp)  (y : Bool) (hF : F_top_tested n = some y) : SC Try.prog 42 [] (.bool y) H := by
 rw [F_top_tested] at hF
 refine SC.of (N := 30) Try.func42 rfl rfl rfl fun w => ?_
 refine JC.seq (JC.region (by rfl) ?_)
 intro hQ
 refine JL.assign .none rfl ?_
 refine JL.done hQ (JQ.go (JC.seq (JC.region (by rfl) ?_)))
 intro hQ
 obtain ⟨y1, hy1, hF⟩ := bind_some hF
 refine JL.callH (c_law05_Example n H y1 hy1) rfl en_83 .none rfl ?_
 rintro H2 vv3 hs2 ⟨y1a_v0, y1a_v7, y1a_v8, rfl, hy1a_0, hy1a_7, hy1a_8⟩
 obtain ⟨y4, hy4, hF⟩ := bind_some hF
 refine JL.callS (c_gusts_Lift n H2 y1 y1a_v0 hy1a_0 y1a_v7 hy1a_7 y1a_v8 hy1a_8 y4 hy4) rfl en_36 .none rfl ?_
 refine JL.move .none rfl ?_
 refine JL.extract rfl rfl .none rfl ?_
 refine JL.extract rfl rfl .none rfl ?_
 refine JL.alloc ze_39 .none rfl ?_
 intro b5
 refine JL.storeOwn 0 (cs := [.int .i64 y4.1.Low, .int .i64 y4.1.High]) az_39 rfl rfl rfl (one_cons rfl (one_cons rfl one_nil)) rfl rfl .none ?_
 refine JL.assign .none rfl ?_
 refine JL.done hQ (JQ.go (JC.seq (JC.region (by rfl) ?_)))
 intro hQ
 obtain ⟨y6, hy6, hF⟩ := bind_some hF
 refine JL.callH (c_law13_Example n H2 y6 hy6) rfl en_96 .none rfl ?_
 rintro H7 vv8 hs7 ⟨y6a_v0, y6a_v7, y6a_v8, y6a_v9, y6a_v10, rfl, hy6a_0, hy6a_7, hy6a_8, hy6a_9, hy6a_10⟩
 obtain ⟨y9, hy9, hF⟩ := bind_some hF
 refine JL.callS (c_counts_Many n H7 y6 y6a_v0 hy6a_0 y6a_v7 hy6a_7 y6a_v8 hy6a_8 y6a_v9 hy6a_9 y6a_v10 hy6a_10 y9 hy9) rfl en_95 .none rfl ?_
 refine JL.move .none rfl ?_
 refine JL.extract rfl rfl .none rfl ?_
 refine JL.extract rfl rfl .none rfl ?_
 refine JL.assign .none rfl ?_
 refine JL.assign .none rfl ?_
 refine JL.done hQ (JQ.go (JC.fresh (fun f => f 0 = .bool false ∧ f 1 = .pointer (some ⟨b5, 0, none⟩) ∧ f 2 = .int .i64 y4.2 ∧ f 3 = .int .i64 y9.1 ∧ f 4 = .int .i64 y9.2) ⟨rfl, rfl, rfl, rfl, rfl⟩ ?_))
 rintro f ⟨hf0, hf1, hf2, hf3, hf4⟩
 refine (JC.norm (i := 0) hf0 (JC.norm (i := 1) hf1 (JC.norm (i := 2) hf2 (JC.norm (i := 3) hf3 (JC.norm (i := 4) hf4 ?_)))))
 refine JC.seq (JC.region (by rfl) ?_)
 intro hQ
 refine JL.move .none rfl ?_
 refine JL.bin rfl rfl rfl .none rfl ?_
 refine JL.move .none rfl ?_
 refine JL.cut 3 (fun f => f 1 = .pointer (some ⟨b5, 0, none⟩) ∧ f 3 = .int .i64 y9.1 ∧ f 20 = .bool ((y4.2 == 0) && (y9.2 == 0))) ?_ ?_
 ·intro hJ10
  rcases bcases (y4.2 == 0) with hc11 | hc11
  ·skip
   refine JL.move (.some rfl rfl rfl hc11) rfl ?_
   refine JL.bin rfl rfl rfl (.some rfl rfl rfl hc11) rfl ?_
   refine JL.pick_t (b := (y4.2 == 0)) rfl hc11 .none rfl ?_
   exact hJ10 _ ⟨rfl, rfl, and_t hc11 rfl⟩
  ·skip
   refine JL.skip (.bool rfl rfl rfl hc11) rfl ?_
   refine JL.skip (.bool rfl rfl rfl hc11) rfl ?_
   refine JL.pick_f (b := (y4.2 == 0)) rfl hc11 .none rfl ?_
   exact hJ10 _ ⟨rfl, rfl, and_f hc11 rfl⟩
 ·rintro f ⟨hf1, hf3, hf20⟩
  refine (JL.norm (i := 1) hf1 (JL.norm (i := 3) hf3 (JL.norm (i := 20) hf20 ?_)))
  refine JL.move .none rfl ?_
  refine JL.cut 4 (fun f => f 3 = .int .i64 y9.1 ∧ f 25 = .bool (((y4.2 == 0) && (y9.2 == 0)) && ((y4.1.Low == 65) && (y4.1.High == 76)))) ?_ ?_
  ·intro hJ12
   rcases bcases ((y4.2 == 0) && (y9.2 == 0)) with hc13 | hc13
   ·skip
    refine JL.loadOwn 0 az_39 rfl rfl rfl (.some rfl rfl rfl hc13) rfl ?_
    refine JL.build (l := [.int .i64 65, .int .i64 76]) (by kernel_rfl) (.some rfl rfl rfl hc13) rfl ?_
    refine JL.eqAgg eqg_39 rfl rfl (fun w => eqa_39 y4.1.Low y4.1.High 65 76 w) (.some rfl rfl rfl hc13) rfl ?_
    refine JL.pick_t (b := ((y4.2 == 0) && (y9.2 == 0))) rfl hc13 .none rfl ?_
    exact hJ12 _ ⟨rfl, and_t hc13 rfl⟩
   ·skip
    refine JL.skip (.bool rfl rfl rfl hc13) rfl ?_
    refine JL.skip (.bool rfl rfl rfl hc13) rfl ?_
    refine JL.skip (.bool rfl rfl rfl hc13) rfl ?_
    refine JL.pick_f (b := ((y4.2 == 0) && (y9.2 == 0))) rfl hc13 .none rfl ?_
    exact hJ12 _ ⟨rfl, and_f hc13 rfl⟩
  ·rintro f ⟨hf3, hf25⟩
   refine (JL.norm (i := 3) hf3 (JL.norm (i := 25) hf25 ?_))
   refine JL.move .none rfl ?_
   refine JL.cut 3 (fun f => f 29 = .bool ((((y4.2 == 0) && (y9.2 == 0)) && ((y4.1.Low == 65) && (y4.1.High == 76))) && (y9.1 == 22))) ?_ ?_
   ·intro hJ14
    rcases bcases (((y4.2 == 0) && (y9.2 == 0)) && ((y4.1.Low == 65) && (y4.1.High == 76))) with hc15 | hc15
    ·skip
     refine JL.move (.some rfl rfl rfl hc15) rfl ?_
     refine JL.bin rfl rfl rfl (.some rfl rfl rfl hc15) rfl ?_
     refine JL.pick_t (b := (((y4.2 == 0) && (y9.2 == 0)) && ((y4.1.Low == 65) && (y4.1.High == 76)))) rfl hc15 .none rfl ?_
     exact hJ14 _ (and_t hc15 rfl)
    ·skip
     refine JL.skip (.bool rfl rfl rfl hc15) rfl ?_
     refine JL.skip (.bool rfl rfl rfl hc15) rfl ?_
     refine JL.pick_f (b := (((y4.2 == 0) && (y9.2 == 0)) && ((y4.1.Low == 65) && (y4.1.High == 76)))) rfl hc15 .none rfl ?_
     exact hJ14 _ (and_f hc15 rfl)
   ·rintro f hf29
    refine (JL.norm (i := 29) hf29 ?_)
    refine JL.assign .none rfl ?_
    refine JL.done hQ (JQ.go (JC.ret ?_))
    obtain rfl := Option.some.inj hF
    exact JQ.outS rfl (.tmp .nil) rfl
-- 27 ferrule/ferruleref01.Copy
def F_ref01_Copy (n : Nat) (f_ : Frame) : Option Frame :=
 (lim (([] : List Section) ++ f_.Sections)).bind fun l5 => some (Frame.mk l5 f_.Low f_.High f_.Ease f_.Rod f_.Case)
theorem x_ref01_Copy (n : Nat) (H : Hp) (f_ : Frame) (f__v0 : Value) (hf__0 : SL H 7 R_Section f__v0 f_.Sections) (y : Frame) (hF : F_ref01_Copy n f_ = some y) : XC Try.prog 27 [.agg [f__v0, .int .i64 f_.Low, .int .i64 f_.High, .int .i64 f_.Ease.Num, .int .i64 f_.Ease.Den, .int .i64 f_.Rod, .int .i64 f_.Case].toArray] H (fun H' v gs' => ∃ (y_v0 : Value) (y_xs0 : List Value), v = .agg [y_v0, .int .i64 y.Low, .int .i64 y.High, .int .i64 y.Ease.Num, .int .i64 y.Ease.Den, .int .i64 y.Rod, .int .i64 y.Case].toArray ∧ gs' = [⟨y_v0, 68, 7, y.Sections.length, y_xs0⟩] ∧ CH H' 7 R_Section y_xs0 y.Sections) := by
 rw [F_ref01_Copy] at hF
 refine XC.of (N := 9) Try.func27 rfl rfl rfl fun w => ?_
 refine JC.seq (JC.region (by rfl) ?_)
 intro hQ
 refine JL.box (cs := [f__v0, .int .i64 f_.Low, .int .i64 f_.High, .int .i64 f_.Ease.Num, .int .i64 f_.Ease.Den, .int .i64 f_.Rod, .int .i64 f_.Case]) rfl .none rfl ?_
 intro b1
 refine JL.alloc ze_53 .none rfl ?_
 intro b2
 refine JL.done hQ (JQ.go (JC.seq (JC.region (by rfl) ?_)))
 intro hQ
 refine JL.emptySlice ap_49 .none rfl ?_
 intro v3
 refine JL.fieldAddr fo_53_0 rfl .none rfl ?_
 refine JL.loadOwn 1 az_49 rfl rfl rfl .none rfl ?_
 obtain ⟨l5, hl5, hF⟩ := bind_some hF
 refine JL.appD (R := R_Section) 0 (l := ([] : List Section)) (m := f_.Sections) ap_49 rfl ⟨rfl, rfl⟩ rfl CH.nil rfl hf__0 (R_Section_one _) hl5 .none rfl ?_
 intro v6 xs7 hch8
 refine JL.fieldAddr fo_53_0 rfl .none rfl ?_
 refine JL.oneG 0 rfl (fun ho9 => ?_)
 refine JL.storeOwn 1 (cs := [v6]) az_49 rfl ho9.2 rfl (one_cons ho9.1 one_nil) rfl rfl .none ?_
 refine JL.done hQ (JQ.go (JC.seq (JC.region (by rfl) ?_)))
 intro hQ
 refine JL.loadOwn 1 az_53 rfl rfl rfl .none rfl ?_
 refine JL.oneG 0 rfl (fun ho10 => ?_)
 refine JL.storeOwn 0 (cs := [v6, .int .i64 f_.Low, .int .i64 f_.High, .int .i64 f_.Ease.Num, .int .i64 f_.Ease.Den, .int .i64 f_.Rod, .int .i64 f_.Case]) az_53 rfl rfl rfl (one_cons ho10.1 (one_cons rfl (one_cons rfl (one_cons rfl (one_cons rfl (one_cons rfl (one_cons rfl one_nil))))))) rfl rfl .none ?_
 refine JL.done hQ (JQ.go (JC.ret ?_))
 obtain rfl := Option.some.inj hF
 exact JQ.outX rfl (.cell 0 az_53 rfl rfl rfl .nil) ⟨v6, xs7, rfl, rfl, hch8⟩
end Go.Proofs.Yteihdclpiekmaaa
end
