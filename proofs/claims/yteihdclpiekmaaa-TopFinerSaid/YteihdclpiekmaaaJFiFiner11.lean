/-
  TopFiner holds of every input that can be given, without a condition.
-/
import Derived.Test.YteihdclpiekmaaaJFiFiner10
import Derived.JoinedCond
section
set_option maxRecDepth 100000
set_option maxHeartbeats 40000000
namespace Go.Proofs.Yteihdclpiekmaaa
open Go Go.RowKit Go.Dec
set_option linter.unusedVariables false
-- 6 ferrule/ferruletop.TopFiner
noncomputable def F_top_TopFiner_s2 (n : Nat) (y2636 : (List Span) × Int) (y2639 : (List Span) × Int) : Int → Option (Int ⊕ ((Int ⊕ (Bool ⊕ Unit)) ⊕ Unit))
 | m_3003 => if decide (m_3003 < (y2636.1.length : Int)) = true then ((geti y2639.1 m_3003).bind fun y3041 => (geti y2636.1 m_3003).bind fun y3046 => (if decide (y3041.Low < y3046.Low) = true then (some true) else ((geti y2639.1 m_3003).bind fun y3064 => (geti y2636.1 m_3003).bind fun y3069 => some (decide (y3069.High < y3064.High))) : Option Bool).bind fun p3061 => if p3061 = true then (some (Sum.inr (Sum.inl (Sum.inr (Sum.inl false))))) else (some (Sum.inl (w64 (m_3003 + 1))))) else (some (Sum.inr (Sum.inr ())))
noncomputable def F_top_TopFiner_s1 (n : Nat) (r : Run) (x_ : top_Finer) (y15 : Run) (y29 : Section) : Int → Option (Int ⊕ (Bool ⊕ Unit))
 | n_2576 => if decide (n_2576 < (r.Blows.length : Int)) = true then ((geti r.Blows n_2576).bind fun y2591 => (geti r.Blows n_2576).bind fun y2596 => (F_gusts_Loads n r.Canopy (Gust.mk y2591.Force.High y2596.At)).bind fun y2636 => (F_gusts_Loads n (Canopy.mk (Frame.mk (setx y15.Canopy.Frame.Sections 0 (Section.mk (Span.mk (w64 (y29.Arm.Low + x_.ArmLow)) (w64 (y29.Arm.High - x_.ArmHigh))) (Span.mk (w64 (y29.Stretch.Low + x_.RodLow)) (w64 (y29.Stretch.High - x_.RodHigh))) y29.Base y29.Gear)) y15.Canopy.Frame.Low y15.Canopy.Frame.High y15.Canopy.Frame.Ease y15.Canopy.Frame.Rod y15.Canopy.Frame.Case) y15.Canopy.Ribs y15.Canopy.Shares) (Gust.mk y2591.Force.High y2596.At)).bind fun y2639 => if ((((y2636.2 != 0) || (y2639.2 != 0)) || ((y2636.1.length : Int) != (y2639.1.length : Int))) || ((y2636.1.length : Int) != (r.Canopy.Ribs.length : Int))) = true then (some (Sum.inr (Sum.inl false))) else ((loopO n (F_top_TopFiner_s2 n y2636 y2639) 0).bind fun r2862 => match r2862 with | .inl o => some o | .inr _ => some (Sum.inl (w64 (n_2576 + 1))))) else (some (Sum.inr (Sum.inr ())))
noncomputable def F_top_TopFiner (n : Nat) (r : Run) (x_ : top_Finer) : Option Bool :=
 (F_top_isRun n r).bind fun y3 => (if (!y3) = true then (some true) else ((F_ref13_CheckShow n r).bind fun y8 => some (y8 != 0)) : Option Bool).bind fun p5 => if ((p5 || (decide ((min (min (min x_.ArmLow x_.ArmHigh) x_.RodLow) x_.RodHigh) < 0))) || (decide (6 < (max (max (max x_.ArmLow x_.ArmHigh) x_.RodLow) x_.RodHigh)))) = true then ((F_top_tested n).bind fun y14 => some y14) else ((F_ref13_Copy n r).bind fun y15 => (geti y15.Canopy.Frame.Sections 0).bind fun y29 => (geti y15.Canopy.Frame.Sections 0).bind fun y33 => (F_top_isRun n (Run.mk (Canopy.mk (Frame.mk (setx y15.Canopy.Frame.Sections 0 (Section.mk (Span.mk (w64 (y29.Arm.Low + x_.ArmLow)) (w64 (y29.Arm.High - x_.ArmHigh))) (Span.mk (w64 (y29.Stretch.Low + x_.RodLow)) (w64 (y29.Stretch.High - x_.RodHigh))) y29.Base y29.Gear)) y15.Canopy.Frame.Low y15.Canopy.Frame.High y15.Canopy.Frame.Ease y15.Canopy.Frame.Rod y15.Canopy.Frame.Case) y15.Canopy.Ribs y15.Canopy.Shares) y15.Blows y15.Meters y15.Wrong)).bind fun y48 => if (!y48) = true then ((F_top_tested n).bind fun y50 => some y50) else ((F_frames_Cosine n r.Canopy.Frame 0 r.Canopy.Frame.Low).bind fun y51 => (F_frames_Cosine n (Frame.mk (setx y15.Canopy.Frame.Sections 0 (Section.mk (Span.mk (w64 (y29.Arm.Low + x_.ArmLow)) (w64 (y29.Arm.High - x_.ArmHigh))) (Span.mk (w64 (y29.Stretch.Low + x_.RodLow)) (w64 (y29.Stretch.High - x_.RodHigh))) y29.Base y29.Gear)) y15.Canopy.Frame.Low y15.Canopy.Frame.High y15.Canopy.Frame.Ease y15.Canopy.Frame.Rod y15.Canopy.Frame.Case) 0 r.Canopy.Frame.Low).bind fun y54 => (F_counts_Harm n r).bind fun y57 => (F_counts_Harm n (Run.mk (Canopy.mk (Frame.mk (setx y15.Canopy.Frame.Sections 0 (Section.mk (Span.mk (w64 (y29.Arm.Low + x_.ArmLow)) (w64 (y29.Arm.High - x_.ArmHigh))) (Span.mk (w64 (y29.Stretch.Low + x_.RodLow)) (w64 (y29.Stretch.High - x_.RodHigh))) y29.Base y29.Gear)) y15.Canopy.Frame.Low y15.Canopy.Frame.High y15.Canopy.Frame.Ease y15.Canopy.Frame.Rod y15.Canopy.Frame.Case) y15.Canopy.Ribs y15.Canopy.Shares) y15.Blows y15.Meters y15.Wrong)).bind fun y59 => if ((((((((y51.2.2 != 0) || (y54.2.2 != 0)) || (y57.2 != 0)) || (y59.2 != 0)) || (decide ((min (min (min y51.1.Den y51.2.1.Den) y54.1.Den) y54.2.1.Den) < 1))) || (decide (1073741824 < (max (max (max y51.1.Den y51.2.1.Den) y54.1.Den) y54.2.1.Den)))) || (decide (1073741824 < (max (max (max y51.1.Num y51.2.1.Num) y54.1.Num) y54.2.1.Num)))) || (decide ((min (min (min y51.1.Num y51.2.1.Num) y54.1.Num) y54.2.1.Num) < (-1073741824)))) = true then (some false) else ((F_ref01_Less n y54.1 y51.1).bind fun y76 => (if y76 = true then (some true) else ((F_ref01_Less n y51.2.1 y54.2.1).bind fun y81 => some y81) : Option Bool).bind fun p78 => if ((p78 || (decide (y59.1.Low < y57.1.Low))) || (decide (y57.1.High < y59.1.High))) = true then (some false) else ((loopO n (F_top_TopFiner_s1 n r x_ y15 y29) 0).bind fun r1581 => match r1581 with | .inl o => some o | .inr _ => (F_top_tested n).bind fun y3075 => some y3075))))
theorem c_top_TopFiner (n : Nat) (H : Hp) (r : Run) (r_v0 : Value) (hr_0 : SL H 7 R_Section r_v0 r.Canopy.Frame.Sections) (r_v7 : Value) (hr_7 : SL H 2 R_Span r_v7 r.Canopy.Ribs) (r_v8 : Value) (hr_8 : SL H 1 RInt r_v8 r.Canopy.Shares) (r_v9 : Value) (hr_9 : SL H 3 R_Blow r_v9 r.Blows) (r_v10 : Value) (hr_10 : SL H 2 R_Meter r_v10 r.Meters) (x_ : top_Finer) (y : Bool) (hF : F_top_TopFiner n r x_ = some y) : SC Try.prog 6 [.agg [r_v0, .int .i64 r.Canopy.Frame.Low, .int .i64 r.Canopy.Frame.High, .int .i64 r.Canopy.Frame.Ease.Num, .int .i64 r.Canopy.Frame.Ease.Den, .int .i64 r.Canopy.Frame.Rod, .int .i64 r.Canopy.Frame.Case, r_v7, r_v8, r_v9, r_v10, .int .i64 r.Wrong].toArray, .agg [.int .i64 x_.ArmLow, .int .i64 x_.ArmHigh, .int .i64 x_.RodLow, .int .i64 x_.RodHigh].toArray] (.bool y) H := by
 rw [F_top_TopFiner] at hF
 refine SC.of (N := 308) Try.func6 rfl rfl rfl fun w => ?_
 refine JC.seq (JC.region (by rfl) ?_)
 intro hQ
 refine JL.box (cs := [r_v0, .int .i64 r.Canopy.Frame.Low, .int .i64 r.Canopy.Frame.High, .int .i64 r.Canopy.Frame.Ease.Num, .int .i64 r.Canopy.Frame.Ease.Den, .int .i64 r.Canopy.Frame.Rod, .int .i64 r.Canopy.Frame.Case, r_v7, r_v8, r_v9, r_v10, .int .i64 r.Wrong]) rfl .none rfl ?_
 intro b1
 refine JL.box (cs := [.int .i64 x_.ArmLow, .int .i64 x_.ArmHigh, .int .i64 x_.RodLow, .int .i64 x_.RodHigh]) rfl .none rfl ?_
 intro b2
 refine JL.assign .none rfl ?_
 refine JL.done hQ (JQ.go (JC.seq (JC.seq (JC.region (by rfl) ?_))))
 intro hQ
 refine JL.loadOwn 1 az_90 rfl rfl rfl .none rfl ?_
 obtain ⟨y3, hy3, hF⟩ := bind_some hF
 refine JL.callS (c_top_isRun n H r r_v0 hr_0 r_v7 hr_7 r_v8 hr_8 r_v9 hr_9 r_v10 hr_10 y3 hy3) rfl en_40 .none rfl ?_
 refine JL.not rfl .none rfl ?_
 refine JL.move .none rfl ?_
 obtain ⟨p5, hp5, hF⟩ := bind_some hF
 refine JL.cut 4 (fun f => f 2 = .pointer (some ⟨b1, 0, none⟩) ∧ f 3 = .pointer (some ⟨b2, 0, none⟩) ∧ f 32 = .bool p5) ?_ ?_
 ·intro hJ6
  rcases ite_some hp5 with ⟨hc7, hF⟩ | ⟨hc7, hF⟩
  ·skip
   refine JL.skip (.bool rfl rfl rfl hc7) rfl ?_
   refine JL.skip (.bool rfl rfl rfl hc7) rfl ?_
   refine JL.skip (.bool rfl rfl rfl hc7) rfl ?_
   refine JL.pick_t (b := (!y3)) rfl hc7 .none rfl ?_
   obtain rfl := Option.some.inj hF
   exact hJ6 _ ⟨rfl, rfl, rfl⟩
  ·skip
   refine JL.loadOwn 1 az_90 rfl rfl rfl (.some rfl rfl rfl hc7) rfl ?_
   obtain ⟨y8, hy8, hF⟩ := bind_some hF
   refine JL.callS (c_ref13_CheckShow n H r r_v0 hr_0 r_v7 hr_7 r_v8 hr_8 r_v9 hr_9 r_v10 hr_10 y8 hy8) rfl en_41 (.some rfl rfl rfl hc7) rfl ?_
   refine JL.bin rfl rfl rfl (.some rfl rfl rfl hc7) rfl ?_
   refine JL.pick_f (b := (!y3)) rfl hc7 .none rfl ?_
   obtain rfl := Option.some.inj hF
   exact hJ6 _ ⟨rfl, rfl, rfl⟩
 ·rintro f ⟨hf2, hf3, hf32⟩
  refine (JL.norm (i := 2) hf2 (JL.norm (i := 3) hf3 (JL.norm (i := 32) hf32 ?_)))
  refine JL.move .none rfl ?_
  refine JL.cut 11 (fun f => f 2 = .pointer (some ⟨b1, 0, none⟩) ∧ f 3 = .pointer (some ⟨b2, 0, none⟩) ∧ f 44 = .bool (p5 || (decide ((min (min (min x_.ArmLow x_.ArmHigh) x_.RodLow) x_.RodHigh) < 0)))) ?_ ?_
  ·intro hJ9
   rcases bcases p5 with hc10 | hc10
   ·skip
    refine JL.skip (.bool rfl rfl rfl hc10) rfl ?_
    refine JL.skip (.bool rfl rfl rfl hc10) rfl ?_
    refine JL.skip (.bool rfl rfl rfl hc10) rfl ?_
    refine JL.skip (.bool rfl rfl rfl hc10) rfl ?_
    refine JL.skip (.bool rfl rfl rfl hc10) rfl ?_
    refine JL.skip (.bool rfl rfl rfl hc10) rfl ?_
    refine JL.skip (.bool rfl rfl rfl hc10) rfl ?_
    refine JL.skip (.bool rfl rfl rfl hc10) rfl ?_
    refine JL.skip (.bool rfl rfl rfl hc10) rfl ?_
    refine JL.skip (.bool rfl rfl rfl hc10) rfl ?_
    refine JL.pick_t (b := p5) rfl hc10 .none rfl ?_
    exact hJ9 _ ⟨rfl, rfl, or_t hc10 rfl⟩
   ·skip
    refine JL.fieldAddr fo_92_0 rfl (.some rfl rfl rfl hc10) rfl ?_
    refine JL.loadOwn 0 az_3 rfl rfl rfl (.some rfl rfl rfl hc10) rfl ?_
    refine JL.fieldAddr fo_92_1 rfl (.some rfl rfl rfl hc10) rfl ?_
    refine JL.loadOwn 0 az_3 rfl rfl rfl (.some rfl rfl rfl hc10) rfl ?_
    refine JL.fieldAddr fo_92_2 rfl (.some rfl rfl rfl hc10) rfl ?_
    refine JL.loadOwn 0 az_3 rfl rfl rfl (.some rfl rfl rfl hc10) rfl ?_
    refine JL.fieldAddr fo_92_3 rfl (.some rfl rfl rfl hc10) rfl ?_
    refine JL.loadOwn 0 az_3 rfl rfl rfl (.some rfl rfl rfl hc10) rfl ?_
    refine JL.min4 rfl rfl rfl rfl (.some rfl rfl rfl hc10) rfl ?_
    refine JL.bin rfl rfl rfl (.some rfl rfl rfl hc10) rfl ?_
    refine JL.pick_f (b := p5) rfl hc10 .none rfl ?_
    exact hJ9 _ ⟨rfl, rfl, or_f hc10 rfl⟩
  ·rintro f ⟨hf2, hf3, hf44⟩
   refine (JL.norm (i := 2) hf2 (JL.norm (i := 3) hf3 (JL.norm (i := 44) hf44 ?_)))
   refine JL.move .none rfl ?_
   refine JL.cut 11 (fun f => f 2 = .pointer (some ⟨b1, 0, none⟩) ∧ f 3 = .pointer (some ⟨b2, 0, none⟩) ∧ f 56 = .bool ((p5 || (decide ((min (min (min x_.ArmLow x_.ArmHigh) x_.RodLow) x_.RodHigh) < 0))) || (decide (6 < (max (max (max x_.ArmLow x_.ArmHigh) x_.RodLow) x_.RodHigh))))) ?_ ?_
   ·intro hJ11
    rcases bcases (p5 || (decide ((min (min (min x_.ArmLow x_.ArmHigh) x_.RodLow) x_.RodHigh) < 0))) with hc12 | hc12
    ·skip
     refine JL.skip (.bool rfl rfl rfl hc12) rfl ?_
     refine JL.skip (.bool rfl rfl rfl hc12) rfl ?_
     refine JL.skip (.bool rfl rfl rfl hc12) rfl ?_
     refine JL.skip (.bool rfl rfl rfl hc12) rfl ?_
     refine JL.skip (.bool rfl rfl rfl hc12) rfl ?_
     refine JL.skip (.bool rfl rfl rfl hc12) rfl ?_
     refine JL.skip (.bool rfl rfl rfl hc12) rfl ?_
     refine JL.skip (.bool rfl rfl rfl hc12) rfl ?_
     refine JL.skip (.bool rfl rfl rfl hc12) rfl ?_
     refine JL.skip (.bool rfl rfl rfl hc12) rfl ?_
     refine JL.pick_t (b := (p5 || (decide ((min (min (min x_.ArmLow x_.ArmHigh) x_.RodLow) x_.RodHigh) < 0)))) rfl hc12 .none rfl ?_
     exact hJ11 _ ⟨rfl, rfl, or_t hc12 rfl⟩
    ·skip
     refine JL.fieldAddr fo_92_0 rfl (.some rfl rfl rfl hc12) rfl ?_
     refine JL.loadOwn 0 az_3 rfl rfl rfl (.some rfl rfl rfl hc12) rfl ?_
     refine JL.fieldAddr fo_92_1 rfl (.some rfl rfl rfl hc12) rfl ?_
     refine JL.loadOwn 0 az_3 rfl rfl rfl (.some rfl rfl rfl hc12) rfl ?_
     refine JL.fieldAddr fo_92_2 rfl (.some rfl rfl rfl hc12) rfl ?_
     refine JL.loadOwn 0 az_3 rfl rfl rfl (.some rfl rfl rfl hc12) rfl ?_
     refine JL.fieldAddr fo_92_3 rfl (.some rfl rfl rfl hc12) rfl ?_
     refine JL.loadOwn 0 az_3 rfl rfl rfl (.some rfl rfl rfl hc12) rfl ?_
     refine JL.max4 rfl rfl rfl rfl (.some rfl rfl rfl hc12) rfl ?_
     refine JL.bin rfl rfl rfl (.some rfl rfl rfl hc12) rfl ?_
     refine JL.pick_f (b := (p5 || (decide ((min (min (min x_.ArmLow x_.ArmHigh) x_.RodLow) x_.RodHigh) < 0)))) rfl hc12 .none rfl ?_
     exact hJ11 _ ⟨rfl, rfl, or_f hc12 rfl⟩
   ·rintro f ⟨hf2, hf3, hf56⟩
    refine (JL.norm (i := 2) hf2 (JL.norm (i := 3) hf3 (JL.norm (i := 56) hf56 ?_)))
    refine JL.done hQ (JQ.go ?_)
    rcases ite_some hF with ⟨hc13, hF⟩ | ⟨hc13, hF⟩
    ·refine JC.cond_t (b := ((p5 || (decide ((min (min (min x_.ArmLow x_.ArmHigh) x_.RodLow) x_.RodHigh) < 0))) || (decide (6 < (max (max (max x_.ArmLow x_.ArmHigh) x_.RodLow) x_.RodHigh))))) rfl hc13 ?_
     refine JC.seq (JC.region (by rfl) ?_)
     intro hQ
     obtain ⟨y14, hy14, hF⟩ := bind_some hF
     refine JL.callS (c_top_tested n H y14 hy14) rfl en_42 .none rfl ?_
     refine JL.assign .none rfl ?_
     refine JL.done hQ (JQ.go (JC.ret (JQ.ret_then ?_)))
     obtain rfl := Option.some.inj hF
     exact JQ.outS rfl (.tmp .nil) rfl
    ·refine JC.cond_f (b := ((p5 || (decide ((min (min (min x_.ArmLow x_.ArmHigh) x_.RodLow) x_.RodHigh) < 0))) || (decide (6 < (max (max (max x_.ArmLow x_.ArmHigh) x_.RodLow) x_.RodHigh))))) rfl hc13 ?_
     refine JC.skip (JQ.go (JC.seq (JC.region (by rfl) ?_)))
     intro hQ
     refine JL.loadOwn 1 az_90 rfl rfl rfl .none rfl ?_
     obtain ⟨y15, hy15, hF⟩ := bind_some hF
     refine JL.callXC (x_ref13_Copy n H r r_v0 hr_0 r_v7 hr_7 r_v8 hr_8 r_v9 hr_9 r_v10 hr_10 y15 hy15) rfl en_43 .none rfl ?_
     rintro H16 vv17 _ hs16 ⟨y15_v0, y15_xs0, y15_v1, y15_xs1, y15_v2, y15_xs2, y15_v3, y15_xs3, y15_v4, y15_xs4, rfl, rfl, hy15_0, hy15_1, hy15_2, hy15_3, hy15_4⟩
     refine JL.alloc ze_90 .none rfl ?_
     intro b23
     refine JL.oneG 4 rfl (fun ho24 => ?_)
     refine JL.oneG 3 rfl (fun ho25 => ?_)
     refine JL.oneG 2 rfl (fun ho26 => ?_)
     refine JL.oneG 1 rfl (fun ho27 => ?_)
     refine JL.oneG 0 rfl (fun ho28 => ?_)
     refine JL.storeOwn 0 (cs := [y15_v0, .int .i64 y15.Canopy.Frame.Low, .int .i64 y15.Canopy.Frame.High, .int .i64 y15.Canopy.Frame.Ease.Num, .int .i64 y15.Canopy.Frame.Ease.Den, .int .i64 y15.Canopy.Frame.Rod, .int .i64 y15.Canopy.Frame.Case, y15_v1, y15_v2, y15_v3, y15_v4, .int .i64 y15.Wrong]) az_90 rfl rfl rfl (one_cons ho24.1 (one_cons rfl (one_cons rfl (one_cons rfl (one_cons rfl (one_cons rfl (one_cons rfl (one_cons ho25.1 (one_cons ho26.1 (one_cons ho27.1 (one_cons ho28.1 (one_cons rfl one_nil)))))))))))) rfl rfl .none ?_
     refine JL.done hQ (JQ.go (JC.seq (JC.region (by rfl) ?_)))
     intro hQ
     refine JL.fieldAddr fo_90_0 rfl .none rfl ?_
     refine JL.fieldAddr fo_76_0 rfl .none rfl ?_
     refine JL.fieldAddr fo_53_0 rfl .none rfl ?_
     refine JL.loadOwn 0 az_49 rfl rfl rfl .none rfl ?_
     obtain ⟨y29, hy29, hF⟩ := bind_some hF
     refine JL.indexG 4 (l := y15.Canopy.Frame.Sections) sl_49 rfl rfl rfl rfl hy29 .none rfl ?_
     intro b30 hb31
     refine JL.loadG (R := R_Section) 4 (i := 0) (l := y15.Canopy.Frame.Sections) (off := 0) az_68 rfl rfl rfl hb31 hy15_0 hy29 (by rintro cs rfl; rfl) .none rfl ?_
     refine JL.alloc ze_68 .none rfl ?_
     intro b32
     refine JL.storeOwn 0 (cs := [.int .i64 y29.Arm.Low, .int .i64 y29.Arm.High, .int .i64 y29.Stretch.Low, .int .i64 y29.Stretch.High, .int .i64 y29.Base, .int .i64 y29.Gear.Num, .int .i64 y29.Gear.Den]) az_68 rfl rfl rfl (one_cons rfl (one_cons rfl (one_cons rfl (one_cons rfl (one_cons rfl (one_cons rfl (one_cons rfl one_nil))))))) rfl rfl .none ?_
     refine JL.done hQ (JQ.go (JC.seq (JC.region (by rfl) ?_)))
     intro hQ
     refine JL.fieldAddr fo_68_0 rfl .none rfl ?_
     refine JL.fieldAddr fo_39_0 rfl .none rfl ?_
     refine JL.loadOwn 0 az_3 rfl rfl rfl .none rfl ?_
     refine JL.fieldAddr fo_92_0 rfl .none rfl ?_
     refine JL.loadOwn 2 az_3 rfl rfl rfl .none rfl ?_
     refine JL.bin rfl rfl rfl .none rfl ?_
     refine JL.fieldAddr fo_68_0 rfl .none rfl ?_
     refine JL.fieldAddr fo_39_1 rfl .none rfl ?_
     refine JL.loadOwn 0 az_3 rfl rfl rfl .none rfl ?_
     refine JL.fieldAddr fo_92_1 rfl .none rfl ?_
     refine JL.loadOwn 2 az_3 rfl rfl rfl .none rfl ?_
     refine JL.bin rfl rfl rfl .none rfl ?_
     refine JL.build (l := [.int .i64 (w64 (y29.Arm.Low + x_.ArmLow)), .int .i64 (w64 (y29.Arm.High - x_.ArmHigh))]) (by kernel_rfl) .none rfl ?_
     refine JL.fieldAddr fo_68_0 rfl .none rfl ?_
     refine JL.storeOwn 0 (cs := [.int .i64 (w64 (y29.Arm.Low + x_.ArmLow)), .int .i64 (w64 (y29.Arm.High - x_.ArmHigh))]) az_39 rfl rfl rfl (one_cons rfl (one_cons rfl one_nil)) rfl rfl .none ?_
     refine JL.done hQ (JQ.go (JC.fresh (fun f => f 2 = .pointer (some ⟨b1, 0, none⟩) ∧ f 3 = .pointer (some ⟨b2, 0, none⟩) ∧ f 5 = .pointer (some ⟨b23, 0, none⟩) ∧ f 6 = .pointer (some ⟨b32, 0, none⟩)) ⟨rfl, rfl, rfl, rfl⟩ ?_))
     rintro f ⟨hf2, hf3, hf5, hf6⟩
     refine (JC.norm (i := 2) hf2 (JC.norm (i := 3) hf3 (JC.norm (i := 5) hf5 (JC.norm (i := 6) hf6 ?_))))
     refine JC.seq (JC.region (by rfl) ?_)
     intro hQ
     refine JL.fieldAddr fo_68_1 rfl .none rfl ?_
     refine JL.fieldAddr fo_39_0 rfl .none rfl ?_
     refine JL.loadOwn 0 az_3 rfl rfl rfl .none rfl ?_
     refine JL.fieldAddr fo_92_2 rfl .none rfl ?_
     refine JL.loadOwn 2 az_3 rfl rfl rfl .none rfl ?_
     refine JL.bin rfl rfl rfl .none rfl ?_
     refine JL.fieldAddr fo_68_1 rfl .none rfl ?_
     refine JL.fieldAddr fo_39_1 rfl .none rfl ?_
     refine JL.loadOwn 0 az_3 rfl rfl rfl .none rfl ?_
     refine JL.fieldAddr fo_92_3 rfl .none rfl ?_
     refine JL.loadOwn 2 az_3 rfl rfl rfl .none rfl ?_
     refine JL.bin rfl rfl rfl .none rfl ?_
     refine JL.build (l := [.int .i64 (w64 (y29.Stretch.Low + x_.RodLow)), .int .i64 (w64 (y29.Stretch.High - x_.RodHigh))]) (by kernel_rfl) .none rfl ?_
     refine JL.fieldAddr fo_68_1 rfl .none rfl ?_
     refine JL.storeOwn 0 (cs := [.int .i64 (w64 (y29.Stretch.Low + x_.RodLow)), .int .i64 (w64 (y29.Stretch.High - x_.RodHigh))]) az_39 rfl rfl rfl (one_cons rfl (one_cons rfl one_nil)) rfl rfl .none ?_
     refine JL.done hQ (JQ.go (JC.fresh (fun f => f 2 = .pointer (some ⟨b1, 0, none⟩) ∧ f 5 = .pointer (some ⟨b23, 0, none⟩) ∧ f 6 = .pointer (some ⟨b32, 0, none⟩)) ⟨rfl, rfl, rfl⟩ ?_))
     rintro f ⟨hf2, hf5, hf6⟩
     refine (JC.norm (i := 2) hf2 (JC.norm (i := 5) hf5 (JC.norm (i := 6) hf6 ?_)))
     refine JC.seq (JC.region (by rfl) ?_)
     intro hQ
     refine JL.fieldAddr fo_90_0 rfl .none rfl ?_
     refine JL.fieldAddr fo_76_0 rfl .none rfl ?_
     refine JL.fieldAddr fo_53_0 rfl .none rfl ?_
     refine JL.loadOwn 1 az_49 rfl rfl rfl .none rfl ?_
     refine JL.loadOwn 0 az_68 rfl rfl rfl .none rfl ?_
     obtain ⟨y33, hy33, hF⟩ := bind_some hF
     refine JL.indexG 4 (l := y15.Canopy.Frame.Sections) sl_49 rfl rfl rfl rfl hy33 .none rfl ?_
     intro b34 hb35
     refine JL.storeG (R := R_Section) 4 (i := 0) (l := y15.Canopy.Frame.Sections) (y := y33) (y' := (Section.mk (Span.mk (w64 (y29.Arm.Low + x_.ArmLow)) (w64 (y29.Arm.High - x_.ArmHigh))) (Span.mk (w64 (y29.Stretch.Low + x_.RodLow)) (w64 (y29.Stretch.High - x_.RodHigh))) y29.Base y29.Gear)) (off := 0) az_68 rfl rfl rfl rfl (one_cons rfl (one_cons rfl (one_cons rfl (one_cons rfl (one_cons rfl (one_cons rfl (one_cons rfl one_nil))))))) rfl hb35 hy15_0 rfl hy33 rfl (by rintro cs rfl; rfl) .none ?_
     intro xs36 hch37
     refine JL.done hQ (JQ.go (JC.seq (JC.seq (JC.region (by rfl) ?_))))
     intro hQ
     refine JL.loadOwn 1 az_90 rfl rfl rfl .none rfl ?_
     refine JL.freezeG 4 (R := R_Section) rfl R_Section_mono hch37 rfl ?_
     intro H38 hs38 hg39
     refine JL.freezeG 3 (R := R_Span) rfl R_Span_mono (CH.mono R_Span_mono hs38 hy15_1) rfl ?_
     intro H40 hs40 hg41
     refine JL.freezeG 2 (R := RInt) rfl RInt.mono (CH.mono RInt.mono (HSub.trans hs38 hs40) hy15_2) rfl ?_
     intro H42 hs42 hg43
     refine JL.freezeG 1 (R := R_Blow) rfl R_Blow_mono (CH.mono R_Blow_mono (HSub.trans hs38 (HSub.trans hs40 hs42)) hy15_3) rfl ?_
     intro H44 hs44 hg45
     refine JL.freezeG 0 (R := R_Meter) rfl R_Meter_mono (CH.mono R_Meter_mono (HSub.trans hs38 (HSub.trans hs40 (HSub.trans hs42 hs44))) hy15_4) rfl ?_
     intro H46 hs46 hg47
     obtain ⟨y48, hy48, hF⟩ := bind_some hF
     refine JL.callS (c_top_isRun n H46 (Run.mk (Canopy.mk (Frame.mk (setx y15.Canopy.Frame.Sections 0 (Section.mk (Span.mk (w64 (y29.Arm.Low + x_.ArmLow)) (w64 (y29.Arm.High - x_.ArmHigh))) (Span.mk (w64 (y29.Stretch.Low + x_.RodLow)) (w64 (y29.Stretch.High - x_.RodHigh))) y29.Base y29.Gear)) y15.Canopy.Frame.Low y15.Canopy.Frame.High y15.Canopy.Frame.Ease y15.Canopy.Frame.Rod y15.Canopy.Frame.Case) y15.Canopy.Ribs y15.Canopy.Shares) y15.Blows y15.Meters y15.Wrong) y15_v0 (SL.mono R_Section_mono (HSub.trans hs40 (HSub.trans hs42 (HSub.trans hs44 hs46))) hg39) y15_v1 (SL.mono R_Span_mono (HSub.trans hs42 (HSub.trans hs44 hs46)) hg41) y15_v2 (SL.mono RInt.mono (HSub.trans hs44 hs46) hg43) y15_v3 (SL.mono R_Blow_mono hs46 hg45) y15_v4 hg47 y48 hy48) rfl en_40 .none rfl ?_
     refine JL.not rfl .none rfl ?_
     refine JL.done hQ (JQ.go ?_)
     rcases ite_some hF with ⟨hc49, hF⟩ | ⟨hc49, hF⟩
     ·refine JC.cond_t (b := (!y48)) rfl hc49 ?_
      refine JC.seq (JC.region (by rfl) ?_)
      intro hQ
      obtain ⟨y50, hy50, hF⟩ := bind_some hF
      refine JL.callS (c_top_tested n H46 y50 hy50) rfl en_42 .none rfl ?_
      refine JL.assign .none rfl ?_
      refine JL.done hQ (JQ.go (JC.fresh (fun f => f 4 = .bool y50) rfl ?_))
      rintro f hf4
      refine (JC.norm (i := 4) hf4 ?_)
      refine JC.ret (JQ.ret_then ?_)
      obtain rfl := Option.some.inj hF
      exact JQ.outS rfl (.tmp .nil) rfl
     ·refine JC.cond_f (b := (!y48)) rfl hc49 ?_
      refine JC.skip (JQ.go (JC.seq (JC.region (by rfl) ?_)))
      intro hQ
      refine JL.fieldAddr fo_90_0 rfl .none rfl ?_
      refine JL.fieldAddr fo_76_0 rfl .none rfl ?_
      refine JL.fieldAddr fo_53_1 rfl .none rfl ?_
      refine JL.loadOwn 3 az_3 rfl rfl rfl .none rfl ?_
      refine JL.assign .none rfl ?_
      refine JL.done hQ (JQ.go (JC.fresh (fun f => f 2 = .pointer (some ⟨b1, 0, none⟩) ∧ f 5 = .pointer (some ⟨b23, 0, none⟩) ∧ f 7 = .int .i64 r.Canopy.Frame.Low) ⟨rfl, rfl, rfl⟩ ?_))
      rintro f ⟨hf2, hf5, hf7⟩
      refine (JC.norm (i := 2) hf2 (JC.norm (i := 5) hf5 (JC.norm (i := 7) hf7 ?_)))
      refine JC.seq (JC.region (by rfl) ?_)
      intro hQ
      refine JL.fieldAddr fo_90_0 rfl .none rfl ?_
      refine JL.fieldAddr fo_76_0 rfl .none rfl ?_
      refine JL.loadOwn 3 az_53 rfl rfl rfl .none rfl ?_
      refine JL.move .none rfl ?_
      obtain ⟨y51, hy51, hF⟩ := bind_some hF
      refine JL.callS (c_frames_Cosine n H46 r.Canopy.Frame r_v0 (SL.mono R_Section_mono (HSub.trans hs16 (HSub.trans hs38 (HSub.trans hs40 (HSub.trans hs42 (HSub.trans hs44 hs46))))) hr_0) 0 r.Canopy.Frame.Low y51 hy51) rfl en_28 .none rfl ?_
      refine JL.move .none rfl ?_
      refine JL.extract rfl rfl .none rfl ?_
      refine JL.extract rfl rfl .none rfl ?_
      refine JL.extract rfl rfl .none rfl ?_
      refine JL.alloc ze_51 .none rfl ?_
      intro b52
      refine JL.alloc ze_51 .none rfl ?_
      intro b53
      refine JL.storeOwn 1 (cs := [.int .i64 y51.1.Num, .int .i64 y51.1.Den]) az_51 rfl rfl rfl (one_cons rfl (one_cons rfl one_nil)) rfl rfl .none ?_
      refine JL.storeOwn 0 (cs := [.int .i64 y51.2.1.Num, .int .i64 y51.2.1.Den]) az_51 rfl rfl rfl (one_cons rfl (one_cons rfl one_nil)) rfl rfl .none ?_
      refine JL.assign .none rfl ?_
      refine JL.done hQ (JQ.go (JC.fresh (fun f => f 2 = .pointer (some ⟨b1, 0, none⟩) ∧ f 5 = .pointer (some ⟨b23, 0, none⟩) ∧ f 7 = .int .i64 r.Canopy.Frame.Low ∧ f 8 = .pointer (some ⟨b52, 0, none⟩) ∧ f 9 = .pointer (some ⟨b53, 0, none⟩) ∧ f 10 = .int .i64 y51.2.2) ⟨rfl, rfl, rfl, rfl, rfl, rfl⟩ ?_))
      rintro f ⟨hf2, hf5, hf7, hf8, hf9, hf10⟩
      refine (JC.norm (i := 2) hf2 (JC.norm (i := 5) hf5 (JC.norm (i := 7) hf7 (JC.norm (i := 8) hf8 (JC.norm (i := 9) hf9 (JC.norm (i := 10) hf10 ?_))))))
      refine JC.seq (JC.region (by rfl) ?_)
      intro hQ
      refine JL.fieldAddr fo_90_0 rfl .none rfl ?_
      refine JL.fieldAddr fo_76_0 rfl .none rfl ?_
      refine JL.loadOwn 3 az_53 rfl rfl rfl .none rfl ?_
      refine JL.move .none rfl ?_
      obtain ⟨y54, hy54, hF⟩ := bind_some hF
      refine JL.callS (c_frames_Cosine n H46 (Frame.mk (setx y15.Canopy.Frame.Sections 0 (Section.mk (Span.mk (w64 (y29.Arm.Low + x_.ArmLow)) (w64 (y29.Arm.High - x_.ArmHigh))) (Span.mk (w64 (y29.Stretch.Low + x_.RodLow)) (w64 (y29.Stretch.High - x_.RodHigh))) y29.Base y29.Gear)) y15.Canopy.Frame.Low y15.Canopy.Frame.High y15.Canopy.Frame.Ease y15.Canopy.Frame.Rod y15.Canopy.Frame.Case) y15_v0 (SL.mono R_Section_mono (HSub.trans hs40 (HSub.trans hs42 (HSub.trans hs44 hs46))) hg39) 0 r.Canopy.Frame.Low y54 hy54) rfl en_28 .none rfl ?_
      refine JL.move .none rfl ?_
      refine JL.extract rfl rfl .none rfl ?_
      refine JL.extract rfl rfl .none rfl ?_
      refine JL.extract rfl rfl .none rfl ?_
      refine JL.alloc ze_51 .none rfl ?_
      intro b55
      refine JL.alloc ze_51 .none rfl ?_
      intro b56
      refine JL.storeOwn 1 (cs := [.int .i64 y54.1.Num, .int .i64 y54.1.Den]) az_51 rfl rfl rfl (one_cons rfl (one_cons rfl one_nil)) rfl rfl .none ?_
      refine JL.storeOwn 0 (cs := [.int .i64 y54.2.1.Num, .int .i64 y54.2.1.Den]) az_51 rfl rfl rfl (one_cons rfl (one_cons rfl one_nil)) rfl rfl .none ?_
      refine JL.assign .none rfl ?_
      refine JL.done hQ (JQ.go (JC.fresh (fun f => f 2 = .pointer (some ⟨b1, 0, none⟩) ∧ f 5 = .pointer (some ⟨b23, 0, none⟩) ∧ f 8 = .pointer (some ⟨b52, 0, none⟩) ∧ f 9 = .pointer (some ⟨b53, 0, none⟩) ∧ f 10 = .int .i64 y51.2.2 ∧ f 11 = .pointer (some ⟨b55, 0, none⟩) ∧ f 12 = .pointer (some ⟨b56, 0, none⟩) ∧ f 13 = .int .i64 y54.2.2) ⟨rfl, rfl, rfl, rfl, rfl, rfl, rfl, rfl⟩ ?_))
      rintro f ⟨hf2, hf5, hf8, hf9, hf10, hf11, hf12, hf13⟩
      refine (JC.norm (i := 2) hf2 (JC.norm (i := 5) hf5 (JC.norm (i := 8) hf8 (JC.norm (i := 9) hf9 (JC.norm (i := 10) hf10 (JC.norm (i := 11) hf11 (JC.norm (i := 12) hf12 (JC.norm (i := 13) hf13 ?_))))))))
      refine JC.seq (JC.region (by rfl) ?_)
      intro hQ
      refine JL.loadOwn 7 az_90 rfl rfl rfl .none rfl ?_
      obtain ⟨y57, hy57, hF⟩ := bind_some hF
      refine JL.callS (c_counts_Harm n H46 r r_v0 (SL.mono R_Section_mono (HSub.trans hs16 (HSub.trans hs38 (HSub.trans hs40 (HSub.trans hs42 (HSub.trans hs44 hs46))))) hr_0) r_v7 (SL.mono R_Span_mono (HSub.trans hs16 (HSub.trans hs38 (HSub.trans hs40 (HSub.trans hs42 (HSub.trans hs44 hs46))))) hr_7) r_v8 (SL.mono RInt.mono (HSub.trans hs16 (HSub.trans hs38 (HSub.trans hs40 (HSub.trans hs42 (HSub.trans hs44 hs46))))) hr_8) r_v9 (SL.mono R_Blow_mono (HSub.trans hs16 (HSub.trans hs38 (HSub.trans hs40 (HSub.trans hs42 (HSub.trans hs44 hs46))))) hr_9) r_v10 (SL.mono R_Meter_mono (HSub.trans hs16 (HSub.trans hs38 (HSub.trans hs40 (HSub.trans hs42 (HSub.trans hs44 hs46))))) hr_10) y57 hy57) rfl en_44 .none rfl ?_
      refine JL.move .none rfl ?_
      refine JL.extract rfl rfl .none rfl ?_
      refine JL.extract rfl rfl .none rfl ?_
      refine JL.alloc ze_39 .none rfl ?_
      intro b58
      refine JL.storeOwn 0 (cs := [.int .i64 y57.1.Low, .int .i64 y57.1.High]) az_39 rfl rfl rfl (one_cons rfl (one_cons rfl one_nil)) rfl rfl .none ?_
      refine JL.assign .none rfl ?_
      refine JL.done hQ (JQ.go (JC.seq (JC.region (by rfl) ?_)))
      intro hQ
      refine JL.loadOwn 6 az_90 rfl rfl rfl .none rfl ?_
      obtain ⟨y59, hy59, hF⟩ := bind_some hF
      refine JL.callS (c_counts_Harm n H46 (Run.mk (Canopy.mk (Frame.mk (setx y15.Canopy.Frame.Sections 0 (Section.mk (Span.mk (w64 (y29.Arm.Low + x_.ArmLow)) (w64 (y29.Arm.High - x_.ArmHigh))) (Span.mk (w64 (y29.Stretch.Low + x_.RodLow)) (w64 (y29.Stretch.High - x_.RodHigh))) y29.Base y29.Gear)) y15.Canopy.Frame.Low y15.Canopy.Frame.High y15.Canopy.Frame.Ease y15.Canopy.Frame.Rod y15.Canopy.Frame.Case) y15.Canopy.Ribs y15.Canopy.Shares) y15.Blows y15.Meters y15.Wrong) y15_v0 (SL.mono R_Section_mono (HSub.trans hs40 (HSub.trans hs42 (HSub.trans hs44 hs46))) hg39) y15_v1 (SL.mono R_Span_mono (HSub.trans hs42 (HSub.trans hs44 hs46)) hg41) y15_v2 (SL.mono RInt.mono (HSub.trans hs44 hs46) hg43) y15_v3 (SL.mono R_Blow_mono hs46 hg45) y15_v4 hg47 y59 hy59) rfl en_44 .none rfl ?_
      refine JL.move .none rfl ?_
      refine JL.extract rfl rfl .none rfl ?_
      refine JL.extract rfl rfl .none rfl ?_
      refine JL.alloc ze_39 .none rfl ?_
      intro b60
      refine JL.storeOwn 0 (cs := [.int .i64 y59.1.Low, .int .i64 y59.1.High]) az_39 rfl rfl rfl (one_cons rfl (one_cons rfl one_nil)) rfl rfl .none ?_
      refine JL.assign .none rfl ?_
      refine JL.done hQ (JQ.go (JC.fresh (fun f => f 2 = .pointer (some ⟨b1, 0, none⟩) ∧ f 5 = .pointer (some ⟨b23, 0, none⟩) ∧ f 8 = .pointer (some ⟨b52, 0, none⟩) ∧ f 9 = .pointer (some ⟨b53, 0, none⟩) ∧ f 10 = .int .i64 y51.2.2 ∧ f 11 = .pointer (some ⟨b55, 0, none⟩) ∧ f 12 = .pointer (some ⟨b56, 0, none⟩) ∧ f 13 = .int .i64 y54.2.2 ∧ f 14 = .pointer (some ⟨b58, 0, none⟩) ∧ f 15 = .int .i64 y57.2 ∧ f 16 = .pointer (some ⟨b60, 0, none⟩) ∧ f 17 = .int .i64 y59.2) ⟨rfl, rfl, rfl, rfl, rfl, rfl, rfl, rfl, rfl, rfl, rfl, rfl⟩ ?_))
      rintro f ⟨hf2, hf5, hf8, hf9, hf10, hf11, hf12, hf13, hf14, hf15, hf16, hf17⟩
      refine (JC.norm (i := 2) hf2 (JC.norm (i := 5) hf5 (JC.norm (i := 8) hf8 (JC.norm (i := 9) hf9 (JC.norm (i := 10) hf10 (JC.norm (i := 11) hf11 (JC.norm (i := 12) hf12 (JC.norm (i := 13) hf13 (JC.norm (i := 14) hf14 (JC.norm (i := 15) hf15 (JC.norm (i := 16) hf16 (JC.norm (i := 17) hf17 ?_))))))))))))
      refine JC.seq (JC.seq (JC.region (by rfl) ?_))
      intro hQ
      refine JL.move .none rfl ?_
      refine JL.bin rfl rfl rfl .none rfl ?_
      refine JL.move .none rfl ?_
      refine JL.cut 3 (fun f => f 2 = .pointer (some ⟨b1, 0, none⟩) ∧ f 5 = .pointer (some ⟨b23, 0, none⟩) ∧ f 8 = .pointer (some ⟨b52, 0, none⟩) ∧ f 9 = .pointer (some ⟨b53, 0, none⟩) ∧ f 11 = .pointer (some ⟨b55, 0, none⟩) ∧ f 12 = .pointer (some ⟨b56, 0, none⟩) ∧ f 14 = .pointer (some ⟨b58, 0, none⟩) ∧ f 15 = .int .i64 y57.2 ∧ f 16 = .pointer (some ⟨b60, 0, none⟩) ∧ f 17 = .int .i64 y59.2 ∧ f 141 = .bool ((y51.2.2 != 0) || (y54.2.2 != 0))) ?_ ?_
      ·intro hJ61
       rcases bcases (y51.2.2 != 0) with hc62 | hc62
       ·skip
        refine JL.skip (.bool rfl rfl rfl hc62) rfl ?_
        refine JL.skip (.bool rfl rfl rfl hc62) rfl ?_
        refine JL.pick_t (b := (y51.2.2 != 0)) rfl hc62 .none rfl ?_
        exact hJ61 _ ⟨rfl, rfl, rfl, rfl, rfl, rfl, rfl, rfl, rfl, rfl, or_t hc62 rfl⟩
       ·skip
        refine JL.move (.some rfl rfl rfl hc62) rfl ?_
        refine JL.bin rfl rfl rfl (.some rfl rfl rfl hc62) rfl ?_
        refine JL.pick_f (b := (y51.2.2 != 0)) rfl hc62 .none rfl ?_
        exact hJ61 _ ⟨rfl, rfl, rfl, rfl, rfl, rfl, rfl, rfl, rfl, rfl, or_f hc62 rfl⟩
      ·rintro f ⟨hf2, hf5, hf8, hf9, hf11, hf12, hf14, hf15, hf16, hf17, hf141⟩
       refine (JL.norm (i := 2) hf2 (JL.norm (i := 5) hf5 (JL.norm (i := 8) hf8 (JL.norm (i := 9) hf9 (JL.norm (i := 11) hf11 (JL.norm (i := 12) hf12 (JL.norm (i := 14) hf14 (JL.norm (i := 15) hf15 (JL.norm (i := 16) hf16 (JL.norm (i := 17) hf17 (JL.norm (i := 141) hf141 ?_)))))))))))
       refine JL.move .none rfl ?_
       refine JL.cut 3 (fun f => f 2 = .pointer (some ⟨b1, 0, none⟩) ∧ f 5 = .pointer (some ⟨b23, 0, none⟩) ∧ f 8 = .pointer (some ⟨b52, 0, none⟩) ∧ f 9 = .pointer (some ⟨b53, 0, none⟩) ∧ f 11 = .pointer (some ⟨b55, 0, none⟩) ∧ f 12 = .pointer (some ⟨b56, 0, none⟩) ∧ f 14 = .pointer (some ⟨b58, 0, none⟩) ∧ f 16 = .pointer (some ⟨b60, 0, none⟩) ∧ f 17 = .int .i64 y59.2 ∧ f 145 = .bool (((y51.2.2 != 0) || (y54.2.2 != 0)) || (y57.2 != 0))) ?_ ?_
       ·intro hJ63
        rcases bcases ((y51.2.2 != 0) || (y54.2.2 != 0)) with hc64 | hc64
        ·skip
         refine JL.skip (.bool rfl rfl rfl hc64) rfl ?_
         refine JL.skip (.bool rfl rfl rfl hc64) rfl ?_
         refine JL.pick_t (b := ((y51.2.2 != 0) || (y54.2.2 != 0))) rfl hc64 .none rfl ?_
         exact hJ63 _ ⟨rfl, rfl, rfl, rfl, rfl, rfl, rfl, rfl, rfl, or_t hc64 rfl⟩
        ·skip
         refine JL.move (.some rfl rfl rfl hc64) rfl ?_
         refine JL.bin rfl rfl rfl (.some rfl rfl rfl hc64) rfl ?_
         refine JL.pick_f (b := ((y51.2.2 != 0) || (y54.2.2 != 0))) rfl hc64 .none rfl ?_
         exact hJ63 _ ⟨rfl, rfl, rfl, rfl, rfl, rfl, rfl, rfl, rfl, or_f hc64 rfl⟩
       ·rintro f ⟨hf2, hf5, hf8, hf9, hf11, hf12, hf14, hf16, hf17, hf145⟩
        refine (JL.norm (i := 2) hf2 (JL.norm (i := 5) hf5 (JL.norm (i := 8) hf8 (JL.norm (i := 9) hf9 (JL.norm (i := 11) hf11 (JL.norm (i := 12) hf12 (JL.norm (i := 14) hf14 (JL.norm (i := 16) hf16 (JL.norm (i := 17) hf17 (JL.norm (i := 145) hf145 ?_))))))))))
        refine JL.move .none rfl ?_
        refine JL.cut 3 (fun f => f 2 = .pointer (some ⟨b1, 0, none⟩) ∧ f 5 = .pointer (some ⟨b23, 0, none⟩) ∧ f 8 = .pointer (some ⟨b52, 0, none⟩) ∧ f 9 = .pointer (some ⟨b53, 0, none⟩) ∧ f 11 = .pointer (some ⟨b55, 0, none⟩) ∧ f 12 = .pointer (some ⟨b56, 0, none⟩) ∧ f 14 = .pointer (some ⟨b58, 0, none⟩) ∧ f 16 = .pointer (some ⟨b60, 0, none⟩) ∧ f 149 = .bool ((((y51.2.2 != 0) || (y54.2.2 != 0)) || (y57.2 != 0)) || (y59.2 != 0))) ?_ ?_
        ·intro hJ65
         rcases bcases (((y51.2.2 != 0) || (y54.2.2 != 0)) || (y57.2 != 0)) with hc66 | hc66
         ·skip
          refine JL.skip (.bool rfl rfl rfl hc66) rfl ?_
          refine JL.skip (.bool rfl rfl rfl hc66) rfl ?_
          refine JL.pick_t (b := (((y51.2.2 != 0) || (y54.2.2 != 0)) || (y57.2 != 0))) rfl hc66 .none rfl ?_
          exact hJ65 _ ⟨rfl, rfl, rfl, rfl, rfl, rfl, rfl, rfl, or_t hc66 rfl⟩
         ·skip
          refine JL.move (.some rfl rfl rfl hc66) rfl ?_
          refine JL.bin rfl rfl rfl (.some rfl rfl rfl hc66) rfl ?_
          refine JL.pick_f (b := (((y51.2.2 != 0) || (y54.2.2 != 0)) || (y57.2 != 0))) rfl hc66 .none rfl ?_
          exact hJ65 _ ⟨rfl, rfl, rfl, rfl, rfl, rfl, rfl, rfl, or_f hc66 rfl⟩
        ·rintro f ⟨hf2, hf5, hf8, hf9, hf11, hf12, hf14, hf16, hf149⟩
         refine (JL.norm (i := 2) hf2 (JL.norm (i := 5) hf5 (JL.norm (i := 8) hf8 (JL.norm (i := 9) hf9 (JL.norm (i := 11) hf11 (JL.norm (i := 12) hf12 (JL.norm (i := 14) hf14 (JL.norm (i := 16) hf16 (JL.norm (i := 149) hf149 ?_)))))))))
         refine JL.move .none rfl ?_
         refine JL.cut 11 (fun f => f 2 = .pointer (some ⟨b1, 0, none⟩) ∧ f 5 = .pointer (some ⟨b23, 0, none⟩) ∧ f 8 = .pointer (some ⟨b52, 0, none⟩) ∧ f 9 = .pointer (some ⟨b53, 0, none⟩) ∧ f 11 = .pointer (some ⟨b55, 0, none⟩) ∧ f 12 = .pointer (some ⟨b56, 0, none⟩) ∧ f 14 = .pointer (some ⟨b58, 0, none⟩) ∧ f 16 = .pointer (some ⟨b60, 0, none⟩) ∧ f 161 = .bool (((((y51.2.2 != 0) || (y54.2.2 != 0)) || (y57.2 != 0)) || (y59.2 != 0)) || (decide ((min (min (min y51.1.Den y51.2.1.Den) y54.1.Den) y54.2.1.Den) < 1)))) ?_ ?_
         ·intro hJ67
          rcases bcases ((((y51.2.2 != 0) || (y54.2.2 != 0)) || (y57.2 != 0)) || (y59.2 != 0)) with hc68 | hc68
          ·skip
           refine JL.skip (.bool rfl rfl rfl hc68) rfl ?_
           refine JL.skip (.bool rfl rfl rfl hc68) rfl ?_
           refine JL.skip (.bool rfl rfl rfl hc68) rfl ?_
           refine JL.skip (.bool rfl rfl rfl hc68) rfl ?_
           refine JL.skip (.bool rfl rfl rfl hc68) rfl ?_
           refine JL.skip (.bool rfl rfl rfl hc68) rfl ?_
           refine JL.skip (.bool rfl rfl rfl hc68) rfl ?_
           refine JL.skip (.bool rfl rfl rfl hc68) rfl ?_
           refine JL.skip (.bool rfl rfl rfl hc68) rfl ?_
           refine JL.skip (.bool rfl rfl rfl hc68) rfl ?_
           refine JL.pick_t (b := ((((y51.2.2 != 0) || (y54.2.2 != 0)) || (y57.2 != 0)) || (y59.2 != 0))) rfl hc68 .none rfl ?_
           exact hJ67 _ ⟨rfl, rfl, rfl, rfl, rfl, rfl, rfl, rfl, or_t hc68 rfl⟩
          ·skip
           refine JL.fieldAddr fo_51_1 rfl (.some rfl rfl rfl hc68) rfl ?_
           refine JL.loadOwn 5 az_3 rfl rfl rfl (.some rfl rfl rfl hc68) rfl ?_
           refine JL.fieldAddr fo_51_1 rfl (.some rfl rfl rfl hc68) rfl ?_
           refine JL.loadOwn 4 az_3 rfl rfl rfl (.some rfl rfl rfl hc68) rfl ?_
           refine JL.fieldAddr fo_51_1 rfl (.some rfl rfl rfl hc68) rfl ?_
           refine JL.loadOwn 3 az_3 rfl rfl rfl (.some rfl rfl rfl hc68) rfl ?_
           refine JL.fieldAddr fo_51_1 rfl (.some rfl rfl rfl hc68) rfl ?_
           refine JL.loadOwn 2 az_3 rfl rfl rfl (.some rfl rfl rfl hc68) rfl ?_
           refine JL.min4 rfl rfl rfl rfl (.some rfl rfl rfl hc68) rfl ?_
           refine JL.bin rfl rfl rfl (.some rfl rfl rfl hc68) rfl ?_
           refine JL.pick_f (b := ((((y51.2.2 != 0) || (y54.2.2 != 0)) || (y57.2 != 0)) || (y59.2 != 0))) rfl hc68 .none rfl ?_
           exact hJ67 _ ⟨rfl, rfl, rfl, rfl, rfl, rfl, rfl, rfl, or_f hc68 rfl⟩
         ·rintro f ⟨hf2, hf5, hf8, hf9, hf11, hf12, hf14, hf16, hf161⟩
          refine (JL.norm (i := 2) hf2 (JL.norm (i := 5) hf5 (JL.norm (i := 8) hf8 (JL.norm (i := 9) hf9 (JL.norm (i := 11) hf11 (JL.norm (i := 12) hf12 (JL.norm (i := 14) hf14 (JL.norm (i := 16) hf16 (JL.norm (i := 161) hf161 ?_)))))))))
          refine JL.move .none rfl ?_
          refine JL.cut 11 (fun f => f 2 = .pointer (some ⟨b1, 0, none⟩) ∧ f 5 = .pointer (some ⟨b23, 0, none⟩) ∧ f 8 = .pointer (some ⟨b52, 0, none⟩) ∧ f 9 = .pointer (some ⟨b53, 0, none⟩) ∧ f 11 = .pointer (some ⟨b55, 0, none⟩) ∧ f 12 = .pointer (some ⟨b56, 0, none⟩) ∧ f 14 = .pointer (some ⟨b58, 0, none⟩) ∧ f 16 = .pointer (some ⟨b60, 0, none⟩) ∧ f 173 = .bool ((((((y51.2.2 != 0) || (y54.2.2 != 0)) || (y57.2 != 0)) || (y59.2 != 0)) || (decide ((min (min (min y51.1.Den y51.2.1.Den) y54.1.Den) y54.2.1.Den) < 1))) || (decide (1073741824 < (max (max (max y51.1.Den y51.2.1.Den) y54.1.Den) y54.2.1.Den))))) ?_ ?_
          ·intro hJ69
           rcases bcases (((((y51.2.2 != 0) || (y54.2.2 != 0)) || (y57.2 != 0)) || (y59.2 != 0)) || (decide ((min (min (min y51.1.Den y51.2.1.Den) y54.1.Den) y54.2.1.Den) < 1))) with hc70 | hc70
           ·skip
            refine JL.skip (.bool rfl rfl rfl hc70) rfl ?_
            refine JL.skip (.bool rfl rfl rfl hc70) rfl ?_
            refine JL.skip (.bool rfl rfl rfl hc70) rfl ?_
            refine JL.skip (.bool rfl rfl rfl hc70) rfl ?_
            refine JL.skip (.bool rfl rfl rfl hc70) rfl ?_
            refine JL.skip (.bool rfl rfl rfl hc70) rfl ?_
            refine JL.skip (.bool rfl rfl rfl hc70) rfl ?_
            refine JL.skip (.bool rfl rfl rfl hc70) rfl ?_
            refine JL.skip (.bool rfl rfl rfl hc70) rfl ?_
            refine JL.skip (.bool rfl rfl rfl hc70) rfl ?_
            refine JL.pick_t (b := (((((y51.2.2 != 0) || (y54.2.2 != 0)) || (y57.2 != 0)) || (y59.2 != 0)) || (decide ((min (min (min y51.1.Den y51.2.1.Den) y54.1.Den) y54.2.1.Den) < 1)))) rfl hc70 .none rfl ?_
            exact hJ69 _ ⟨rfl, rfl, rfl, rfl, rfl, rfl, rfl, rfl, or_t hc70 rfl⟩
           ·skip
            refine JL.fieldAddr fo_51_1 rfl (.some rfl rfl rfl hc70) rfl ?_
            refine JL.loadOwn 5 az_3 rfl rfl rfl (.some rfl rfl rfl hc70) rfl ?_
            refine JL.fieldAddr fo_51_1 rfl (.some rfl rfl rfl hc70) rfl ?_
            refine JL.loadOwn 4 az_3 rfl rfl rfl (.some rfl rfl rfl hc70) rfl ?_
            refine JL.fieldAddr fo_51_1 rfl (.some rfl rfl rfl hc70) rfl ?_
            refine JL.loadOwn 3 az_3 rfl rfl rfl (.some rfl rfl rfl hc70) rfl ?_
            refine JL.fieldAddr fo_51_1 rfl (.some rfl rfl rfl hc70) rfl ?_
            refine JL.loadOwn 2 az_3 rfl rfl rfl (.some rfl rfl rfl hc70) rfl ?_
            refine JL.max4 rfl rfl rfl rfl (.some rfl rfl rfl hc70) rfl ?_
            refine JL.bin rfl rfl rfl (.some rfl rfl rfl hc70) rfl ?_
            refine JL.pick_f (b := (((((y51.2.2 != 0) || (y54.2.2 != 0)) || (y57.2 != 0)) || (y59.2 != 0)) || (decide ((min (min (min y51.1.Den y51.2.1.Den) y54.1.Den) y54.2.1.Den) < 1)))) rfl hc70 .none rfl ?_
            exact hJ69 _ ⟨rfl, rfl, rfl, rfl, rfl, rfl, rfl, rfl, or_f hc70 rfl⟩
          ·rintro f ⟨hf2, hf5, hf8, hf9, hf11, hf12, hf14, hf16, hf173⟩
           refine (JL.norm (i := 2) hf2 (JL.norm (i := 5) hf5 (JL.norm (i := 8) hf8 (JL.norm (i := 9) hf9 (JL.norm (i := 11) hf11 (JL.norm (i := 12) hf12 (JL.norm (i := 14) hf14 (JL.norm (i := 16) hf16 (JL.norm (i := 173) hf173 ?_)))))))))
           refine JL.move .none rfl ?_
           refine JL.cut 11 (fun f => f 2 = .pointer (some ⟨b1, 0, none⟩) ∧ f 5 = .pointer (some ⟨b23, 0, none⟩) ∧ f 8 = .pointer (some ⟨b52, 0, none⟩) ∧ f 9 = .pointer (some ⟨b53, 0, none⟩) ∧ f 11 = .pointer (some ⟨b55, 0, none⟩) ∧ f 12 = .pointer (some ⟨b56, 0, none⟩) ∧ f 14 = .pointer (some ⟨b58, 0, none⟩) ∧ f 16 = .pointer (some ⟨b60, 0, none⟩) ∧ f 185 = .bool (((((((y51.2.2 != 0) || (y54.2.2 != 0)) || (y57.2 != 0)) || (y59.2 != 0)) || (decide ((min (min (min y51.1.Den y51.2.1.Den) y54.1.Den) y54.2.1.Den) < 1))) || (decide (1073741824 < (max (max (max y51.1.Den y51.2.1.Den) y54.1.Den) y54.2.1.Den)))) || (decide (1073741824 < (max (max (max y51.1.Num y51.2.1.Num) y54.1.Num) y54.2.1.Num))))) ?_ ?_
           ·intro hJ71
            rcases bcases ((((((y51.2.2 != 0) || (y54.2.2 != 0)) || (y57.2 != 0)) || (y59.2 != 0)) || (decide ((min (min (min y51.1.Den y51.2.1.Den) y54.1.Den) y54.2.1.Den) < 1))) || (decide (1073741824 < (max (max (max y51.1.Den y51.2.1.Den) y54.1.Den) y54.2.1.Den)))) with hc72 | hc72
            ·skip
             refine JL.skip (.bool rfl rfl rfl hc72) rfl ?_
             refine JL.skip (.bool rfl rfl rfl hc72) rfl ?_
             refine JL.skip (.bool rfl rfl rfl hc72) rfl ?_
             refine JL.skip (.bool rfl rfl rfl hc72) rfl ?_
             refine JL.skip (.bool rfl rfl rfl hc72) rfl ?_
             refine JL.skip (.bool rfl rfl rfl hc72) rfl ?_
             refine JL.skip (.bool rfl rfl rfl hc72) rfl ?_
             refine JL.skip (.bool rfl rfl rfl hc72) rfl ?_
             refine JL.skip (.bool rfl rfl rfl hc72) rfl ?_
             refine JL.skip (.bool rfl rfl rfl hc72) rfl ?_
             refine JL.pick_t (b := ((((((y51.2.2 != 0) || (y54.2.2 != 0)) || (y57.2 != 0)) || (y59.2 != 0)) || (decide ((min (min (min y51.1.Den y51.2.1.Den) y54.1.Den) y54.2.1.Den) < 1))) || (decide (1073741824 < (max (max (max y51.1.Den y51.2.1.Den) y54.1.Den) y54.2.1.Den))))) rfl hc72 .none rfl ?_
             exact hJ71 _ ⟨rfl, rfl, rfl, rfl, rfl, rfl, rfl, rfl, or_t hc72 rfl⟩
            ·skip
             refine JL.fieldAddr fo_51_0 rfl (.some rfl rfl rfl hc72) rfl ?_
             refine JL.loadOwn 5 az_3 rfl rfl rfl (.some rfl rfl rfl hc72) rfl ?_
             refine JL.fieldAddr fo_51_0 rfl (.some rfl rfl rfl hc72) rfl ?_
             refine JL.loadOwn 4 az_3 rfl rfl rfl (.some rfl rfl rfl hc72) rfl ?_
             refine JL.fieldAddr fo_51_0 rfl (.some rfl rfl rfl hc72) rfl ?_
             refine JL.loadOwn 3 az_3 rfl rfl rfl (.some rfl rfl rfl hc72) rfl ?_
             refine JL.fieldAddr fo_51_0 rfl (.some rfl rfl rfl hc72) rfl ?_
             refine JL.loadOwn 2 az_3 rfl rfl rfl (.some rfl rfl rfl hc72) rfl ?_
             refine JL.max4 rfl rfl rfl rfl (.some rfl rfl rfl hc72) rfl ?_
             refine JL.bin rfl rfl rfl (.some rfl rfl rfl hc72) rfl ?_
             refine JL.pick_f (b := ((((((y51.2.2 != 0) || (y54.2.2 != 0)) || (y57.2 != 0)) || (y59.2 != 0)) || (decide ((min (min (min y51.1.Den y51.2.1.Den) y54.1.Den) y54.2.1.Den) < 1))) || (decide (1073741824 < (max (max (max y51.1.Den y51.2.1.Den) y54.1.Den) y54.2.1.Den))))) rfl hc72 .none rfl ?_
             exact hJ71 _ ⟨rfl, rfl, rfl, rfl, rfl, rfl, rfl, rfl, or_f hc72 rfl⟩
           ·rintro f ⟨hf2, hf5, hf8, hf9, hf11, hf12, hf14, hf16, hf185⟩
            refine (JL.norm (i := 2) hf2 (JL.norm (i := 5) hf5 (JL.norm (i := 8) hf8 (JL.norm (i := 9) hf9 (JL.norm (i := 11) hf11 (JL.norm (i := 12) hf12 (JL.norm (i := 14) hf14 (JL.norm (i := 16) hf16 (JL.norm (i := 185) hf185 ?_)))))))))
            refine JL.move .none rfl ?_
            refine JL.cut 11 (fun f => f 2 = .pointer (some ⟨b1, 0, none⟩) ∧ f 5 = .pointer (some ⟨b23, 0, none⟩) ∧ f 8 = .pointer (some ⟨b52, 0, none⟩) ∧ f 9 = .pointer (some ⟨b53, 0, none⟩) ∧ f 11 = .pointer (some ⟨b55, 0, none⟩) ∧ f 12 = .pointer (some ⟨b56, 0, none⟩) ∧ f 14 = .pointer (some ⟨b58, 0, none⟩) ∧ f 16 = .pointer (some ⟨b60, 0, none⟩) ∧ f 197 = .bool ((((((((y51.2.2 != 0) || (y54.2.2 != 0)) || (y57.2 != 0)) || (y59.2 != 0)) || (decide ((min (min (min y51.1.Den y51.2.1.Den) y54.1.Den) y54.2.1.Den) < 1))) || (decide (1073741824 < (max (max (max y51.1.Den y51.2.1.Den) y54.1.Den) y54.2.1.Den)))) || (decide (1073741824 < (max (max (max y51.1.Num y51.2.1.Num) y54.1.Num) y54.2.1.Num)))) || (decide ((min (min (min y51.1.Num y51.2.1.Num) y54.1.Num) y54.2.1.Num) < (-1073741824))))) ?_ ?_
            ·intro hJ73
             rcases bcases (((((((y51.2.2 != 0) || (y54.2.2 != 0)) || (y57.2 != 0)) || (y59.2 != 0)) || (decide ((min (min (min y51.1.Den y51.2.1.Den) y54.1.Den) y54.2.1.Den) < 1))) || (decide (1073741824 < (max (max (max y51.1.Den y51.2.1.Den) y54.1.Den) y54.2.1.Den)))) || (decide (1073741824 < (max (max (max y51.1.Num y51.2.1.Num) y54.1.Num) y54.2.1.Num)))) with hc74 | hc74
             ·skip
              refine JL.skip (.bool rfl rfl rfl hc74) rfl ?_
              refine JL.skip (.bool rfl rfl rfl hc74) rfl ?_
              refine JL.skip (.bool rfl rfl rfl hc74) rfl ?_
              refine JL.skip (.bool rfl rfl rfl hc74) rfl ?_
              refine JL.skip (.bool rfl rfl rfl hc74) rfl ?_
              refine JL.skip (.bool rfl rfl rfl hc74) rfl ?_
              refine JL.skip (.bool rfl rfl rfl hc74) rfl ?_
              refine JL.skip (.bool rfl rfl rfl hc74) rfl ?_
              refine JL.skip (.bool rfl rfl rfl hc74) rfl ?_
              refine JL.skip (.bool rfl rfl rfl hc74) rfl ?_
              refine JL.pick_t (b := (((((((y51.2.2 != 0) || (y54.2.2 != 0)) || (y57.2 != 0)) || (y59.2 != 0)) || (decide ((min (min (min y51.1.Den y51.2.1.Den) y54.1.Den) y54.2.1.Den) < 1))) || (decide (1073741824 < (max (max (max y51.1.Den y51.2.1.Den) y54.1.Den) y54.2.1.Den)))) || (decide (1073741824 < (max (max (max y51.1.Num y51.2.1.Num) y54.1.Num) y54.2.1.Num))))) rfl hc74 .none rfl ?_
              exact hJ73 _ ⟨rfl, rfl, rfl, rfl, rfl, rfl, rfl, rfl, or_t hc74 rfl⟩
             ·skip
              refine JL.fieldAddr fo_51_0 rfl (.some rfl rfl rfl hc74) rfl ?_
              refine JL.loadOwn 5 az_3 rfl rfl rfl (.some rfl rfl rfl hc74) rfl ?_
              refine JL.fieldAddr fo_51_0 rfl (.some rfl rfl rfl hc74) rfl ?_
              refine JL.loadOwn 4 az_3 rfl rfl rfl (.some rfl rfl rfl hc74) rfl ?_
              refine JL.fieldAddr fo_51_0 rfl (.some rfl rfl rfl hc74) rfl ?_
              refine JL.loadOwn 3 az_3 rfl rfl rfl (.some rfl rfl rfl hc74) rfl ?_
              refine JL.fieldAddr fo_51_0 rfl (.some rfl rfl rfl hc74) rfl ?_
              refine JL.loadOwn 2 az_3 rfl rfl rfl (.some rfl rfl rfl hc74) rfl ?_
              refine JL.min4 rfl rfl rfl rfl (.some rfl rfl rfl hc74) rfl ?_
              refine JL.bin rfl rfl rfl (.some rfl rfl rfl hc74) rfl ?_
              refine JL.pick_f (b := (((((((y51.2.2 != 0) || (y54.2.2 != 0)) || (y57.2 != 0)) || (y59.2 != 0)) || (decide ((min (min (min y51.1.Den y51.2.1.Den) y54.1.Den) y54.2.1.Den) < 1))) || (decide (1073741824 < (max (max (max y51.1.Den y51.2.1.Den) y54.1.Den) y54.2.1.Den)))) || (decide (1073741824 < (max (max (max y51.1.Num y51.2.1.Num) y54.1.Num) y54.2.1.Num))))) rfl hc74 .none rfl ?_
              exact hJ73 _ ⟨rfl, rfl, rfl, rfl, rfl, rfl, rfl, rfl, or_f hc74 rfl⟩
            ·rintro f ⟨hf2, hf5, hf8, hf9, hf11, hf12, hf14, hf16, hf197⟩
             refine (JL.norm (i := 2) hf2 (JL.norm (i := 5) hf5 (JL.norm (i := 8) hf8 (JL.norm (i := 9) hf9 (JL.norm (i := 11) hf11 (JL.norm (i := 12) hf12 (JL.norm (i := 14) hf14 (JL.norm (i := 16) hf16 (JL.norm (i := 197) hf197 ?_)))))))))
             refine JL.done hQ (JQ.go ?_)
             rcases ite_some hF with ⟨hc75, hF⟩ | ⟨hc75, hF⟩
             ·refine JC.cond_t (b := ((((((((y51.2.2 != 0) || (y54.2.2 != 0)) || (y57.2 != 0)) || (y59.2 != 0)) || (decide ((min (min (min y51.1.Den y51.2.1.Den) y54.1.Den) y54.2.1.Den) < 1))) || (decide (1073741824 < (max (max (max y51.1.Den y51.2.1.Den) y54.1.Den) y54.2.1.Den)))) || (decide (1073741824 < (max (max (max y51.1.Num y51.2.1.Num) y54.1.Num) y54.2.1.Num)))) || (decide ((min (min (min y51.1.Num y51.2.1.Num) y54.1.Num) y54.2.1.Num) < (-1073741824))))) rfl hc75 ?_
              refine JC.seq (JC.region (by rfl) ?_)
              intro hQ
              refine JL.assign .none rfl ?_
              refine JL.done hQ (JQ.go (JC.ret (JQ.ret_then ?_)))
              obtain rfl := Option.some.inj hF
              exact JQ.outS rfl (.tmp .nil) rfl
             ·refine JC.cond_f (b := ((((((((y51.2.2 != 0) || (y54.2.2 != 0)) || (y57.2 != 0)) || (y59.2 != 0)) || (decide ((min (min (min y51.1.Den y51.2.1.Den) y54.1.Den) y54.2.1.Den) < 1))) || (decide (1073741824 < (max (max (max y51.1.Den y51.2.1.Den) y54.1.Den) y54.2.1.Den)))) || (decide (1073741824 < (max (max (max y51.1.Num y51.2.1.Num) y54.1.Num) y54.2.1.Num)))) || (decide ((min (min (min y51.1.Num y51.2.1.Num) y54.1.Num) y54.2.1.Num) < (-1073741824))))) rfl hc75 ?_
              refine JC.skip (JQ.go (JC.seq (JC.seq (JC.region (by rfl) ?_))))
              intro hQ
              refine JL.loadOwn 3 az_51 rfl rfl rfl .none rfl ?_
              refine JL.loadOwn 5 az_51 rfl rfl rfl .none rfl ?_
              obtain ⟨y76, hy76, hF⟩ := bind_some hF
              refine JL.callS (c_ref01_Less n H46 y54.1 y51.1 y76 hy76) rfl en_29 .none rfl ?_
              refine JL.move .none rfl ?_
              obtain ⟨p78, hp78, hF⟩ := bind_some hF
              refine JL.cut 4 (fun f => f 2 = .pointer (some ⟨b1, 0, none⟩) ∧ f 5 = .pointer (some ⟨b23, 0, none⟩) ∧ f 14 = .pointer (some ⟨b58, 0, none⟩) ∧ f 16 = .pointer (some ⟨b60, 0, none⟩) ∧ f 205 = .bool p78) ?_ ?_
              ·intro hJ79
               rcases ite_some hp78 with ⟨hc80, hF⟩ | ⟨hc80, hF⟩
               ·skip
                refine JL.skip (.bool rfl rfl rfl hc80) rfl ?_
                refine JL.skip (.bool rfl rfl rfl hc80) rfl ?_
                refine JL.skip (.bool rfl rfl rfl hc80) rfl ?_
                refine JL.pick_t (b := y76) rfl hc80 .none rfl ?_
                obtain rfl := Option.some.inj hF
                exact hJ79 _ ⟨rfl, rfl, rfl, rfl, rfl⟩
               ·skip
                refine JL.loadOwn 4 az_51 rfl rfl rfl (.some rfl rfl rfl hc80) rfl ?_
                refine JL.loadOwn 2 az_51 rfl rfl rfl (.some rfl rfl rfl hc80) rfl ?_
                obtain ⟨y81, hy81, hF⟩ := bind_some hF
                refine JL.callS (c_ref01_Less n H46 y51.2.1 y54.2.1 y81 hy81) rfl en_29 (.some rfl rfl rfl hc80) rfl ?_
                refine JL.pick_f (b := y76) rfl hc80 .none rfl ?_
                obtain rfl := Option.some.inj hF
                exact hJ79 _ ⟨rfl, rfl, rfl, rfl, rfl⟩
              ·rintro f ⟨hf2, hf5, hf14, hf16, hf205⟩
               refine (JL.norm (i := 2) hf2 (JL.norm (i := 5) hf5 (JL.norm (i := 14) hf14 (JL.norm (i := 16) hf16 (JL.norm (i := 205) hf205 ?_)))))
               refine JL.move .none rfl ?_
               refine JL.cut 6 (fun f => f 2 = .pointer (some ⟨b1, 0, none⟩) ∧ f 5 = .pointer (some ⟨b23, 0, none⟩) ∧ f 14 = .pointer (some ⟨b58, 0, none⟩) ∧ f 16 = .pointer (some ⟨b60, 0, none⟩) ∧ f 212 = .bool (p78 || (decide (y59.1.Low < y57.1.Low)))) ?_ ?_
               ·intro hJ82
                rcases bcases p78 with hc83 | hc83
                ·skip
                 refine JL.skip (.bool rfl rfl rfl hc83) rfl ?_
                 refine JL.skip (.bool rfl rfl rfl hc83) rfl ?_
                 refine JL.skip (.bool rfl rfl rfl hc83) rfl ?_
                 refine JL.skip (.bool rfl rfl rfl hc83) rfl ?_
                 refine JL.skip (.bool rfl rfl rfl hc83) rfl ?_
                 refine JL.pick_t (b := p78) rfl hc83 .none rfl ?_
                 exact hJ82 _ ⟨rfl, rfl, rfl, rfl, or_t hc83 rfl⟩
                ·skip
                 refine JL.fieldAddr fo_39_0 rfl (.some rfl rfl rfl hc83) rfl ?_
                 refine JL.loadOwn 0 az_3 rfl rfl rfl (.some rfl rfl rfl hc83) rfl ?_
                 refine JL.fieldAddr fo_39_0 rfl (.some rfl rfl rfl hc83) rfl ?_
                 refine JL.loadOwn 1 az_3 rfl rfl rfl (.some rfl rfl rfl hc83) rfl ?_
                 refine JL.bin rfl rfl rfl (.some rfl rfl rfl hc83) rfl ?_
                 refine JL.pick_f (b := p78) rfl hc83 .none rfl ?_
                 exact hJ82 _ ⟨rfl, rfl, rfl, rfl, or_f hc83 rfl⟩
               ·rintro f ⟨hf2, hf5, hf14, hf16, hf212⟩
                refine (JL.norm (i := 2) hf2 (JL.norm (i := 5) hf5 (JL.norm (i := 14) hf14 (JL.norm (i := 16) hf16 (JL.norm (i := 212) hf212 ?_)))))
                refine JL.move .none rfl ?_
                refine JL.cut 6 (fun f => f 2 = .pointer (some ⟨b1, 0, none⟩) ∧ f 5 = .pointer (some ⟨b23, 0, none⟩) ∧ f 219 = .bool ((p78 || (decide (y59.1.Low < y57.1.Low))) || (decide (y57.1.High < y59.1.High)))) ?_ ?_
                ·intro hJ84
                 rcases bcases (p78 || (decide (y59.1.Low < y57.1.Low))) with hc85 | hc85
                 ·skip
                  refine JL.skip (.bool rfl rfl rfl hc85) rfl ?_
                  refine JL.skip (.bool rfl rfl rfl hc85) rfl ?_
                  refine JL.skip (.bool rfl rfl rfl hc85) rfl ?_
                  refine JL.skip (.bool rfl rfl rfl hc85) rfl ?_
                  refine JL.skip (.bool rfl rfl rfl hc85) rfl ?_
                  refine JL.pick_t (b := (p78 || (decide (y59.1.Low < y57.1.Low)))) rfl hc85 .none rfl ?_
                  exact hJ84 _ ⟨rfl, rfl, or_t hc85 rfl⟩
                 ·skip
                  refine JL.fieldAddr fo_39_1 rfl (.some rfl rfl rfl hc85) rfl ?_
                  refine JL.loadOwn 0 az_3 rfl rfl rfl (.some rfl rfl rfl hc85) rfl ?_
                  refine JL.fieldAddr fo_39_1 rfl (.some rfl rfl rfl hc85) rfl ?_
                  refine JL.loadOwn 1 az_3 rfl rfl rfl (.some rfl rfl rfl hc85) rfl ?_
                  refine JL.bin rfl rfl rfl (.some rfl rfl rfl hc85) rfl ?_
                  refine JL.pick_f (b := (p78 || (decide (y59.1.Low < y57.1.Low)))) rfl hc85 .none rfl ?_
                  exact hJ84 _ ⟨rfl, rfl, or_f hc85 rfl⟩
                ·rintro f ⟨hf2, hf5, hf219⟩
                 refine (JL.norm (i := 2) hf2 (JL.norm (i := 5) hf5 (JL.norm (i := 219) hf219 ?_)))
                 refine JL.done hQ (JQ.go ?_)
                 rcases ite_some hF with ⟨hc86, hF⟩ | ⟨hc86, hF⟩
                 ·refine JC.cond_t (b := ((p78 || (decide (y59.1.Low < y57.1.Low))) || (decide (y57.1.High < y59.1.High)))) rfl hc86 ?_
                  refine JC.seq (JC.region (by rfl) ?_)
                  intro hQ
                  refine JL.assign .none rfl ?_
                  refine JL.done hQ (JQ.go (JC.ret (JQ.ret_then ?_)))
                  obtain rfl := Option.some.inj hF
                  exact JQ.outS rfl (.tmp .nil) rfl
                 ·refine JC.cond_f (b := ((p78 || (decide (y59.1.Low < y57.1.Low))) || (decide (y57.1.High < y59.1.High)))) rfl hc86 ?_
                  refine JC.skip (JQ.go (JC.seq (JC.seq (JC.region (by rfl) ?_))))
                  intro hQ
                  refine JL.assign .none rfl ?_
                  refine JL.done hQ (JQ.go ?_)
                  obtain ⟨r1581, hlr1581, hKr1581⟩ := bind_some hF
                  refine JC.join (fun (_ : Unit) H1580 f bs gs => bs = [] ∧ gs = [] ∧ HSub H46 H1580 ∧ Sum.inr () = r1581) ?_ ?_
                  ·skip
                   refine JC.block (JC.mask [false, false, false, false, false, false, false, true, false, true] [] ?_)
                   refine JC.loop hlr1581 (fun (n_2576 : Int) H2577 f bs gs => f 2 = .pointer (some ⟨b1, 0, none⟩) ∧ f 5 = .pointer (some ⟨b23, 0, none⟩) ∧ f 18 = .int .i64 n_2576 ∧ bs = [(b23, .cells [y15_v0, .int .i64 y15.Canopy.Frame.Low, .int .i64 y15.Canopy.Frame.High, .int .i64 y15.Canopy.Frame.Ease.Num, .int .i64 y15.Canopy.Frame.Ease.Den, .int .i64 y15.Canopy.Frame.Rod, .int .i64 y15.Canopy.Frame.Case, y15_v1, y15_v2, y15_v3, y15_v4, .int .i64 y15.Wrong].toArray 90), (b1, .cells [r_v0, .int .i64 r.Canopy.Frame.Low, .int .i64 r.Canopy.Frame.High, .int .i64 r.Canopy.Frame.Ease.Num, .int .i64 r.Canopy.Frame.Ease.Den, .int .i64 r.Canopy.Frame.Rod, .int .i64 r.Canopy.Frame.Case, r_v7, r_v8, r_v9, r_v10, .int .i64 r.Wrong].toArray 90)] ∧ gs = [] ∧ HSub H46 H2577) ⟨rfl, rfl, rfl, rfl, rfl, (HSub.refl _)⟩ ?_
                   rintro n_2576 x2579 H2577 f bs gs ⟨hf2, hf5, hf18, rfl, rfl, hs2577⟩ hF hr2578
                   rw [F_top_TopFiner_s1] at hF
                   refine (JC.norm (i := 2) hf2 (JC.norm (i := 5) hf5 (JC.norm (i := 18) hf18 ?_)))
                   refine JC.seq (JC.seq (JC.region (by rfl) ?_))
                   intro hQ
                   refine JL.move .none rfl ?_
                   refine JL.fieldAddr fo_90_1 rfl .none rfl ?_
                   refine JL.loadOwn 1 az_87 rfl rfl rfl .none rfl ?_
                   refine JL.lenSL (R := R_Blow) ul_87 (SL.mono R_Blow_mono (HSub.trans hs16 (HSub.trans hs38 (HSub.trans hs40 (HSub.trans hs42 (HSub.trans hs44 (HSub.trans hs46 hs2577)))))) hr_9) .none rfl ?_
                   refine JL.bin rfl rfl rfl .none rfl ?_
                   refine JL.done hQ (JQ.go ?_)
                   rcases ite_some hF with ⟨hc2580, hF⟩ | ⟨hc2580, hF⟩
                   ·refine JC.cond_t (b := decide (n_2576 < (r.Blows.length : Int))) rfl hc2580 ?_
                    refine JC.skip (JQ.go (JC.seq (JC.block (JC.seq ?_))))
                    obtain ⟨y2591, hy2591, hF⟩ := bind_some hF
                    obtain ⟨y2596, hy2596, hF⟩ := bind_some hF
                    refine JC.mixed 16 16 #[false, false, false, false, false, false, false, false, false, false, false, false, false, false, false, false] [(b23, .cells [y15_v0, .int .i64 y15.Canopy.Frame.Low, .int .i64 y15.Canopy.Frame.High, .int .i64 y15.Canopy.Frame.Ease.Num, .int .i64 y15.Canopy.Frame.Ease.Den, .int .i64 y15.Canopy.Frame.Rod, .int .i64 y15.Canopy.Frame.Case, y15_v1, y15_v2, y15_v3, y15_v4, .int .i64 y15.Wrong].toArray 90), (b1, .cells [r_v0, .int .i64 r.Canopy.Frame.Low, .int .i64 r.Canopy.Frame.High, .int .i64 r.Canopy.Frame.Ease.Num, .int .i64 r.Canopy.Frame.Ease.Den, .int .i64 r.Canopy.Frame.Rod, .int .i64 r.Canopy.Frame.Case, r_v7, r_v8, r_v9, r_v10, .int .i64 r.Wrong].toArray 90)] (by rfl) mo_ (by kernel_rfl) (by kernel_rfl) ?_
                    intro hQ hE
                    refine JA.take 0 (listed' := #[true, false, false, false, false, false, false, false, false, false, false, false, false, false, false, false]) hQ rfl (by kernel_rfl) (by kernel_rfl) (by kernel_rfl) (by kernel_rfl) (by kernel_rfl) hE (HSub.refl _) (.cons_cons _ (.cons_cons _ (List.nil_sublist _))) ?_
                    refine JL.fieldAddr fo_90_1 rfl .none rfl ?_
                    refine JA.cont ?_
                    refine JA.take 1 (listed' := #[true, true, false, false, false, false, false, false, false, false, false, false, false, false, false, false]) hQ rfl (by kernel_rfl) (by kernel_rfl) (by kernel_rfl) (by kernel_rfl) (by kernel_rfl) hE (HSub.refl _) (.cons_cons _ (.cons_cons _ (List.nil_sublist _))) ?_
                    refine JL.loadOwn 1 az_87 rfl rfl rfl .none rfl ?_
                    refine JA.cont ?_
                    refine JA.take 2 (listed' := #[true, true, true, false, false, false, false, false, false, false, false, false, false, false, false, false]) hQ rfl (by kernel_rfl) (by kernel_rfl) (by kernel_rfl) (by kernel_rfl) (by kernel_rfl) hE (HSub.refl _) (.cons_cons _ (.cons_cons _ (List.nil_sublist _))) ?_
                    refine JL.move .none rfl ?_
                    refine JA.cont ?_
                    refine JA.take 3 (listed' := #[true, true, true, true, false, false, false, false, false, false, false, false, false, false, false, false]) hQ rfl (by kernel_rfl) (by kernel_rfl) (by kernel_rfl) (by kernel_rfl) (by kernel_rfl) hE (HSub.refl _) (.cons_cons _ (.cons_cons _ (List.nil_sublist _))) ?_
                    refine JL.indexSL (R := R_Blow) sl_87 (SL.mono R_Blow_mono (HSub.trans hs16 (HSub.trans hs38 (HSub.trans hs40 (HSub.trans hs42 (HSub.trans hs44 (HSub.trans hs46 hs2577)))))) hr_9) rfl hy2591 .none rfl ?_
                    rintro b2623 o2624 cs2625 hc2626 - rfl
                    refine JA.cont ?_
                    refine JA.take 4 (listed' := #[true, true, true, true, true, false, false, false, false, false, false, false, false, false, false, false]) hQ rfl (by kernel_rfl) (by kernel_rfl) (by kernel_rfl) (by kernel_rfl) (by kernel_rfl) hE (HSub.refl _) (.cons_cons _ (.cons_cons _ (List.nil_sublist _))) ?_
                    refine JL.fieldAddr fo_98_1 rfl .none rfl ?_
                    refine JA.cont ?_
                    refine JA.take 5 (listed' := #[true, true, true, true, true, true, false, false, false, false, false, false, false, false, false, false]) hQ rfl (by kernel_rfl) (by kernel_rfl) (by kernel_rfl) (by kernel_rfl) (by kernel_rfl) hE (HSub.refl _) (.cons_cons _ (.cons_cons _ (List.nil_sublist _))) ?_
                    refine JL.fieldAddr fo_39_1 rfl .none rfl ?_
                    refine JA.cont ?_
                    refine JA.take 6 (listed' := #[true, true, true, true, true, true, true, false, false, false, false, false, false, false, false, false]) hQ rfl (by kernel_rfl) (by kernel_rfl) (by kernel_rfl) (by kernel_rfl) (by kernel_rfl) hE (HSub.refl _) (.cons_cons _ (.cons_cons _ (List.nil_sublist _))) ?_
                    refine JL.loadH 2 az_3 rfl hc2626 rfl .none rfl ?_
                    refine JA.cont ?_
                    refine JA.take 7 (listed' := #[true, true, true, true, true, true, true, true, false, false, false, false, false, false, false, false]) hQ rfl (by kernel_rfl) (by kernel_rfl) (by kernel_rfl) (by kernel_rfl) (by kernel_rfl) hE (HSub.refl _) (.cons_cons _ (.cons_cons _ (List.nil_sublist _))) ?_
                    refine JL.fieldAddr fo_90_1 rfl .none rfl ?_
                    refine JA.cont ?_
                    refine JA.take 8 (listed' := #[true, true, true, true, true, true, true, true, true, false, false, false, false, false, false, false]) hQ rfl (by kernel_rfl) (by kernel_rfl) (by kernel_rfl) (by kernel_rfl) (by kernel_rfl) hE (HSub.refl _) (.cons_cons _ (.cons_cons _ (List.nil_sublist _))) ?_
                    refine JL.loadOwn 1 az_87 rfl rfl rfl .none rfl ?_
                    refine JA.cont ?_
                    refine JA.take 9 (listed' := #[true, true, true, true, true, true, true, true, true, true, false, false, false, false, false, false]) hQ rfl (by kernel_rfl) (by kernel_rfl) (by kernel_rfl) (by kernel_rfl) (by kernel_rfl) hE (HSub.refl _) (.cons_cons _ (.cons_cons _ (List.nil_sublist _))) ?_
                    refine JL.move .none rfl ?_
                    refine JA.cont ?_
                    refine JA.take 10 (listed' := #[true, true, true, true, true, true, true, true, true, true, true, false, false, false, false, false]) hQ rfl (by kernel_rfl) (by kernel_rfl) (by kernel_rfl) (by kernel_rfl) (by kernel_rfl) hE (HSub.refl _) (.cons_cons _ (.cons_cons _ (List.nil_sublist _))) ?_
                    refine JL.indexSL (R := R_Blow) sl_87 (SL.mono R_Blow_mono (HSub.trans hs16 (HSub.trans hs38 (HSub.trans hs40 (HSub.trans hs42 (HSub.trans hs44 (HSub.trans hs46 hs2577)))))) hr_9) rfl hy2596 .none rfl ?_
                    rintro b2631 o2632 cs2633 hc2634 - rfl
                    refine JA.cont ?_
                    refine JA.take 11 (listed' := #[true, true, true, true, true, true, true, true, true, true, true, true, false, false, false, false]) hQ rfl (by kernel_rfl) (by kernel_rfl) (by kernel_rfl) (by kernel_rfl) (by kernel_rfl) hE (HSub.refl _) (.cons_cons _ (.cons_cons _ (List.nil_sublist _))) ?_
                    refine JL.fieldAddr fo_98_0 rfl .none rfl ?_
                    refine JA.cont ?_
                    refine JA.take 12 (listed' := #[true, true, true, true, true, true, true, true, true, true, true, true, true, false, false, false]) hQ rfl (by kernel_rfl) (by kernel_rfl) (by kernel_rfl) (by kernel_rfl) (by kernel_rfl) hE (HSub.refl _) (.cons_cons _ (.cons_cons _ (List.nil_sublist _))) ?_
                    refine JL.loadH 0 az_3 rfl hc2634 rfl .none rfl ?_
                    refine JA.cont ?_
                    refine JA.take 13 (listed' := #[true, true, true, true, true, true, true, true, true, true, true, true, true, true, false, false]) hQ rfl (by kernel_rfl) (by kernel_rfl) (by kernel_rfl) (by kernel_rfl) (by kernel_rfl) hE (HSub.refl _) (.cons_cons _ (.cons_cons _ (List.nil_sublist _))) ?_
                    refine JL.build (l := [.int .i64 y2591.Force.High, .int .i64 y2596.At]) (by kernel_rfl) .none rfl ?_
                    refine JA.cont ?_
                    refine JA.many [14] (by kernel_rfl) (by simp) (all_one ⟨_, #[true, true, true, true, true, true, true, true, true, true, true, true, true, true, true, false], rfl, (by kernel_rfl), ?_⟩)
                    refine JL.alloc ze_86 .none rfl ?_
                    intro b2635
                    refine JA.after hE (HSub.refl _) (.cons _ (.cons_cons _ (.cons_cons _ (List.nil_sublist _)))) ?_
                    refine JA.many [15] (by kernel_rfl) (by simp) (all_one ⟨_, #[true, true, true, true, true, true, true, true, true, true, true, true, true, true, true, true], rfl, (by kernel_rfl), ?_⟩)
                    refine JL.storeOwn 0 (cs := [.int .i64 y2591.Force.High, .int .i64 y2596.At]) az_86 rfl rfl rfl (one_cons rfl (one_cons rfl one_nil)) rfl rfl .none ?_
                    refine JA.after hE (HSub.refl _) (.cons _ (.cons_cons _ (.cons_cons _ (List.nil_sublist _)))) ?_
                    refine JA.done hQ (by kernel_rfl) ?_
                    refine JQ.go (JC.fresh (fun f => f 2 = .pointer (some ⟨b1, 0, none⟩) ∧ f 5 = .pointer (some ⟨b23, 0, none⟩) ∧ f 18 = .int .i64 n_2576 ∧ f 19 = .pointer (some ⟨b2635, 0, none⟩)) ⟨rfl, rfl, rfl, rfl⟩ ?_)
                    rintro f ⟨hf2, hf5, hf18, hf19⟩
                    refine (JC.norm (i := 2) hf2 (JC.norm (i := 5) hf5 (JC.norm (i := 18) hf18 (JC.norm (i := 19) hf19 ?_))))
                    refine JC.seq (JC.region (by rfl) ?_)
                    intro hQ
                    refine JL.fieldAddr fo_90_0 rfl .none rfl ?_
                    refine JL.loadOwn 2 az_76 rfl rfl rfl .none rfl ?_
                    refine JL.loadOwn 0 az_86 rfl rfl rfl .none rfl ?_
                    obtain ⟨y2636, hy2636, hF⟩ := bind_some hF
                    refine JL.callH (c_gusts_Loads n H2577 r.Canopy r_v0 (SL.mono R_Section_mono (HSub.trans hs16 (HSub.trans hs38 (HSub.trans hs40 (HSub.trans hs42 (HSub.trans hs44 (HSub.trans hs46 hs2577)))))) hr_0) r_v7 (SL.mono R_Span_mono (HSub.trans hs16 (HSub.trans hs38 (HSub.trans hs40 (HSub.trans hs42 (HSub.trans hs44 (HSub.trans hs46 hs2577)))))) hr_7) r_v8 (SL.mono RInt.mono (HSub.trans hs16 (HSub.trans hs38 (HSub.trans hs40 (HSub.trans hs42 (HSub.trans hs44 (HSub.trans hs46 hs2577)))))) hr_8) (Gust.mk y2591.Force.High y2596.At) y2636 hy2636) rfl en_45 .none rfl ?_
                    rintro H2637 vv2638 hs2637 ⟨y2636a_v0, rfl, hy2636a_0⟩
                    refine JL.move .none rfl ?_
                    refine JL.extract rfl rfl .none rfl ?_
                    refine JL.extract rfl rfl .none rfl ?_
                    refine JL.assign .none rfl ?_
                    refine JL.assign .none rfl ?_
                    refine JL.done hQ (JQ.go (JC.seq (JC.region (by rfl) ?_)))
                    intro hQ
                    refine JL.fieldAddr fo_90_0 rfl .none rfl ?_
                    refine JL.loadOwn 1 az_76 rfl rfl rfl .none rfl ?_
                    refine JL.loadOwn 0 az_86 rfl rfl rfl .none rfl ?_
                    obtain ⟨y2639, hy2639, hF⟩ := bind_some hF
                    refine JL.callH (c_gusts_Loads n H2637 (Canopy.mk (Frame.mk (setx y15.Canopy.Frame.Sections 0 (Section.mk (Span.mk (w64 (y29.Arm.Low + x_.ArmLow)) (w64 (y29.Arm.High - x_.ArmHigh))) (Span.mk (w64 (y29.Stretch.Low + x_.RodLow)) (w64 (y29.Stretch.High - x_.RodHigh))) y29.Base y29.Gear)) y15.Canopy.Frame.Low y15.Canopy.Frame.High y15.Canopy.Frame.Ease y15.Canopy.Frame.Rod y15.Canopy.Frame.Case) y15.Canopy.Ribs y15.Canopy.Shares) y15_v0 (SL.mono R_Section_mono (HSub.trans hs40 (HSub.trans hs42 (HSub.trans hs44 (HSub.trans hs46 (HSub.trans hs2577 hs2637))))) hg39) y15_v1 (SL.mono R_Span_mono (HSub.trans hs42 (HSub.trans hs44 (HSub.trans hs46 (HSub.trans hs2577 hs2637)))) hg41) y15_v2 (SL.mono RInt.mono (HSub.trans hs44 (HSub.trans hs46 (HSub.trans hs2577 hs2637))) hg43) (Gust.mk y2591.Force.High y2596.At) y2639 hy2639) rfl en_45 .none rfl ?_
                    rintro H2640 vv2641 hs2640 ⟨y2639a_v0, rfl, hy2639a_0⟩
                    refine JL.move .none rfl ?_
                    refine JL.extract rfl rfl .none rfl ?_
                    refine JL.extract rfl rfl .none rfl ?_
                    refine JL.assign .none rfl ?_
                    refine JL.assign .none rfl ?_
                    refine JL.done hQ (JQ.go (JC.fresh (fun f => f 2 = .pointer (some ⟨b1, 0, none⟩) ∧ f 5 = .pointer (some ⟨b23, 0, none⟩) ∧ f 18 = .int .i64 n_2576 ∧ f 20 = y2636a_v0 ∧ f 21 = .int .i64 y2636.2 ∧ f 22 = y2639a_v0 ∧ f 23 = .int .i64 y2639.2) ⟨rfl, rfl, rfl, rfl, rfl, rfl, rfl⟩ ?_))
                    rintro f ⟨hf2, hf5, hf18, hf20, hf21, hf22, hf23⟩
                    refine (JC.norm (i := 2) hf2 (JC.norm (i := 5) hf5 (JC.norm (i := 18) hf18 (JC.norm (i := 20) hf20 (JC.norm (i := 21) hf21 (JC.norm (i := 22) hf22 (JC.norm (i := 23) hf23 ?_)))))))
                    refine JC.seq (JC.seq (JC.region (by rfl) ?_))
                    intro hQ
                    refine JL.move .none rfl ?_
                    refine JL.bin rfl rfl rfl .none rfl ?_
                    refine JL.move .none rfl ?_
                    refine JL.cut 3 (fun f => f 2 = .pointer (some ⟨b1, 0, none⟩) ∧ f 5 = .pointer (some ⟨b23, 0, none⟩) ∧ f 18 = .int .i64 n_2576 ∧ f 20 = y2636a_v0 ∧ f 22 = y2639a_v0 ∧ f 260 = .bool ((y2636.2 != 0) || (y2639.2 != 0))) ?_ ?_
                    ·intro hJ2642
                     rcases bcases (y2636.2 != 0) with hc2643 | hc2643
                     ·skip
                      refine JL.skip (.bool rfl rfl rfl hc2643) rfl ?_
                      refine JL.skip (.bool rfl rfl rfl hc2643) rfl ?_
                      refine JL.pick_t (b := (y2636.2 != 0)) rfl hc2643 .none rfl ?_
                      exact hJ2642 _ ⟨rfl, rfl, rfl, rfl, rfl, or_t hc2643 rfl⟩
                     ·skip
                      refine JL.move (.some rfl rfl rfl hc2643) rfl ?_
                      refine JL.bin rfl rfl rfl (.some rfl rfl rfl hc2643) rfl ?_
                      refine JL.pick_f (b := (y2636.2 != 0)) rfl hc2643 .none rfl ?_
                      exact hJ2642 _ ⟨rfl, rfl, rfl, rfl, rfl, or_f hc2643 rfl⟩
                    ·rintro f ⟨hf2, hf5, hf18, hf20, hf22, hf260⟩
                     refine (JL.norm (i := 2) hf2 (JL.norm (i := 5) hf5 (JL.norm (i := 18) hf18 (JL.norm (i := 20) hf20 (JL.norm (i := 22) hf22 (JL.norm (i := 260) hf260 ?_))))))
                     refine JL.move .none rfl ?_
                     refine JL.cut 6 (fun f => f 2 = .pointer (some ⟨b1, 0, none⟩) ∧ f 5 = .pointer (some ⟨b23, 0, none⟩) ∧ f 18 = .int .i64 n_2576 ∧ f 20 = y2636a_v0 ∧ f 22 = y2639a_v0 ∧ f 267 = .bool (((y2636.2 != 0) || (y2639.2 != 0)) || ((y2636.1.length : Int) != (y2639.1.length : Int)))) ?_ ?_
                     ·intro hJ2644
                      rcases bcases ((y2636.2 != 0) || (y2639.2 != 0)) with hc2645 | hc2645
                      ·skip
                       refine JL.skip (.bool rfl rfl rfl hc2645) rfl ?_
                       refine JL.skip (.bool rfl rfl rfl hc2645) rfl ?_
                       refine JL.skip (.bool rfl rfl rfl hc2645) rfl ?_
                       refine JL.skip (.bool rfl rfl rfl hc2645) rfl ?_
                       refine JL.skip (.bool rfl rfl rfl hc2645) rfl ?_
                       refine JL.pick_t (b := ((y2636.2 != 0) || (y2639.2 != 0))) rfl hc2645 .none rfl ?_
                       exact hJ2644 _ ⟨rfl, rfl, rfl, rfl, rfl, or_t hc2645 rfl⟩
                      ·skip
                       refine JL.move (.some rfl rfl rfl hc2645) rfl ?_
                       refine JL.lenSL (R := R_Span) ul_24 (SL.mono R_Span_mono hs2640 hy2636a_0) (.some rfl rfl rfl hc2645) rfl ?_
                       refine JL.move (.some rfl rfl rfl hc2645) rfl ?_
                       refine JL.lenSL (R := R_Span) ul_24 hy2639a_0 (.some rfl rfl rfl hc2645) rfl ?_
                       refine JL.bin rfl rfl rfl (.some rfl rfl rfl hc2645) rfl ?_
                       refine JL.pick_f (b := ((y2636.2 != 0) || (y2639.2 != 0))) rfl hc2645 .none rfl ?_
                       exact hJ2644 _ ⟨rfl, rfl, rfl, rfl, rfl, or_f hc2645 rfl⟩
                     ·rintro f ⟨hf2, hf5, hf18, hf20, hf22, hf267⟩
                      refine (JL.norm (i := 2) hf2 (JL.norm (i := 5) hf5 (JL.norm (i := 18) hf18 (JL.norm (i := 20) hf20 (JL.norm (i := 22) hf22 (JL.norm (i := 267) hf267 ?_))))))
                      refine JL.move .none rfl ?_
                      refine JL.cut 8 (fun f => f 2 = .pointer (some ⟨b1, 0, none⟩) ∧ f 5 = .pointer (some ⟨b23, 0, none⟩) ∧ f 18 = .int .i64 n_2576 ∧ f 20 = y2636a_v0 ∧ f 22 = y2639a_v0 ∧ f 276 = .bool ((((y2636.2 != 0) || (y2639.2 != 0)) || ((y2636.1.length : Int) != (y2639.1.length : Int))) || ((y2636.1.length : Int) != (r.Canopy.Ribs.length : Int)))) ?_ ?_
                      ·intro hJ2646
                       rcases bcases (((y2636.2 != 0) || (y2639.2 != 0)) || ((y2636.1.length : Int) != (y2639.1.length : Int))) with hc2647 | hc2647
                       ·skip
                        refine JL.skip (.bool rfl rfl rfl hc2647) rfl ?_
                        refine JL.skip (.bool rfl rfl rfl hc2647) rfl ?_
                        refine JL.skip (.bool rfl rfl rfl hc2647) rfl ?_
                        refine JL.skip (.bool rfl rfl rfl hc2647) rfl ?_
                        refine JL.skip (.bool rfl rfl rfl hc2647) rfl ?_
                        refine JL.skip (.bool rfl rfl rfl hc2647) rfl ?_
                        refine JL.skip (.bool rfl rfl rfl hc2647) rfl ?_
                        refine JL.pick_t (b := (((y2636.2 != 0) || (y2639.2 != 0)) || ((y2636.1.length : Int) != (y2639.1.length : Int)))) rfl hc2647 .none rfl ?_
                        exact hJ2646 _ ⟨rfl, rfl, rfl, rfl, rfl, or_t hc2647 rfl⟩
                       ·skip
                        refine JL.move (.some rfl rfl rfl hc2647) rfl ?_
                        refine JL.lenSL (R := R_Span) ul_24 (SL.mono R_Span_mono hs2640 hy2636a_0) (.some rfl rfl rfl hc2647) rfl ?_
                        refine JL.fieldAddr fo_90_0 rfl (.some rfl rfl rfl hc2647) rfl ?_
                        refine JL.fieldAddr fo_76_1 rfl (.some rfl rfl rfl hc2647) rfl ?_
                        refine JL.loadOwn 2 az_24 rfl rfl rfl (.some rfl rfl rfl hc2647) rfl ?_
                        refine JL.lenSL (R := R_Span) ul_24 (SL.mono R_Span_mono (HSub.trans hs16 (HSub.trans hs38 (HSub.trans hs40 (HSub.trans hs42 (HSub.trans hs44 (HSub.trans hs46 (HSub.trans hs2577 (HSub.trans hs2637 hs2640)))))))) hr_7) (.some rfl rfl rfl hc2647) rfl ?_
                        refine JL.bin rfl rfl rfl (.some rfl rfl rfl hc2647) rfl ?_
                        refine JL.pick_f (b := (((y2636.2 != 0) || (y2639.2 != 0)) || ((y2636.1.length : Int) != (y2639.1.length : Int)))) rfl hc2647 .none rfl ?_
                        exact hJ2646 _ ⟨rfl, rfl, rfl, rfl, rfl, or_f hc2647 rfl⟩
                      ·rintro f ⟨hf2, hf5, hf18, hf20, hf22, hf276⟩
                       refine (JL.norm (i := 2) hf2 (JL.norm (i := 5) hf5 (JL.norm (i := 18) hf18 (JL.norm (i := 20) hf20 (JL.norm (i := 22) hf22 (JL.norm (i := 276) hf276 ?_))))))
                       refine JL.done hQ (JQ.go ?_)
                       rcases ite_some hF with ⟨hc2648, hF⟩ | ⟨hc2648, hF⟩
                       ·refine JC.cond_t (b := ((((y2636.2 != 0) || (y2639.2 != 0)) || ((y2636.1.length : Int) != (y2639.1.length : Int))) || ((y2636.1.length : Int) != (r.Canopy.Ribs.length : Int)))) rfl hc2648 ?_
                        refine JC.seq (JC.region (by rfl) ?_)
                        intro hQ
                        refine JL.assign .none rfl ?_
                        refine JL.done hQ (JQ.go (JC.ret (JQ.ret_then (JQ.ret_block (JQ.ret_then (JQ.ret_then (JQ.ret_block (JQ.ret_join (JQ.ret_then ?_)))))))))
                        obtain rfl := Option.some.inj hF
                        have ehr2578 := hr2578 _ rfl
                        subst ehr2578
                        have hF := hKr1581
                        try dsimp only at hF
                        obtain rfl := Option.some.inj hF
                        exact JQ.outS rfl (.tmp .nil) rfl
                       ·refine JC.cond_f (b := ((((y2636.2 != 0) || (y2639.2 != 0)) || ((y2636.1.length : Int) != (y2639.1.length : Int))) || ((y2636.1.length : Int) != (r.Canopy.Ribs.length : Int)))) rfl hc2648 ?_
                        refine JC.skip (JQ.go (JC.seq (JC.region (by rfl) ?_)))
                        intro hQ
                        refine JL.assign .none rfl ?_
                        refine JL.done hQ (JQ.go ?_)
                        obtain ⟨r2862, hlr2862, hKr2862⟩ := bind_some hF
                        refine JC.join (fun (_ : Unit) H2861 f bs gs => f 2 = .pointer (some ⟨b1, 0, none⟩) ∧ f 5 = .pointer (some ⟨b23, 0, none⟩) ∧ f 18 = .int .i64 n_2576 ∧ bs = [(b23, .cells [y15_v0, .int .i64 y15.Canopy.Frame.Low, .int .i64 y15.Canopy.Frame.High, .int .i64 y15.Canopy.Frame.Ease.Num, .int .i64 y15.Canopy.Frame.Ease.Den, .int .i64 y15.Canopy.Frame.Rod, .int .i64 y15.Canopy.Frame.Case, y15_v1, y15_v2, y15_v3, y15_v4, .int .i64 y15.Wrong].toArray 90), (b1, .cells [r_v0, .int .i64 r.Canopy.Frame.Low, .int .i64 r.Canopy.Frame.High, .int .i64 r.Canopy.Frame.Ease.Num, .int .i64 r.Canopy.Frame.Ease.Den, .int .i64 r.Canopy.Frame.Rod, .int .i64 r.Canopy.Frame.Case, r_v7, r_v8, r_v9, r_v10, .int .i64 r.Wrong].toArray 90)] ∧ gs = [] ∧ HSub H2640 H2861 ∧ Sum.inr () = r2862) ?_ ?_
                        ·skip
                         refine JC.block (JC.mask [false, true, true] [] ?_)
                         refine JC.loop hlr2862 (fun (m_3003 : Int) H3004 f bs gs => f 2 = .pointer (some ⟨b1, 0, none⟩) ∧ f 5 = .pointer (some ⟨b23, 0, none⟩) ∧ f 18 = .int .i64 n_2576 ∧ f 20 = y2636a_v0 ∧ f 22 = y2639a_v0 ∧ f 24 = .int .i64 m_3003 ∧ bs = [(b23, .cells [y15_v0, .int .i64 y15.Canopy.Frame.Low, .int .i64 y15.Canopy.Frame.High, .int .i64 y15.Canopy.Frame.Ease.Num, .int .i64 y15.Canopy.Frame.Ease.Den, .int .i64 y15.Canopy.Frame.Rod, .int .i64 y15.Canopy.Frame.Case, y15_v1, y15_v2, y15_v3, y15_v4, .int .i64 y15.Wrong].toArray 90), (b1, .cells [r_v0, .int .i64 r.Canopy.Frame.Low, .int .i64 r.Canopy.Frame.High, .int .i64 r.Canopy.Frame.Ease.Num, .int .i64 r.Canopy.Frame.Ease.Den, .int .i64 r.Canopy.Frame.Rod, .int .i64 r.Canopy.Frame.Case, r_v7, r_v8, r_v9, r_v10, .int .i64 r.Wrong].toArray 90)] ∧ gs = [] ∧ HSub H2640 H3004) ⟨rfl, rfl, rfl, rfl, rfl, rfl, rfl, rfl, (HSub.refl _)⟩ ?_
                         rintro m_3003 x3006 H3004 f bs gs ⟨hf2, hf5, hf18, hf20, hf22, hf24, rfl, rfl, hs3004⟩ hF hr3005
                         rw [F_top_TopFiner_s2] at hF
                         refine (JC.norm (i := 2) hf2 (JC.norm (i := 5) hf5 (JC.norm (i := 18) hf18 (JC.norm (i := 20) hf20 (JC.norm (i := 22) hf22 (JC.norm (i := 24) hf24 ?_))))))
                         refine JC.seq (JC.seq (JC.region (by rfl) ?_))
                         intro hQ
                         refine JL.move .none rfl ?_
                         refine JL.move .none rfl ?_
                         refine JL.lenSL (R := R_Span) ul_24 (SL.mono R_Span_mono (HSub.trans hs2640 hs3004) hy2636a_0) .none rfl ?_
                         refine JL.bin rfl rfl rfl .none rfl ?_
                         refine JL.done hQ (JQ.go ?_)
                         rcases ite_some hF with ⟨hc3007, hF⟩ | ⟨hc3007, hF⟩
                         ·refine JC.cond_t (b := decide (m_3003 < (y2636.1.length : Int))) rfl hc3007 ?_
                          refine JC.skip (JQ.go (JC.seq (JC.block (JC.seq (JC.draw (by rfl) mo_ (by kernel_rfl) ?_)))))
                          intro hQ
                          refine JL.move .none rfl ?_
                          refine JL.move .none rfl ?_
                          obtain ⟨y3041, hy3041, hF⟩ := bind_some hF
                          refine JL.indexSL (R := R_Span) sl_24 (SL.mono R_Span_mono hs3004 hy2639a_0) rfl hy3041 .none rfl ?_
                          rintro b3042 o3043 cs3044 hc3045 - rfl
                          refine JL.fieldAddr fo_39_0 rfl .none rfl ?_
                          refine JL.loadH 0 az_3 rfl hc3045 rfl .none rfl ?_
                          refine JL.move .none rfl ?_
                          refine JL.move .none rfl ?_
                          obtain ⟨y3046, hy3046, hF⟩ := bind_some hF
                          refine JL.indexSL (R := R_Span) sl_24 (SL.mono R_Span_mono (HSub.trans hs2640 hs3004) hy2636a_0) rfl hy3046 .none rfl ?_
                          rintro b3047 o3048 cs3049 hc3050 - rfl
                          refine JL.fieldAddr fo_39_0 rfl .none rfl ?_
                          refine JL.loadH 0 az_3 rfl hc3050 rfl .none rfl ?_
                          refine JL.bin rfl rfl rfl .none rfl ?_
                          refine JL.move .none rfl ?_
                          obtain ⟨p3061, hp3061, hF⟩ := bind_some hF
                          refine JL.cut 12 (fun f => f 2 = .pointer (some ⟨b1, 0, none⟩) ∧ f 5 = .pointer (some ⟨b23, 0, none⟩) ∧ f 18 = .int .i64 n_2576 ∧ f 20 = y2636a_v0 ∧ f 22 = y2639a_v0 ∧ f 24 = .int .i64 m_3003 ∧ f 306 = .bool p3061) ?_ ?_
                          ·intro hJ3062
                           rcases ite_some hp3061 with ⟨hc3063, hF⟩ | ⟨hc3063, hF⟩
                           ·skip
                            refine JL.skip (.bool rfl rfl rfl hc3063) rfl ?_
                            refine JL.skip (.bool rfl rfl rfl hc3063) rfl ?_
                            refine JL.skip (.bool rfl rfl rfl hc3063) rfl ?_
                            refine JL.skip (.bool rfl rfl rfl hc3063) rfl ?_
                            refine JL.skip (.bool rfl rfl rfl hc3063) rfl ?_
                            refine JL.skip (.bool rfl rfl rfl hc3063) rfl ?_
                            refine JL.skip (.bool rfl rfl rfl hc3063) rfl ?_
                            refine JL.skip (.bool rfl rfl rfl hc3063) rfl ?_
                            refine JL.skip (.bool rfl rfl rfl hc3063) rfl ?_
                            refine JL.skip (.bool rfl rfl rfl hc3063) rfl ?_
                            refine JL.skip (.bool rfl rfl rfl hc3063) rfl ?_
                            refine JL.pick_t (b := decide (y3041.Low < y3046.Low)) rfl hc3063 .none rfl ?_
                            obtain rfl := Option.some.inj hF
                            exact hJ3062 _ ⟨rfl, rfl, rfl, rfl, rfl, rfl, rfl⟩
                           ·skip
                            refine JL.move (.some rfl rfl rfl hc3063) rfl ?_
                            refine JL.move (.some rfl rfl rfl hc3063) rfl ?_
                            obtain ⟨y3064, hy3064, hF⟩ := bind_some hF
                            refine JL.indexSL (R := R_Span) sl_24 (SL.mono R_Span_mono hs3004 hy2639a_0) rfl hy3064 (.some rfl rfl rfl hc3063) rfl ?_
                            rintro b3065 o3066 cs3067 hc3068 - rfl
                            refine JL.fieldAddr fo_39_1 rfl (.some rfl rfl rfl hc3063) rfl ?_
                            refine JL.loadH 1 az_3 rfl hc3068 rfl (.some rfl rfl rfl hc3063) rfl ?_
                            refine JL.move (.some rfl rfl rfl hc3063) rfl ?_
                            refine JL.move (.some rfl rfl rfl hc3063) rfl ?_
                            obtain ⟨y3069, hy3069, hF⟩ := bind_some hF
                            refine JL.indexSL (R := R_Span) sl_24 (SL.mono R_Span_mono (HSub.trans hs2640 hs3004) hy2636a_0) rfl hy3069 (.some rfl rfl rfl hc3063) rfl ?_
                            rintro b3070 o3071 cs3072 hc3073 - rfl
                            refine JL.fieldAddr fo_39_1 rfl (.some rfl rfl rfl hc3063) rfl ?_
                            refine JL.loadH 1 az_3 rfl hc3073 rfl (.some rfl rfl rfl hc3063) rfl ?_
                            refine JL.bin rfl rfl rfl (.some rfl rfl rfl hc3063) rfl ?_
                            refine JL.pick_f (b := decide (y3041.Low < y3046.Low)) rfl hc3063 .none rfl ?_
                            obtain rfl := Option.some.inj hF
                            exact hJ3062 _ ⟨rfl, rfl, rfl, rfl, rfl, rfl, rfl⟩
                          ·rintro f ⟨hf2, hf5, hf18, hf20, hf22, hf24, hf306⟩
                           refine (JL.norm (i := 2) hf2 (JL.norm (i := 5) hf5 (JL.norm (i := 18) hf18 (JL.norm (i := 20) hf20 (JL.norm (i := 22) hf22 (JL.norm (i := 24) hf24 (JL.norm (i := 306) hf306 ?_)))))))
                           refine JL.doneQ hQ ?_
                           refine JQ.go ?_
                           rcases ite_some hF with ⟨hc3074, hF⟩ | ⟨hc3074, hF⟩
                           ·refine JC.cond_t (b := p3061) rfl hc3074 ?_
                            refine JC.seq (JC.region (by rfl) ?_)
                            intro hQ
                            refine JL.assign .none rfl ?_
                            refine JL.done hQ (JQ.go (JC.ret (JQ.ret_block (JQ.ret_then (JQ.ret_then (JQ.ret_block (JQ.ret_join (JQ.ret_block (JQ.ret_then (JQ.ret_then (JQ.ret_block (JQ.ret_join (JQ.ret_then ?_)))))))))))))
                            obtain rfl := Option.some.inj hF
                            have ehr3005 := hr3005 _ rfl
                            subst ehr3005
                            have hF := hKr2862
                            try dsimp only at hF
                            obtain rfl := Option.some.inj hF
                            have ehr2578 := hr2578 _ rfl
                            subst ehr2578
                            have hF := hKr1581
                            try dsimp only at hF
                            obtain rfl := Option.some.inj hF
                            exact JQ.outS rfl (.tmp .nil) rfl
                           ·refine JC.cond_f (b := p3061) rfl hc3074 ?_
                            refine JC.skip (JQ.normal_block (JQ.go (JC.region (by rfl) ?_)))
                            intro hQ
                            refine JL.move .none rfl ?_
                            refine JL.bin rfl rfl rfl .none rfl ?_
                            refine JL.assign .none rfl ?_
                            refine JL.done hQ ?_
                            obtain rfl := Option.some.inj hF
                            exact JQ.next rfl ⟨rfl, rfl, rfl, rfl, rfl, rfl, rfl, rfl, hs3004⟩
                         ·refine JC.cond_f (b := decide (m_3003 < (y2636.1.length : Int))) rfl hc3007 ?_
                          refine JC.exit (JQ.exit_then (JQ.exit_then (JQ.exit_block ?_)))
                          obtain rfl := Option.some.inj hF
                          have ehr3005 := hr3005 _ rfl
                          subst ehr3005
                          exact JQ.join () ⟨rfl, rfl, rfl, rfl, rfl, hs3004, rfl⟩
                        ·rintro _ H2861 f bs gs ⟨hf2, hf5, hf18, rfl, rfl, hs2861, rfl⟩
                         have hF := hKr2862
                         try dsimp only at hF
                         refine (JQ.norm (i := 2) hf2 (JQ.norm (i := 5) hf5 (JQ.norm (i := 18) hf18 ?_)))
                         refine JQ.normal_block (JQ.go (JC.region (by rfl) ?_))
                         intro hQ
                         refine JL.move .none rfl ?_
                         refine JL.bin rfl rfl rfl .none rfl ?_
                         refine JL.assign .none rfl ?_
                         refine JL.done hQ ?_
                         obtain rfl := Option.some.inj hF
                         exact JQ.next rfl ⟨rfl, rfl, rfl, rfl, rfl, (HSub.trans hs2577 (HSub.trans hs2637 (HSub.trans hs2640 hs2861)))⟩
                   ·refine JC.cond_f (b := decide (n_2576 < (r.Blows.length : Int))) rfl hc2580 ?_
                    refine JC.exit (JQ.exit_then (JQ.exit_then (JQ.exit_block ?_)))
                    obtain rfl := Option.some.inj hF
                    have ehr2578 := hr2578 _ rfl
                    subst ehr2578
                    refine JQ.mask [false, false] [] ?_
                    exact JQ.join () ⟨rfl, rfl, hs2577, rfl⟩
                  ·rintro _ H1580 f bs gs ⟨rfl, rfl, hs1580, rfl⟩
                   have hF := hKr1581
                   try dsimp only at hF
                   refine JQ.go (JC.seq (JC.region (by rfl) ?_))
                   intro hQ
                   obtain ⟨y3075, hy3075, hF⟩ := bind_some hF
                   refine JL.callS (c_top_tested n H1580 y3075 hy3075) rfl en_42 .none rfl ?_
                   refine JL.assign .none rfl ?_
                   refine JL.done hQ (JQ.go (JC.ret ?_))
                   obtain rfl := Option.some.inj hF
                   exact JQ.outS rfl (.tmp .nil) rfl
end Go.Proofs.Yteihdclpiekmaaa
end
section
namespace Go.Proofs.Yteihdclpiekmaaa
open Go Go.RowKit Go.Dec
theorem p_CheckShow3 {n : Nat} (hn : 200000000 ≤ n) {r : Run} (hs : SmallR r) : F_ref13_CheckShow n r = some (errR r true) := by
  simp only [F_ref13_CheckShow, p_known hn hs, Option.bind_some, knownT]
  split
  · rename_i h; simp [h]
  · rfl
/-- a dome whose lift is known better -/
structure FinerD (d o : Canopy) : Prop where
  r : o.Ribs = d.Ribs
  s : o.Shares = d.Shares
  l : (liftS d).Low ≤ (liftS o).Low
  h : (liftS o).High ≤ (liftS d).High
theorem finer_load {d o : Canopy} (hd : DOk d) (ho : DOk o) (h : FinerD d o) {g : Gust} (hg : GOk d.Ribs.length g) (j : Nat) : ldB d g j ≤ ldB o g j ∧ ldW o g j ≤ ldW d g j := by
  have h1 := lift_in hd
  have h2 := lift_in ho
  have e1 := h.l
  have e2 := h.h
  unfold ldB ldW
  rw [h.s]
  exact ⟨(load_mono h1.1 e1 hd.sh rfl hg.f.1 (Int.le_refl _) (sh_pos hd) j).2, (load_mono (by omega) e2 hd.sh rfl hg.f.1 (Int.le_refl _) (sh_pos hd) j).2⟩
theorem finer_stands {d o : Canopy} (hd : DOk d) (ho : DOk o) (h : FinerD d o) {g : Gust} (hg : GOk d.Ribs.length g) : (standsI d [g] = 1 → standsI o [g] = 1) ∧ (standsI d [g] = 2 → standsI o [g] = 2) := by
  have hr := hd.r
  have h1 := lift_in hd
  have h2 := lift_in ho
  have e1 := h.l
  have e2 := h.h
  have eB : stB o = stB d := by unfold stB; rw [h.r]
  have eW : stW o = stW d := by unfold stW; rw [h.r]
  have first : ∀ j, j < d.Ribs.length → firstP o g j = true → firstP d g j = true := fun j hj hp => by
    unfold firstP at hp ⊢
    rw [h.r, eW] at hp
    exact G_mono (by omega) (fun i _ => by unfold ldW; rw [h.s]; exact load_mono (by omega) e2 hd.sh rfl hg.f.1 (Int.le_refl _) (sh_pos hd) i) (fun i _ => Int.le_refl _) 1 j hj hp
  have firstb : ∀ j, j < d.Ribs.length → firstB d g j = true → firstB o g j = true := fun j hj hp => by
    unfold firstB at hp ⊢
    rw [h.r, eB]
    exact G_mono (by omega) (fun i _ => by unfold ldB; rw [h.s]; exact load_mono h1.1 e1 hd.sh rfl hg.f.1 (Int.le_refl _) (sh_pos hd) i) (fun i _ => Int.le_refl _) 1 j hj hp
  constructor
  · intro hc
    rw [stands_one] at hc ⊢
    intro z hz
    rw [List.mem_singleton.1 hz, h.r]
    exact noneP_mono first (hc g (by simp))
  · intro hc
    rw [stands_two hd (fun z hz => by rw [List.mem_singleton.1 hz]; exact hg.f.1)] at hc
    rw [stands_two ho (fun z hz => by rw [List.mem_singleton.1 hz]; exact hg.f.1)]
    intro hall
    refine hc fun z hz => ?_
    have := hall g (by simp)
    rw [h.r] at this
    rw [List.mem_singleton.1 hz]
    exact noneP_mono firstb this
theorem low_dist (f : Frame) : dist f 0 f.Low = f.Low := by
  have : (f.Sections.take (0 + 1)).drop 1 = [] := by cases f.Sections <;> simp
  unfold dist; rw [this]; rfl
theorem cos_low {f : Frame} (hf : FOk f) : cosineT f 0 f.Low = (red (lowF f.Low (sidesL (secAt f 0))), red (highF f.Low (sidesL (secAt f 0))), 0) := by
  have hl := hf.r
  have ha : askT f 0 f.Low = 0 := ask_zero (okF_iff.2 hf) (by
    have := hf.n
    simp only [Bool.and_eq_true, wi_t]; omega)
  unfold cosineT
  rw [if_pos ha, show (0 : Int).toNat = 0 from rfl, low_dist, if_neg (by omega)]
theorem law_TopFiner (r : Run) (x : top_Finer) (_ : W_Run r) (_ : W_top_Finer x) : ∃ n, F_top_TopFiner n r x = some true := by
  have hn2 : 200000000 ≤ 200000000 := Nat.le_refl _
  have hn : 100000000 ≤ 200000000 := by omega
  refine ⟨200000000, ?_⟩
  have hw := tested_any hn
  simp only [F_top_TopFiner]
  rcases p_isRun hn r with h | ⟨h, hr⟩
  · simp [h, hw]
  · have hs := hr.small
    have hnb := hr.nb
    have hd := hr.d
    have hdr := hd.r
    have hf := hd.f
    have hfn := hf.n
    have hfr := hf.r
    simp only [h, Option.bind_some, Bool.not_true, Bool.false_eq_true, if_false, p_CheckShow3 hn2 hs]
    rcases errR_three hr with e | e
    · simp only [e, bne_self_eq_false, Bool.false_or]
      split
      · rw [hw]; rfl
      · rename_i hC
        simp only [Bool.or_eq_true, decide_eq_true_eq, not_or] at hC
        obtain ⟨c1, c2⟩ := hC
        have hs0 := sec0 hd
        have ha := hs0.a; have hb := hs0.b
        have hg0 : geti r.Canopy.Frame.Sections 0 = some (secAt r.Canopy.Frame 0) := by
          have := geti_nat r.Canopy.Frame.Sections 0
          rw [show ((0 : Nat) : Int) = 0 from rfl] at this
          rw [this]; exact secAt_get (by omega)
        simp only [p_Copy13 hn hs, Option.bind_some, hg0]
        rw [w64_id (n := (secAt r.Canopy.Frame 0).Arm.Low + x.ArmLow) (by omega) (by omega), w64_id (n := (secAt r.Canopy.Frame 0).Arm.High - x.ArmHigh) (by omega) (by omega), w64_id (n := (secAt r.Canopy.Frame 0).Stretch.Low + x.RodLow) (by omega) (by omega), w64_id (n := (secAt r.Canopy.Frame 0).Stretch.High - x.RodHigh) (by omega) (by omega)]
        generalize hS : Section.mk (Span.mk ((secAt r.Canopy.Frame 0).Arm.Low + x.ArmLow) ((secAt r.Canopy.Frame 0).Arm.High - x.ArmHigh)) (Span.mk ((secAt r.Canopy.Frame 0).Stretch.Low + x.RodLow) ((secAt r.Canopy.Frame 0).Stretch.High - x.RodHigh)) (secAt r.Canopy.Frame 0).Base (secAt r.Canopy.Frame 0).Gear = S
        have hsub : ∀ y ∈ sidesL S, y ∈ sidesL (secAt r.Canopy.Frame 0) := fun y hy => by
          have := sides_mem.1 hy
          rw [← hS] at this
          simp only at this
          exact sides_mem.2 (by omega)
        generalize hFo : Frame.mk (setx r.Canopy.Frame.Sections 0 S) r.Canopy.Frame.Low r.Canopy.Frame.High r.Canopy.Frame.Ease r.Canopy.Frame.Rod r.Canopy.Frame.Case = fo
        have fsec : secAt fo 0 = S := by
          rw [← hFo]
          unfold secAt setx
          simp only
          rw [show (0 : Int).toNat = 0 from rfl, List.getElem?_set, if_pos rfl, if_pos (by omega)]; rfl
        have flow : fo.Low = r.Canopy.Frame.Low := by rw [← hFo]
        generalize hO : Run.mk (Canopy.mk fo r.Canopy.Ribs r.Canopy.Shares) r.Blows r.Meters r.Wrong = o
        rcases p_isRun hn o with h' | ⟨h', ho⟩
        · simp [h', hw]
        · have hos := ho.small
          have hod := ho.d
          have oc : o.Canopy = ⟨fo, r.Canopy.Ribs, r.Canopy.Shares⟩ := by rw [← hO]
          have hob : o.Blows = r.Blows := by rw [← hO]
          have ht : truthsC o = truthsC r := by rw [← hO]; rfl
          rw [oc] at hod
          have hfo := hod.f
          simp only at hfo
          have eo : errR o true = 0 := by rw [errR_true ho, ht, ← errR_true hr]; exact e
          have hso0 : SecOk S := by have := sec0 hod; simp only at this; rw [fsec] at this; exact this
          -- the cosines
          have hd1 : 1 ≤ r.Canopy.Frame.Low ∧ r.Canopy.Frame.Low ≤ 6000 := by omega
          have k1 := cos_low hf
          have k2 := cos_low hfo
          rw [flow, fsec] at k2
          have x1 : ∀ y ∈ sidesL (secAt r.Canopy.Frame 0), XOk y := fun y hy => sides_ok hs0 hy
          have x2 : ∀ y ∈ sidesL S, XOk y := fun y hy => sides_ok hso0 hy
          obtain ⟨⟨_, l1⟩, ⟨_, l2⟩⟩ := low_spec hd1 _ x1 (sides_ne hs0)
          obtain ⟨⟨⟨z1, hz1, m1⟩, _⟩, ⟨⟨z2, hz2, m2⟩, _⟩⟩ := low_spec hd1 _ x2 (sides_ne hso0)
          have o1 := low_ok hd1 _ x1 (sides_ne hs0)
          have o2 := low_ok hd1 _ x2 (sides_ne hso0)
          have s1 := l1 z1 (hsub _ hz1)
          have s2 := l2 z2 (hsub _ hz2)
          rw [← m1] at s1
          rw [← m2] at s2
          have t1 := p_Less 200000000 (frac_b (red_ok o2.1)) (frac_b (red_ok o1.1))
          have t2 := p_Less 200000000 (frac_b (red_ok o1.2)) (frac_b (red_ok o2.2))
          rw [ltF_red o2.1.1.1 o1.1.1.1, s1] at t1
          rw [ltF_red o1.2.1.1 o2.2.1.1, s2] at t2
          have r1 := red_ok o1.1
          have r2 := red_ok o1.2
          have r3 := red_ok o2.1
          have r4 := red_ok o2.2
          -- the lift
          have fin : FinerD r.Canopy ⟨fo, r.Canopy.Ribs, r.Canopy.Shares⟩ := by
            obtain ⟨b1, _, _⟩ := lift_spec hd
            obtain ⟨_, ⟨u, hu, eu⟩, ⟨v, hv, ev⟩⟩ := lift_spec hod
            simp only [fsec] at hu hv
            have q1 := b1 u (hsub u hu)
            have q2 := b1 v (hsub v hv)
            have a1 : liftAt ⟨fo, r.Canopy.Ribs, r.Canopy.Shares⟩ u = liftAt r.Canopy u := by unfold liftAt; rw [flow]
            have a2 : liftAt ⟨fo, r.Canopy.Ribs, r.Canopy.Shares⟩ v = liftAt r.Canopy v := by unfold liftAt; rw [flow]
            exact ⟨rfl, rfl, by rw [← eu, a1]; exact q1.1, by rw [← ev, a2]; exact q2.2⟩
          obtain ⟨_, _, _, _, u4, u5⟩ := harm_spec e
          obtain ⟨_, _, _, _, v4, v5⟩ := harm_spec eo
          have hfell : ∀ c ∈ truthsC r, ∀ p ∈ r.Blows.zip c, (fellA r.Canopy true p.1 p.2 = true → fellA o.Canopy true p.1 p.2 = true) ∧ (fellA o.Canopy false p.1 p.2 = true → fellA r.Canopy false p.1 p.2 = true) := fun c hc p hp => by
            have hz := zip_case (truth_case hc) hp
            have hg := stands_at hd (hr.b _ hz.1) hz.2.1 hz.2.2
            have hh := finer_stands hd hod fin hg
            rw [oc]
            exact ⟨fun q => fell_t.2 (hh.2 (fell_t.1 q)), fun q => fell_f.2 fun q1 => fell_f.1 q (hh.1 q1)⟩
          have w1 : (harmT r).1.Low ≤ (harmT o).1.Low := by
            rw [u4, v4, hob, ht]
            exact fmin_le_of (fun c hc => ⟨c, hc, Int.ofNat_le.2 (askN_mono fun p hp q => (hfell c hc p hp).1 q)⟩) _
          have w2 : (harmT o).1.High ≤ (harmT r).1.High := by
            rw [u5, v5, hob, ht]
            exact fmax_le_of (fun c hc => ⟨c, hc, Int.ofNat_le.2 (askN_mono fun p hp q => (hfell c hc p hp).2 q)⟩) _
          simp only [h', Option.bind_some, Bool.not_true, Bool.false_eq_true, if_false, p_Cosine hn (f := r.Canopy.Frame) (by omega), p_Cosine hn (f := fo) (by have := hfo.n; omega), k1, k2, p_Harm hn hs, p_Harm hn hos, harm_err, e, eo]
          rw [← flow] at k2
          rw [flow] at k2
          have g1 : ((((((((((0 : Int) != 0) || ((0 : Int) != 0)) || ((0 : Int) != 0)) || ((0 : Int) != 0)) || (decide ((min (min (min (red (lowF r.Canopy.Frame.Low (sidesL (secAt r.Canopy.Frame 0)))).Den (red (highF r.Canopy.Frame.Low (sidesL (secAt r.Canopy.Frame 0)))).Den) (red (lowF r.Canopy.Frame.Low (sidesL S))).Den) (red (highF r.Canopy.Frame.Low (sidesL S))).Den) < 1))) || (decide (1073741824 < (max (max (max (red (lowF r.Canopy.Frame.Low (sidesL (secAt r.Canopy.Frame 0)))).Den (red (highF r.Canopy.Frame.Low (sidesL (secAt r.Canopy.Frame 0)))).Den) (red (lowF r.Canopy.Frame.Low (sidesL S))).Den) (red (highF r.Canopy.Frame.Low (sidesL S))).Den)))) || (decide (1073741824 < (max (max (max (red (lowF r.Canopy.Frame.Low (sidesL (secAt r.Canopy.Frame 0)))).Num (red (highF r.Canopy.Frame.Low (sidesL (secAt r.Canopy.Frame 0)))).Num) (red (lowF r.Canopy.Frame.Low (sidesL S))).Num) (red (highF r.Canopy.Frame.Low (sidesL S))).Num)))) || (decide ((min (min (min (red (lowF r.Canopy.Frame.Low (sidesL (secAt r.Canopy.Frame 0)))).Num (red (highF r.Canopy.Frame.Low (sidesL (secAt r.Canopy.Frame 0)))).Num) (red (lowF r.Canopy.Frame.Low (sidesL S))).Num) (red (highF r.Canopy.Frame.Low (sidesL S))).Num) < (-1073741824))))) = false := by
            obtain ⟨⟨p1, p2⟩, p3, p4⟩ := r1
            obtain ⟨⟨p5, p6⟩, p7, p8⟩ := r2
            obtain ⟨⟨p9, p10⟩, p11, p12⟩ := r3
            obtain ⟨⟨p13, p14⟩, p15, p16⟩ := r4
            rw [decide_eq_false (by omega), decide_eq_false (by omega), decide_eq_false (by omega), decide_eq_false (by omega)]; rfl
          simp only [g1, Bool.false_eq_true, if_false, t1, t2, Option.bind_some]
          rw [decide_eq_false (show ¬ (harmT o).1.Low < (harmT r).1.Low by omega), decide_eq_false (show ¬ (harmT r).1.High < (harmT o).1.High by omega)]
          simp only [Bool.or_self, Bool.false_eq_true, if_false]
          -- the loads
          have hloop : loopO 200000000 (F_top_TopFiner_s1 200000000 r x r (secAt r.Canopy.Frame 0)) 0 = some (.inr ()) := by
            have kk := loop_all_l (step := F_top_TopFiner_s1 200000000 r x r (secAt r.Canopy.Frame 0)) r.Blows (fun _ => true) false (n := 200000000) (by omega) (fun i b hx hi => by
              have hbo := hr.b b (List.mem_of_getElem? hx)
              have hbl := hbo.lo; have hbe := hbo.le; have hbh := hbo.hi
              have hg : GOk r.Canopy.Ribs.length ⟨b.Force.High, b.At⟩ := ⟨by simp only; omega, hbo.at_⟩
              have a1 : askG r.Canopy [⟨b.Force.High, b.At⟩] = 0 := askG_ok.2 ⟨hd, by simp, fun z hz => by rw [List.mem_singleton.1 hz]; exact hg⟩
              have a2 : askG ⟨fo, r.Canopy.Ribs, r.Canopy.Shares⟩ [⟨b.Force.High, b.At⟩] = 0 := askG_ok.2 ⟨hod, by simp, fun z hz => by rw [List.mem_singleton.1 hz]; exact hg⟩
              have q1 : loadsT r.Canopy ⟨b.Force.High, b.At⟩ = ((List.range r.Canopy.Ribs.length).map fun i => ⟨ldB r.Canopy ⟨b.Force.High, b.At⟩ i, ldW r.Canopy ⟨b.Force.High, b.At⟩ i⟩, 0) := by unfold loadsT; rw [if_pos a1]
              have q2 : loadsT ⟨fo, r.Canopy.Ribs, r.Canopy.Shares⟩ ⟨b.Force.High, b.At⟩ = ((List.range r.Canopy.Ribs.length).map fun i => ⟨ldB ⟨fo, r.Canopy.Ribs, r.Canopy.Shares⟩ ⟨b.Force.High, b.At⟩ i, ldW ⟨fo, r.Canopy.Ribs, r.Canopy.Shares⟩ ⟨b.Force.High, b.At⟩ i⟩, 0) := by unfold loadsT; rw [if_pos a2]
              simp only [F_top_TopFiner_s1, lt_nat, hi, decide_true, if_true, geti_nat, hx, Option.bind_some]
              rw [w64_id (n := (secAt r.Canopy.Frame 0).Arm.Low + x.ArmLow) (by omega) (by omega), w64_id (n := (secAt r.Canopy.Frame 0).Arm.High - x.ArmHigh) (by omega) (by omega), w64_id (n := (secAt r.Canopy.Frame 0).Stretch.Low + x.RodLow) (by omega) (by omega), w64_id (n := (secAt r.Canopy.Frame 0).Stretch.High - x.RodHigh) (by omega) (by omega), hS, hFo]
              have hin : loopO 200000000 (F_top_TopFiner_s2 200000000 (loadsT r.Canopy ⟨b.Force.High, b.At⟩) (loadsT ⟨fo, r.Canopy.Ribs, r.Canopy.Shares⟩ ⟨b.Force.High, b.At⟩)) 0 = some (.inr ()) := by
                rw [q1, q2]
                have kk := loop_all (step := F_top_TopFiner_s2 200000000 ((List.range r.Canopy.Ribs.length).map fun i => ⟨ldB r.Canopy ⟨b.Force.High, b.At⟩ i, ldW r.Canopy ⟨b.Force.High, b.At⟩ i⟩, 0) ((List.range r.Canopy.Ribs.length).map fun i => ⟨ldB ⟨fo, r.Canopy.Ribs, r.Canopy.Shares⟩ ⟨b.Force.High, b.At⟩ i, ldW ⟨fo, r.Canopy.Ribs, r.Canopy.Shares⟩ ⟨b.Force.High, b.At⟩ i⟩, 0)) r.Canopy.Ribs.length (fun _ => true) (Sum.inr (Sum.inl false)) (n := 200000000) (by omega) (fun j hj => by
                  have hm := finer_load hd hod fin hg j
                  have g1 : ((List.range r.Canopy.Ribs.length).map fun i => (⟨ldB r.Canopy ⟨b.Force.High, b.At⟩ i, ldW r.Canopy ⟨b.Force.High, b.At⟩ i⟩ : Span))[j]? = some ⟨ldB r.Canopy ⟨b.Force.High, b.At⟩ j, ldW r.Canopy ⟨b.Force.High, b.At⟩ j⟩ := by rw [List.getElem?_map, List.getElem?_range hj]; rfl
                  have g2 : ((List.range r.Canopy.Ribs.length).map fun i => (⟨ldB ⟨fo, r.Canopy.Ribs, r.Canopy.Shares⟩ ⟨b.Force.High, b.At⟩ i, ldW ⟨fo, r.Canopy.Ribs, r.Canopy.Shares⟩ ⟨b.Force.High, b.At⟩ i⟩ : Span))[j]? = some ⟨ldB ⟨fo, r.Canopy.Ribs, r.Canopy.Shares⟩ ⟨b.Force.High, b.At⟩ j, ldW ⟨fo, r.Canopy.Ribs, r.Canopy.Shares⟩ ⟨b.Force.High, b.At⟩ j⟩ := by rw [List.getElem?_map, List.getElem?_range hj]; rfl
                  have d1 : ¬ decide (ldB ⟨fo, r.Canopy.Ribs, r.Canopy.Shares⟩ ⟨b.Force.High, b.At⟩ j < ldB r.Canopy ⟨b.Force.High, b.At⟩ j) = true := by rw [decide_eq_true_eq]; omega
                  have d2 : decide (ldW r.Canopy ⟨b.Force.High, b.At⟩ j < ldW ⟨fo, r.Canopy.Ribs, r.Canopy.Shares⟩ ⟨b.Force.High, b.At⟩ j) = false := decide_eq_false (by omega)
                  simp only [F_top_TopFiner_s2, List.length_map, List.length_range, lt_nat, hj, decide_true, if_true, geti_nat, g1, g2, Option.bind_some, d1, d2, Bool.false_eq_true, if_false, w64_nat (show j ≤ 4611686018427387904 by omega), cond_true]) (by
                  simp [F_top_TopFiner_s2]) (by omega)
                have e1 : ((List.range r.Canopy.Ribs.length).all fun _ => true) = true := by simp
                rw [kk, e1]; rfl
              have c3 : ((((loadsT r.Canopy ⟨b.Force.High, b.At⟩).2 != 0) || ((loadsT ⟨fo, r.Canopy.Ribs, r.Canopy.Shares⟩ ⟨b.Force.High, b.At⟩).2 != 0)) || (((loadsT r.Canopy ⟨b.Force.High, b.At⟩).1.length : Int) != ((loadsT ⟨fo, r.Canopy.Ribs, r.Canopy.Shares⟩ ⟨b.Force.High, b.At⟩).1.length : Int)) || (((loadsT r.Canopy ⟨b.Force.High, b.At⟩).1.length : Int) != (r.Canopy.Ribs.length : Int))) = false := by
                rw [q1, q2]; simp
              simp only [p_Loads hn hs.1, p_Loads hn hod.small, Option.bind_some, c3, Bool.false_eq_true, if_false, hin, w64_nat (show i ≤ 4611686018427387904 by omega), cond_true]) (by
              simp [F_top_TopFiner_s1]) (by omega)
            have e1 : (r.Blows.all fun _ => true) = true := by simp
            rw [kk, e1]; rfl
          simp only [hloop, Option.bind_some, hw]
    · simp [e, hw]
end Go.Proofs.Yteihdclpiekmaaa
end
section
namespace Go.Proofs.Yteihdclpiekmaaa
open Go Go.RowKit Go.Dec Go.ChangeShapes Go.WideShapes Go.ChangeAt
set_option linter.unusedVariables false
theorem cl_laidOut : laidOutB Try.prog = true := by kernel_rfl
theorem cl_own : ownKnob Try.prog.godebug = none := by kernel_rfl
set_option maxRecDepth 100000 in
set_option maxHeartbeats 1000000 in
theorem topFiner_contract (law : ∀ (x0 : Run) (x1 : top_Finer), W_Run x0 → W_top_Finer x1 → ∃ n, F_top_TopFiner n x0 x1 = some true)
    (T : Type) (enc : TypeId × Value → T) (W : World) (base : Nat) (args : Array Value) (ds gs : List (DataW T)) (before : List MemPlace)
    (hval : ∀ (j : Nat) t v, Try.f6.params[j]? = some t → args[j]? = some v → Value.okWide Try.prog W .any base t v)
    (hW : DataW.Whole enc Try.prog Try.f6.params.toList Rows.topFinerSpec.vars false W args.toList ds gs before) :
    Calls Try.prog 6 args W fun e W' => ∃ v, e = .returned v ∧ Rows.topFinerSpec.post enc Try.prog Try.f6 false true false false W args v W' := by
  have hW' := hW
  obtain ⟨p, q, hA0, hV, rfl, hfz, hnd⟩ := hW
  have hA : DataW.TrodAll enc Try.prog W 0 (fun _ => true) true Try.f6.params.toList args.toList ds p := hA0
  rw [Try.params6] at hA hval
  obtain ⟨v0, vs0, d0, ds0, p0, q0, hargs, rfl, rfl, h0, r0⟩ := trodAll_cons hA
  obtain ⟨v1, vs1, d1, ds1, p1, q1, rfl, rfl, rfl, h1, r1⟩ := trodAll_cons r0
  obtain ⟨rfl, rfl, rfl⟩ := trodAll_nil r1
  obtain rfl : args = #[v0, v1] := by rw [← Array.toArray_toList (xs := args), hargs]
  obtain ⟨rfl, rfl⟩ := trodVars_none hV
  obtain ⟨cs0, rfl, hs0⟩ := okWide_struct Try.underlying90 (hval 0 90 v0 rfl rfl)
  obtain ⟨cs1, rfl, hs1⟩ := okWide_struct Try.underlying92 (hval 1 92 v1 rfl rfl)
  have k0 := h0
  obtain ⟨f0, e0⟩ := h0
  have k1 := h1
  obtain ⟨f1, e1⟩ := h1
  obtain ⟨_, x0, r0, w0⟩ := o_Run _ _ _ _ _ _ _ e0
  obtain ⟨_, x1, r1, w1⟩ := o_top_Finer _ _ _ _ _ _ _ e1
  obtain ⟨n, hn⟩ := law x0 x1 w0 w1
  obtain ⟨u0_0, u0_1, u0_2, u0_3, u0_4, q0, s0_0, s0_1, s0_2, s0_3, s0_4⟩ := r0
  have q0 : cs0.toList = _ := q0
  obtain rfl : cs0 = _ := by rw [← Array.toArray_toList (xs := cs0), q0]
  have q1 : cs1.toList = _ := r1
  obtain rfl : cs1 = _ := by rw [← Array.toArray_toList (xs := cs1), q1]
  have hlt : ∀ x ∈ p0 ++ (p1 ++ []), x.block < W.heap.size := fun x hx => hW'.lt x (by simpa using hx)
  refine ((c_top_TopFiner n (hw W) x0 u0_0 s0_0 u0_1 s0_1 u0_2 s0_2 u0_3 s0_3 u0_4 s0_4 x1 true hn) W (hw_le W)).mono fun e W' ⟨he, hb0⟩ => ?_
  have hb := hb0.plain rfl
  subst he
  refine ⟨_, rfl, _, _, _, [], p0 ++ (p1 ++ []), [], hW', trodAll_cons_mk (shut_bool Try.underlying4 _) trodAll_mk0, ?_, rfl, hb.frame _, fun h => by cases h⟩
  exact trodAll_cons_mk (Below.trod cl_laidOut (by kernel_rfl) (of_decide_eq_true (by kernel_rfl)) k0 hb (fun x hx => hlt x (List.mem_append_left _ hx))) (trodAll_cons_mk (Below.trod cl_laidOut (by kernel_rfl) (of_decide_eq_true (by kernel_rfl)) k1 hb (fun x hx => hlt x (List.mem_append_right _ (List.mem_append_left _ hx)))) trodAll_mk0)
set_option maxRecDepth 100000 in
theorem topFiner_lifted (law : ∀ (x0 : Run) (x1 : top_Finer), W_Run x0 → W_top_Finer x1 → ∃ n, F_top_TopFiner n x0 x1 = some true)
    (os : Os) (started : os.Started) (H : Type) (enc : TypeId × Value → H) :
    ReturnsInHanded {} Try.checked os 6 .any (Rows.topFinerSpec.pre6 enc Try.prog Try.f6 Rows.topFinerRow.domain false) (Rows.topFinerSpec.post enc Try.prog Try.f6 false true false false) := by
  refine returnsInHanded_of_change (C := Try.checked) cl_own started (by kernel_rfl) Try.func6
    (ChangeSpec.witness6 (enc := enc) (C := Try.checked) false ⟨#[], #[.agg #[.slice none 0 0, .int .i64 0, .int .i64 0, .int .i64 0, .int .i64 0, .int .i64 0, .int .i64 0, .slice none 0 0, .slice none 0 0, .slice none 0 0, .slice none 0 0, .int .i64 0], .agg #[.int .i64 0, .int .i64 0, .int .i64 0, .int .i64 0]], []⟩ 8 (by kernel_rfl) (by kernel_rfl) (by kernel_rfl) (by kernel_rfl)) ?_
  intro W base args ds gs before hval hW _ _
  exact topFiner_contract law H enc W base args ds gs before hval hW
theorem topFiner_holds (law : ∀ (x0 : Run) (x1 : top_Finer), W_Run x0 → W_top_Finer x1 → ∃ n, F_top_TopFiner n x0 x1 = some true) : Rows.TopFinerSaid :=
  OpenClaim.holds_of_wide 6 Try.f6 rfl rfl rfl rfl rfl rfl rfl ⟨rfl, rfl, rfl, rfl, rfl⟩ rfl rfl rfl rfl rfl (by kernel_rfl) Try.func6 (by kernel_rfl)
    (of_decide_eq_true (by kernel_rfl)) (by unfold Func.isWrapper; first | (rw [if_pos (by decide +kernel)]; kernel_rfl) | (rw [if_neg (by decide +kernel)]; exact ⟨rfl, rfl⟩))
    (fun os started H enc _ => topFiner_lifted law os started H enc)
theorem topFiner_proved : Rows.TopFinerSaid := topFiner_holds law_TopFiner
end Go.Proofs.Yteihdclpiekmaaa
end
