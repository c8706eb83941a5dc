/-
  A part of the proof of CDome: the texts GenK13, GenK14, EngP, EngQ, EngR.
-/
import Derived.Test.YtcipdblhopffbaaJCDome9
section
namespace Go.Proofs.Ytcipdblhopffbaa
open Go Go.RowKit Go.Dec
set_option linter.unusedVariables false
-- 11 ferrule/ferrulelaw13.inside
noncomputable def F_law13_inside_s1 (n : Nat) (y5 : (List Int) × Int) (y8 : (List Int) × Int) : Int → Option (Int ⊕ (Bool ⊕ Unit))
 | x_99 => if decide (x_99 < (y5.1.length : Int)) = true then ((geti y5.1 x_99).bind fun y104 => (F_law13_has n y8.1 y104).bind fun y109 => if (!y109) = true then (some (Sum.inr (Sum.inl false))) else (some (Sum.inl (w64 (x_99 + 1))))) else (some (Sum.inr (Sum.inr ())))
noncomputable def F_law13_inside (n : Nat) (a : Run) (b : Run) (blow : Int) : Option Bool :=
 (F_counts_Many n a).bind fun y3 => (F_counts_Many n b).bind fun y4 => (F_counts_Forces n a blow).bind fun y5 => (F_counts_Forces n b blow).bind fun y8 => (F_counts_Harm n a).bind fun y11 => (F_counts_Harm n b).bind fun y13 => if (((((((((y3.2 != y5.2) || (y3.2 != y11.2)) || (y4.2 != y8.2)) || (y4.2 != y13.2)) || ((y3.2 != 0) && (y3.2 != 3))) || ((y4.2 != 0) && (y4.2 != 3))) || ((y3.2 == 0) && (y4.2 != 0))) || (decide ((y8.1.length : Int) < (y5.1.length : Int)))) || (decide (y4.1 < y3.1))) = true then (some false) else (if (y3.2 != 0) = true then (some true) else ((loopO n (F_law13_inside_s1 n y5 y8) 0).bind fun r78 => match r78 with | .inl o => some o | .inr _ => some (((decide (1 ≤ y3.1)) && (decide (y13.1.Low ≤ y11.1.Low))) && (decide (y11.1.High ≤ y13.1.High)))))
set_option maxRecDepth 100000 in
set_option maxHeartbeats 40000000 in
theorem c_law13_inside (n : Nat) (H : Hp) (a : Run) (a_v0 : Value) (ha_0 : SL H 7 R_Section a_v0 a.Canopy.Frame.Sections) (a_v7 : Value) (ha_7 : SL H 2 R_Span a_v7 a.Canopy.Ribs) (a_v8 : Value) (ha_8 : SL H 1 RInt a_v8 a.Canopy.Shares) (a_v9 : Value) (ha_9 : SL H 3 R_Blow a_v9 a.Blows) (a_v10 : Value) (ha_10 : SL H 2 R_Meter a_v10 a.Meters) (b : Run) (b_v0 : Value) (hb_0 : SL H 7 R_Section b_v0 b.Canopy.Frame.Sections) (b_v7 : Value) (hb_7 : SL H 2 R_Span b_v7 b.Canopy.Ribs) (b_v8 : Value) (hb_8 : SL H 1 RInt b_v8 b.Canopy.Shares) (b_v9 : Value) (hb_9 : SL H 3 R_Blow b_v9 b.Blows) (b_v10 : Value) (hb_10 : SL H 2 R_Meter b_v10 b.Meters) (blow : Int) (y : Bool) (hF : F_law13_inside n a b blow = some y) : SC Try.prog 11 [.agg [a_v0, .int .i64 a.Canopy.Frame.Low, .int .i64 a.Canopy.Frame.High, .int .i64 a.Canopy.Frame.Ease.Num, .int .i64 a.Canopy.Frame.Ease.Den, .int .i64 a.Canopy.Frame.Rod, .int .i64 a.Canopy.Frame.Case, a_v7, a_v8, a_v9, a_v10, .int .i64 a.Wrong].toArray, .agg [b_v0, .int .i64 b.Canopy.Frame.Low, .int .i64 b.Canopy.Frame.High, .int .i64 b.Canopy.Frame.Ease.Num, .int .i64 b.Canopy.Frame.Ease.Den, .int .i64 b.Canopy.Frame.Rod, .int .i64 b.Canopy.Frame.Case, b_v7, b_v8, b_v9, b_v10, .int .i64 b.Wrong].toArray, .int .i64 blow] (.bool y) H := by
 rw [F_law13_inside] at hF
 refine SC.of (N := 137) Try.func11 rfl rfl rfl fun w => ?_
 refine JC.seq ?_
 refine JC.region (by rfl) ?_
 intro hQ
 refine JL.box (cs := [a_v0, .int .i64 a.Canopy.Frame.Low, .int .i64 a.Canopy.Frame.High, .int .i64 a.Canopy.Frame.Ease.Num, .int .i64 a.Canopy.Frame.Ease.Den, .int .i64 a.Canopy.Frame.Rod, .int .i64 a.Canopy.Frame.Case, a_v7, a_v8, a_v9, a_v10, .int .i64 a.Wrong]) rfl .none rfl ?_
 intro b1
 refine JL.box (cs := [b_v0, .int .i64 b.Canopy.Frame.Low, .int .i64 b.Canopy.Frame.High, .int .i64 b.Canopy.Frame.Ease.Num, .int .i64 b.Canopy.Frame.Ease.Den, .int .i64 b.Canopy.Frame.Rod, .int .i64 b.Canopy.Frame.Case, b_v7, b_v8, b_v9, b_v10, .int .i64 b.Wrong]) rfl .none rfl ?_
 intro b2
 refine JL.assign .none rfl ?_
 refine JL.done hQ ?_
 refine JQ.go ?_
 refine JC.seq ?_
 refine JC.region (by rfl) ?_
 intro hQ
 refine JL.loadOwn 1 az_34 rfl rfl rfl .none rfl ?_
 obtain ⟨y3, hy3, hF⟩ := bind_some hF
 refine JL.callS (c_counts_Many n H a a_v0 ha_0 a_v7 ha_7 a_v8 ha_8 a_v9 ha_9 a_v10 ha_10 y3 hy3) rfl en_18 .none rfl ?_
 refine JL.move .none rfl ?_
 refine JL.extract rfl rfl .none rfl ?_
 refine JL.extract rfl rfl .none rfl ?_
 refine JL.assign .none rfl ?_
 refine JL.assign .none rfl ?_
 refine JL.done hQ ?_
 refine JQ.go ?_
 refine JC.seq ?_
 refine JC.region (by rfl) ?_
 intro hQ
 refine JL.loadOwn 0 az_34 rfl rfl rfl .none rfl ?_
 obtain ⟨y4, hy4, hF⟩ := bind_some hF
 refine JL.callS (c_counts_Many n H b b_v0 hb_0 b_v7 hb_7 b_v8 hb_8 b_v9 hb_9 b_v10 hb_10 y4 hy4) rfl en_18 .none rfl ?_
 refine JL.move .none rfl ?_
 refine JL.extract rfl rfl .none rfl ?_
 refine JL.extract rfl rfl .none rfl ?_
 refine JL.assign .none rfl ?_
 refine JL.assign .none rfl ?_
 refine JL.done hQ ?_
 refine JQ.go ?_
 refine JC.fresh (fun f => f 2 = .int .i64 blow ∧ f 3 = .pointer (some ⟨b1, 0, none⟩) ∧ f 4 = .pointer (some ⟨b2, 0, none⟩) ∧ f 6 = .bool false ∧ f 7 = .int .i64 y3.1 ∧ f 8 = .int .i64 y3.2 ∧ f 9 = .int .i64 y4.1 ∧ f 10 = .int .i64 y4.2) ⟨rfl, rfl, rfl, rfl, rfl, rfl, rfl, rfl⟩ ?_
 rintro f ⟨hf2, hf3, hf4, hf6, hf7, hf8, hf9, hf10⟩
 refine (JC.norm (i := 2) hf2 (JC.norm (i := 3) hf3 (JC.norm (i := 4) hf4 (JC.norm (i := 6) hf6 (JC.norm (i := 7) hf7 (JC.norm (i := 8) hf8 (JC.norm (i := 9) hf9 (JC.norm (i := 10) hf10 ?_))))))))
 refine JC.seq ?_
 refine JC.region (by rfl) ?_
 intro hQ
 refine JL.loadOwn 1 az_34 rfl rfl rfl .none rfl ?_
 refine JL.move .none rfl ?_
 obtain ⟨y5, hy5, hF⟩ := bind_some hF
 refine JL.callH (c_counts_Forces n H a a_v0 ha_0 a_v7 ha_7 a_v8 ha_8 a_v9 ha_9 a_v10 ha_10 blow y5 hy5) rfl en_15 .none rfl ?_
 rintro H6 vv7 hs6 ⟨y5a_v0, rfl, hy5a_0⟩
 refine JL.move .none rfl ?_
 refine JL.extract rfl rfl .none rfl ?_
 refine JL.extract rfl rfl .none rfl ?_
 refine JL.assign .none rfl ?_
 refine JL.assign .none rfl ?_
 refine JL.done hQ ?_
 refine JQ.go ?_
 refine JC.seq ?_
 refine JC.region (by rfl) ?_
 intro hQ
 refine JL.loadOwn 0 az_34 rfl rfl rfl .none rfl ?_
 refine JL.move .none rfl ?_
 obtain ⟨y8, hy8, hF⟩ := bind_some hF
 refine JL.callH (c_counts_Forces n H6 b b_v0 (SL.mono R_Section_mono hs6 hb_0) b_v7 (SL.mono R_Span_mono hs6 hb_7) b_v8 (SL.mono RInt.mono hs6 hb_8) b_v9 (SL.mono R_Blow_mono hs6 hb_9) b_v10 (SL.mono R_Meter_mono hs6 hb_10) blow y8 hy8) rfl en_15 .none rfl ?_
 rintro H9 vv10 hs9 ⟨y8a_v0, rfl, hy8a_0⟩
 refine JL.move .none rfl ?_
 refine JL.extract rfl rfl .none rfl ?_
 refine JL.extract rfl rfl .none rfl ?_
 refine JL.assign .none rfl ?_
 refine JL.assign .none rfl ?_
 refine JL.done hQ ?_
 refine JQ.go ?_
 refine JC.fresh (fun f => f 3 = .pointer (some ⟨b1, 0, none⟩) ∧ f 4 = .pointer (some ⟨b2, 0, none⟩) ∧ f 6 = .bool false ∧ f 7 = .int .i64 y3.1 ∧ f 8 = .int .i64 y3.2 ∧ f 9 = .int .i64 y4.1 ∧ f 10 = .int .i64 y4.2 ∧ f 11 = y5a_v0 ∧ f 12 = .int .i64 y5.2 ∧ f 13 = y8a_v0 ∧ f 14 = .int .i64 y8.2) ⟨rfl, rfl, rfl, rfl, rfl, rfl, rfl, rfl, rfl, rfl, rfl⟩ ?_
 rintro f ⟨hf3, hf4, hf6, hf7, hf8, hf9, hf10, hf11, hf12, hf13, hf14⟩
 refine (JC.norm (i := 3) hf3 (JC.norm (i := 4) hf4 (JC.norm (i := 6) hf6 (JC.norm (i := 7) hf7 (JC.norm (i := 8) hf8 (JC.norm (i := 9) hf9 (JC.norm (i := 10) hf10 (JC.norm (i := 11) hf11 (JC.norm (i := 12) hf12 (JC.norm (i := 13) hf13 (JC.norm (i := 14) hf14 ?_)))))))))))
 refine JC.seq ?_
 refine JC.region (by rfl) ?_
 intro hQ
 refine JL.loadOwn 1 az_34 rfl rfl rfl .none rfl ?_
 obtain ⟨y11, hy11, hF⟩ := bind_some hF
 refine JL.callS (c_counts_Harm n H9 a a_v0 (SL.mono R_Section_mono (HSub.trans hs6 hs9) ha_0) a_v7 (SL.mono R_Span_mono (HSub.trans hs6 hs9) ha_7) a_v8 (SL.mono RInt.mono (HSub.trans hs6 hs9) ha_8) a_v9 (SL.mono R_Blow_mono (HSub.trans hs6 hs9) ha_9) a_v10 (SL.mono R_Meter_mono (HSub.trans hs6 hs9) ha_10) y11 hy11) rfl en_14 .none rfl ?_
 refine JL.move .none rfl ?_
 refine JL.extract rfl rfl .none rfl ?_
 refine JL.extract rfl rfl .none rfl ?_
 refine JL.alloc ze_49 .none rfl ?_
 intro b12
 refine JL.storeOwn 0 (cs := [.int .i64 y11.1.Low, .int .i64 y11.1.High]) az_49 rfl rfl rfl (one_cons rfl (one_cons rfl one_nil)) rfl rfl .none ?_
 refine JL.assign .none rfl ?_
 refine JL.done hQ ?_
 refine JQ.go ?_
 refine JC.seq ?_
 refine JC.region (by rfl) ?_
 intro hQ
 refine JL.loadOwn 1 az_34 rfl rfl rfl .none rfl ?_
 obtain ⟨y13, hy13, hF⟩ := bind_some hF
 refine JL.callS (c_counts_Harm n H9 b b_v0 (SL.mono R_Section_mono (HSub.trans hs6 hs9) hb_0) b_v7 (SL.mono R_Span_mono (HSub.trans hs6 hs9) hb_7) b_v8 (SL.mono RInt.mono (HSub.trans hs6 hs9) hb_8) b_v9 (SL.mono R_Blow_mono (HSub.trans hs6 hs9) hb_9) b_v10 (SL.mono R_Meter_mono (HSub.trans hs6 hs9) hb_10) y13 hy13) rfl en_14 .none rfl ?_
 refine JL.move .none rfl ?_
 refine JL.extract rfl rfl .none rfl ?_
 refine JL.extract rfl rfl .none rfl ?_
 refine JL.alloc ze_49 .none rfl ?_
 intro b14
 refine JL.storeOwn 0 (cs := [.int .i64 y13.1.Low, .int .i64 y13.1.High]) az_49 rfl rfl rfl (one_cons rfl (one_cons rfl one_nil)) rfl rfl .none ?_
 refine JL.assign .none rfl ?_
 refine JL.done hQ ?_
 refine JQ.go ?_
 refine JC.fresh (fun f => f 6 = .bool false ∧ f 7 = .int .i64 y3.1 ∧ f 8 = .int .i64 y3.2 ∧ f 9 = .int .i64 y4.1 ∧ f 10 = .int .i64 y4.2 ∧ f 11 = y5a_v0 ∧ f 12 = .int .i64 y5.2 ∧ f 13 = y8a_v0 ∧ f 14 = .int .i64 y8.2 ∧ f 15 = .pointer (some ⟨b12, 0, none⟩) ∧ f 16 = .int .i64 y11.2 ∧ f 17 = .pointer (some ⟨b14, 0, none⟩) ∧ f 18 = .int .i64 y13.2) ⟨rfl, rfl, rfl, rfl, rfl, rfl, rfl, rfl, rfl, rfl, rfl, rfl, rfl⟩ ?_
 rintro f ⟨hf6, hf7, hf8, hf9, hf10, hf11, hf12, hf13, hf14, hf15, hf16, hf17, hf18⟩
 refine (JC.norm (i := 6) hf6 (JC.norm (i := 7) hf7 (JC.norm (i := 8) hf8 (JC.norm (i := 9) hf9 (JC.norm (i := 10) hf10 (JC.norm (i := 11) hf11 (JC.norm (i := 12) hf12 (JC.norm (i := 13) hf13 (JC.norm (i := 14) hf14 (JC.norm (i := 15) hf15 (JC.norm (i := 16) hf16 (JC.norm (i := 17) hf17 (JC.norm (i := 18) hf18 ?_)))))))))))))
 refine JC.seq ?_
 refine JC.seq ?_
 refine JC.region (by rfl) ?_
 intro hQ
 refine JL.move .none rfl ?_
 refine JL.move .none rfl ?_
 refine JL.bin rfl rfl rfl .none rfl ?_
 refine JL.move .none rfl ?_
 refine JL.cut 4 (fun f => f 7 = .int .i64 y3.1 ∧ f 8 = .int .i64 y3.2 ∧ f 9 = .int .i64 y4.1 ∧ f 10 = .int .i64 y4.2 ∧ f 11 = y5a_v0 ∧ f 13 = y8a_v0 ∧ f 14 = .int .i64 y8.2 ∧ f 15 = .pointer (some ⟨b12, 0, none⟩) ∧ f 17 = .pointer (some ⟨b14, 0, none⟩) ∧ f 18 = .int .i64 y13.2 ∧ f 59 = .bool ((y3.2 != y5.2) || (y3.2 != y11.2))) ?_ ?_
 ·intro hJ15
  rcases bcases (y3.2 != y5.2) with hc16 | hc16
  ·skip
   refine JL.skip (.bool rfl rfl rfl hc16) rfl ?_
   refine JL.skip (.bool rfl rfl rfl hc16) rfl ?_
   refine JL.skip (.bool rfl rfl rfl hc16) rfl ?_
   refine JL.pick_t (b := (y3.2 != y5.2)) rfl hc16 .none rfl ?_
   exact hJ15 _ ⟨rfl, rfl, rfl, rfl, rfl, rfl, rfl, rfl, rfl, rfl, or_t hc16 rfl⟩
  ·skip
   refine JL.move (.some rfl rfl rfl hc16) rfl ?_
   refine JL.move (.some rfl rfl rfl hc16) rfl ?_
   refine JL.bin rfl rfl rfl (.some rfl rfl rfl hc16) rfl ?_
   refine JL.pick_f (b := (y3.2 != y5.2)) rfl hc16 .none rfl ?_
   exact hJ15 _ ⟨rfl, rfl, rfl, rfl, rfl, rfl, rfl, rfl, rfl, rfl, or_f hc16 rfl⟩
 ·rintro f ⟨hf7, hf8, hf9, hf10, hf11, hf13, hf14, hf15, hf17, hf18, hf59⟩
  refine (JL.norm (i := 7) hf7 (JL.norm (i := 8) hf8 (JL.norm (i := 9) hf9 (JL.norm (i := 10) hf10 (JL.norm (i := 11) hf11 (JL.norm (i := 13) hf13 (JL.norm (i := 14) hf14 (JL.norm (i := 15) hf15 (JL.norm (i := 17) hf17 (JL.norm (i := 18) hf18 (JL.norm (i := 59) hf59 ?_)))))))))))
  refine JL.move .none rfl ?_
  refine JL.cut 4 (fun f => f 7 = .int .i64 y3.1 ∧ f 8 = .int .i64 y3.2 ∧ f 9 = .int .i64 y4.1 ∧ f 10 = .int .i64 y4.2 ∧ f 11 = y5a_v0 ∧ f 13 = y8a_v0 ∧ f 15 = .pointer (some ⟨b12, 0, none⟩) ∧ f 17 = .pointer (some ⟨b14, 0, none⟩) ∧ f 18 = .int .i64 y13.2 ∧ f 64 = .bool (((y3.2 != y5.2) || (y3.2 != y11.2)) || (y4.2 != y8.2))) ?_ ?_
  ·intro hJ17
   rcases bcases ((y3.2 != y5.2) || (y3.2 != y11.2)) with hc18 | hc18
   ·skip
    refine JL.skip (.bool rfl rfl rfl hc18) rfl ?_
    refine JL.skip (.bool rfl rfl rfl hc18) rfl ?_
    refine JL.skip (.bool rfl rfl rfl hc18) rfl ?_
    refine JL.pick_t (b := ((y3.2 != y5.2) || (y3.2 != y11.2))) rfl hc18 .none rfl ?_
    exact hJ17 _ ⟨rfl, rfl, rfl, rfl, rfl, rfl, rfl, rfl, rfl, or_t hc18 rfl⟩
   ·skip
    refine JL.move (.some rfl rfl rfl hc18) rfl ?_
    refine JL.move (.some rfl rfl rfl hc18) rfl ?_
    refine JL.bin rfl rfl rfl (.some rfl rfl rfl hc18) rfl ?_
    refine JL.pick_f (b := ((y3.2 != y5.2) || (y3.2 != y11.2))) rfl hc18 .none rfl ?_
    exact hJ17 _ ⟨rfl, rfl, rfl, rfl, rfl, rfl, rfl, rfl, rfl, or_f hc18 rfl⟩
  ·rintro f ⟨hf7, hf8, hf9, hf10, hf11, hf13, hf15, hf17, hf18, hf64⟩
   refine (JL.norm (i := 7) hf7 (JL.norm (i := 8) hf8 (JL.norm (i := 9) hf9 (JL.norm (i := 10) hf10 (JL.norm (i := 11) hf11 (JL.norm (i := 13) hf13 (JL.norm (i := 15) hf15 (JL.norm (i := 17) hf17 (JL.norm (i := 18) hf18 (JL.norm (i := 64) hf64 ?_))))))))))
   refine JL.move .none rfl ?_
   refine JL.cut 4 (fun f => f 7 = .int .i64 y3.1 ∧ f 8 = .int .i64 y3.2 ∧ f 9 = .int .i64 y4.1 ∧ f 10 = .int .i64 y4.2 ∧ f 11 = y5a_v0 ∧ f 13 = y8a_v0 ∧ f 15 = .pointer (some ⟨b12, 0, none⟩) ∧ f 17 = .pointer (some ⟨b14, 0, none⟩) ∧ f 69 = .bool ((((y3.2 != y5.2) || (y3.2 != y11.2)) || (y4.2 != y8.2)) || (y4.2 != y13.2))) ?_ ?_
   ·intro hJ19
    rcases bcases (((y3.2 != y5.2) || (y3.2 != y11.2)) || (y4.2 != y8.2)) with hc20 | hc20
    ·skip
     refine JL.skip (.bool rfl rfl rfl hc20) rfl ?_
     refine JL.skip (.bool rfl rfl rfl hc20) rfl ?_
     refine JL.skip (.bool rfl rfl rfl hc20) rfl ?_
     refine JL.pick_t (b := (((y3.2 != y5.2) || (y3.2 != y11.2)) || (y4.2 != y8.2))) rfl hc20 .none rfl ?_
     exact hJ19 _ ⟨rfl, rfl, rfl, rfl, rfl, rfl, rfl, rfl, or_t hc20 rfl⟩
    ·skip
     refine JL.move (.some rfl rfl rfl hc20) rfl ?_
     refine JL.move (.some rfl rfl rfl hc20) rfl ?_
     refine JL.bin rfl rfl rfl (.some rfl rfl rfl hc20) rfl ?_
     refine JL.pick_f (b := (((y3.2 != y5.2) || (y3.2 != y11.2)) || (y4.2 != y8.2))) rfl hc20 .none rfl ?_
     exact hJ19 _ ⟨rfl, rfl, rfl, rfl, rfl, rfl, rfl, rfl, or_f hc20 rfl⟩
   ·rintro f ⟨hf7, hf8, hf9, hf10, hf11, hf13, hf15, hf17, hf69⟩
    refine (JL.norm (i := 7) hf7 (JL.norm (i := 8) hf8 (JL.norm (i := 9) hf9 (JL.norm (i := 10) hf10 (JL.norm (i := 11) hf11 (JL.norm (i := 13) hf13 (JL.norm (i := 15) hf15 (JL.norm (i := 17) hf17 (JL.norm (i := 69) hf69 ?_)))))))))
    refine JL.move .none rfl ?_
    refine JL.cut 7 (fun f => f 7 = .int .i64 y3.1 ∧ f 8 = .int .i64 y3.2 ∧ f 9 = .int .i64 y4.1 ∧ f 10 = .int .i64 y4.2 ∧ f 11 = y5a_v0 ∧ f 13 = y8a_v0 ∧ f 15 = .pointer (some ⟨b12, 0, none⟩) ∧ f 17 = .pointer (some ⟨b14, 0, none⟩) ∧ f 77 = .bool (((((y3.2 != y5.2) || (y3.2 != y11.2)) || (y4.2 != y8.2)) || (y4.2 != y13.2)) || ((y3.2 != 0) && (y3.2 != 3)))) ?_ ?_
    ·intro hJ23
     rcases bcases ((((y3.2 != y5.2) || (y3.2 != y11.2)) || (y4.2 != y8.2)) || (y4.2 != y13.2)) with hc24 | hc24
     ·skip
      refine JL.skip (.bool rfl rfl rfl hc24) rfl ?_
      refine JL.skip (.bool rfl rfl rfl hc24) rfl ?_
      refine JL.skip (.bool rfl rfl rfl hc24) rfl ?_
      refine JL.skip (.no rfl rfl rfl) rfl ?_
      refine JL.skip (.no rfl rfl rfl) rfl ?_
      refine JL.skip (.bool rfl rfl rfl hc24) rfl ?_
      refine JL.pick_t (b := ((((y3.2 != y5.2) || (y3.2 != y11.2)) || (y4.2 != y8.2)) || (y4.2 != y13.2))) rfl hc24 .none rfl ?_
      exact hJ23 _ ⟨rfl, rfl, rfl, rfl, rfl, rfl, rfl, rfl, or_t hc24 rfl⟩
     ·skip
      refine JL.move (.some rfl rfl rfl hc24) rfl ?_
      refine JL.bin rfl rfl rfl (.some rfl rfl rfl hc24) rfl ?_
      refine JL.move (.some rfl rfl rfl hc24) rfl ?_
      refine JL.cut 3 (fun f => f 7 = .int .i64 y3.1 ∧ f 8 = .int .i64 y3.2 ∧ f 9 = .int .i64 y4.1 ∧ f 10 = .int .i64 y4.2 ∧ f 11 = y5a_v0 ∧ f 13 = y8a_v0 ∧ f 15 = .pointer (some ⟨b12, 0, none⟩) ∧ f 17 = .pointer (some ⟨b14, 0, none⟩) ∧ f 70 = .bool ((((y3.2 != y5.2) || (y3.2 != y11.2)) || (y4.2 != y8.2)) || (y4.2 != y13.2)) ∧ f 76 = .bool ((y3.2 != 0) && (y3.2 != 3))) ?_ ?_
      ·intro hJ25
       rcases bcases (y3.2 != 0) with hc26 | hc26
       ·skip
        refine JL.move (.some rfl rfl rfl hc26) rfl ?_
        refine JL.bin rfl rfl rfl (.some rfl rfl rfl hc26) rfl ?_
        refine JL.pick_t (b := (y3.2 != 0)) rfl hc26 (.some rfl rfl rfl hc24) rfl ?_
        exact hJ25 _ ⟨rfl, rfl, rfl, rfl, rfl, rfl, rfl, rfl, rfl, and_t hc26 rfl⟩
       ·skip
        refine JL.skip (.bool rfl rfl rfl hc26) rfl ?_
        refine JL.skip (.bool rfl rfl rfl hc26) rfl ?_
        refine JL.pick_f (b := (y3.2 != 0)) rfl hc26 (.some rfl rfl rfl hc24) rfl ?_
        exact hJ25 _ ⟨rfl, rfl, rfl, rfl, rfl, rfl, rfl, rfl, rfl, and_f hc26 rfl⟩
      ·rintro f ⟨hf7, hf8, hf9, hf10, hf11, hf13, hf15, hf17, hf70, hf76⟩
       refine (JL.norm (i := 7) hf7 (JL.norm (i := 8) hf8 (JL.norm (i := 9) hf9 (JL.norm (i := 10) hf10 (JL.norm (i := 11) hf11 (JL.norm (i := 13) hf13 (JL.norm (i := 15) hf15 (JL.norm (i := 17) hf17 (JL.norm (i := 70) hf70 (JL.norm (i := 76) hf76 ?_))))))))))
       refine JL.pick_f (b := ((((y3.2 != y5.2) || (y3.2 != y11.2)) || (y4.2 != y8.2)) || (y4.2 != y13.2))) rfl hc24 .none rfl ?_
       exact hJ23 _ ⟨rfl, rfl, rfl, rfl, rfl, rfl, rfl, rfl, or_f hc24 rfl⟩
    ·rintro f ⟨hf7, hf8, hf9, hf10, hf11, hf13, hf15, hf17, hf77⟩
     refine (JL.norm (i := 7) hf7 (JL.norm (i := 8) hf8 (JL.norm (i := 9) hf9 (JL.norm (i := 10) hf10 (JL.norm (i := 11) hf11 (JL.norm (i := 13) hf13 (JL.norm (i := 15) hf15 (JL.norm (i := 17) hf17 (JL.norm (i := 77) hf77 ?_)))))))))
     refine JL.move .none rfl ?_
     refine JL.cut 7 (fun f => f 7 = .int .i64 y3.1 ∧ f 8 = .int .i64 y3.2 ∧ f 9 = .int .i64 y4.1 ∧ f 10 = .int .i64 y4.2 ∧ f 11 = y5a_v0 ∧ f 13 = y8a_v0 ∧ f 15 = .pointer (some ⟨b12, 0, none⟩) ∧ f 17 = .pointer (some ⟨b14, 0, none⟩) ∧ f 85 = .bool ((((((y3.2 != y5.2) || (y3.2 != y11.2)) || (y4.2 != y8.2)) || (y4.2 != y13.2)) || ((y3.2 != 0) && (y3.2 != 3))) || ((y4.2 != 0) && (y4.2 != 3)))) ?_ ?_
     ·intro hJ29
      rcases bcases (((((y3.2 != y5.2) || (y3.2 != y11.2)) || (y4.2 != y8.2)) || (y4.2 != y13.2)) || ((y3.2 != 0) && (y3.2 != 3))) with hc30 | hc30
      ·skip
       refine JL.skip (.bool rfl rfl rfl hc30) rfl ?_
       refine JL.skip (.bool rfl rfl rfl hc30) rfl ?_
       refine JL.skip (.bool rfl rfl rfl hc30) rfl ?_
       refine JL.skip (.no rfl rfl rfl) rfl ?_
       refine JL.skip (.no rfl rfl rfl) rfl ?_
       refine JL.skip (.bool rfl rfl rfl hc30) rfl ?_
       refine JL.pick_t (b := (((((y3.2 != y5.2) || (y3.2 != y11.2)) || (y4.2 != y8.2)) || (y4.2 != y13.2)) || ((y3.2 != 0) && (y3.2 != 3)))) rfl hc30 .none rfl ?_
       exact hJ29 _ ⟨rfl, rfl, rfl, rfl, rfl, rfl, rfl, rfl, or_t hc30 rfl⟩
      ·skip
       refine JL.move (.some rfl rfl rfl hc30) rfl ?_
       refine JL.bin rfl rfl rfl (.some rfl rfl rfl hc30) rfl ?_
       refine JL.move (.some rfl rfl rfl hc30) rfl ?_
       refine JL.cut 3 (fun f => f 7 = .int .i64 y3.1 ∧ f 8 = .int .i64 y3.2 ∧ f 9 = .int .i64 y4.1 ∧ f 10 = .int .i64 y4.2 ∧ f 11 = y5a_v0 ∧ f 13 = y8a_v0 ∧ f 15 = .pointer (some ⟨b12, 0, none⟩) ∧ f 17 = .pointer (some ⟨b14, 0, none⟩) ∧ f 78 = .bool (((((y3.2 != y5.2) || (y3.2 != y11.2)) || (y4.2 != y8.2)) || (y4.2 != y13.2)) || ((y3.2 != 0) && (y3.2 != 3))) ∧ f 84 = .bool ((y4.2 != 0) && (y4.2 != 3))) ?_ ?_
       ·intro hJ31
        rcases bcases (y4.2 != 0) with hc32 | hc32
        ·skip
         refine JL.move (.some rfl rfl rfl hc32) rfl ?_
         refine JL.bin rfl rfl rfl (.some rfl rfl rfl hc32) rfl ?_
         refine JL.pick_t (b := (y4.2 != 0)) rfl hc32 (.some rfl rfl rfl hc30) rfl ?_
         exact hJ31 _ ⟨rfl, rfl, rfl, rfl, rfl, rfl, rfl, rfl, rfl, and_t hc32 rfl⟩
        ·skip
         refine JL.skip (.bool rfl rfl rfl hc32) rfl ?_
         refine JL.skip (.bool rfl rfl rfl hc32) rfl ?_
         refine JL.pick_f (b := (y4.2 != 0)) rfl hc32 (.some rfl rfl rfl hc30) rfl ?_
         exact hJ31 _ ⟨rfl, rfl, rfl, rfl, rfl, rfl, rfl, rfl, rfl, and_f hc32 rfl⟩
       ·rintro f ⟨hf7, hf8, hf9, hf10, hf11, hf13, hf15, hf17, hf78, hf84⟩
        refine (JL.norm (i := 7) hf7 (JL.norm (i := 8) hf8 (JL.norm (i := 9) hf9 (JL.norm (i := 10) hf10 (JL.norm (i := 11) hf11 (JL.norm (i := 13) hf13 (JL.norm (i := 15) hf15 (JL.norm (i := 17) hf17 (JL.norm (i := 78) hf78 (JL.norm (i := 84) hf84 ?_))))))))))
        refine JL.pick_f (b := (((((y3.2 != y5.2) || (y3.2 != y11.2)) || (y4.2 != y8.2)) || (y4.2 != y13.2)) || ((y3.2 != 0) && (y3.2 != 3)))) rfl hc30 .none rfl ?_
        exact hJ29 _ ⟨rfl, rfl, rfl, rfl, rfl, rfl, rfl, rfl, or_f hc30 rfl⟩
     ·rintro f ⟨hf7, hf8, hf9, hf10, hf11, hf13, hf15, hf17, hf85⟩
      refine (JL.norm (i := 7) hf7 (JL.norm (i := 8) hf8 (JL.norm (i := 9) hf9 (JL.norm (i := 10) hf10 (JL.norm (i := 11) hf11 (JL.norm (i := 13) hf13 (JL.norm (i := 15) hf15 (JL.norm (i := 17) hf17 (JL.norm (i := 85) hf85 ?_)))))))))
      refine JL.move .none rfl ?_
      refine JL.cut 7 (fun f => f 7 = .int .i64 y3.1 ∧ f 8 = .int .i64 y3.2 ∧ f 9 = .int .i64 y4.1 ∧ f 11 = y5a_v0 ∧ f 13 = y8a_v0 ∧ f 15 = .pointer (some ⟨b12, 0, none⟩) ∧ f 17 = .pointer (some ⟨b14, 0, none⟩) ∧ f 93 = .bool (((((((y3.2 != y5.2) || (y3.2 != y11.2)) || (y4.2 != y8.2)) || (y4.2 != y13.2)) || ((y3.2 != 0) && (y3.2 != 3))) || ((y4.2 != 0) && (y4.2 != 3))) || ((y3.2 == 0) && (y4.2 != 0)))) ?_ ?_
      ·intro hJ35
       rcases bcases ((((((y3.2 != y5.2) || (y3.2 != y11.2)) || (y4.2 != y8.2)) || (y4.2 != y13.2)) || ((y3.2 != 0) && (y3.2 != 3))) || ((y4.2 != 0) && (y4.2 != 3))) with hc36 | hc36
       ·skip
        refine JL.skip (.bool rfl rfl rfl hc36) rfl ?_
        refine JL.skip (.bool rfl rfl rfl hc36) rfl ?_
        refine JL.skip (.bool rfl rfl rfl hc36) rfl ?_
        refine JL.skip (.no rfl rfl rfl) rfl ?_
        refine JL.skip (.no rfl rfl rfl) rfl ?_
        refine JL.skip (.bool rfl rfl rfl hc36) rfl ?_
        refine JL.pick_t (b := ((((((y3.2 != y5.2) || (y3.2 != y11.2)) || (y4.2 != y8.2)) || (y4.2 != y13.2)) || ((y3.2 != 0) && (y3.2 != 3))) || ((y4.2 != 0) && (y4.2 != 3)))) rfl hc36 .none rfl ?_
        exact hJ35 _ ⟨rfl, rfl, rfl, rfl, rfl, rfl, rfl, or_t hc36 rfl⟩
       ·skip
        refine JL.move (.some rfl rfl rfl hc36) rfl ?_
        refine JL.bin rfl rfl rfl (.some rfl rfl rfl hc36) rfl ?_
        refine JL.move (.some rfl rfl rfl hc36) rfl ?_
        refine JL.cut 3 (fun f => f 7 = .int .i64 y3.1 ∧ f 8 = .int .i64 y3.2 ∧ f 9 = .int .i64 y4.1 ∧ f 11 = y5a_v0 ∧ f 13 = y8a_v0 ∧ f 15 = .pointer (some ⟨b12, 0, none⟩) ∧ f 17 = .pointer (some ⟨b14, 0, none⟩) ∧ f 86 = .bool ((((((y3.2 != y5.2) || (y3.2 != y11.2)) || (y4.2 != y8.2)) || (y4.2 != y13.2)) || ((y3.2 != 0) && (y3.2 != 3))) || ((y4.2 != 0) && (y4.2 != 3))) ∧ f 92 = .bool ((y3.2 == 0) && (y4.2 != 0))) ?_ ?_
        ·intro hJ37
         rcases bcases (y3.2 == 0) with hc38 | hc38
         ·skip
          refine JL.move (.some rfl rfl rfl hc38) rfl ?_
          refine JL.bin rfl rfl rfl (.some rfl rfl rfl hc38) rfl ?_
          refine JL.pick_t (b := (y3.2 == 0)) rfl hc38 (.some rfl rfl rfl hc36) rfl ?_
          exact hJ37 _ ⟨rfl, rfl, rfl, rfl, rfl, rfl, rfl, rfl, and_t hc38 rfl⟩
         ·skip
          refine JL.skip (.bool rfl rfl rfl hc38) rfl ?_
          refine JL.skip (.bool rfl rfl rfl hc38) rfl ?_
          refine JL.pick_f (b := (y3.2 == 0)) rfl hc38 (.some rfl rfl rfl hc36) rfl ?_
          exact hJ37 _ ⟨rfl, rfl, rfl, rfl, rfl, rfl, rfl, rfl, and_f hc38 rfl⟩
        ·rintro f ⟨hf7, hf8, hf9, hf11, hf13, hf15, hf17, hf86, hf92⟩
         refine (JL.norm (i := 7) hf7 (JL.norm (i := 8) hf8 (JL.norm (i := 9) hf9 (JL.norm (i := 11) hf11 (JL.norm (i := 13) hf13 (JL.norm (i := 15) hf15 (JL.norm (i := 17) hf17 (JL.norm (i := 86) hf86 (JL.norm (i := 92) hf92 ?_)))))))))
         refine JL.pick_f (b := ((((((y3.2 != y5.2) || (y3.2 != y11.2)) || (y4.2 != y8.2)) || (y4.2 != y13.2)) || ((y3.2 != 0) && (y3.2 != 3))) || ((y4.2 != 0) && (y4.2 != 3)))) rfl hc36 .none rfl ?_
         exact hJ35 _ ⟨rfl, rfl, rfl, rfl, rfl, rfl, rfl, or_f hc36 rfl⟩
      ·rintro f ⟨hf7, hf8, hf9, hf11, hf13, hf15, hf17, hf93⟩
       refine (JL.norm (i := 7) hf7 (JL.norm (i := 8) hf8 (JL.norm (i := 9) hf9 (JL.norm (i := 11) hf11 (JL.norm (i := 13) hf13 (JL.norm (i := 15) hf15 (JL.norm (i := 17) hf17 (JL.norm (i := 93) hf93 ?_))))))))
       refine JL.move .none rfl ?_
       refine JL.cut 6 (fun f => f 7 = .int .i64 y3.1 ∧ f 8 = .int .i64 y3.2 ∧ f 9 = .int .i64 y4.1 ∧ f 11 = y5a_v0 ∧ f 13 = y8a_v0 ∧ f 15 = .pointer (some ⟨b12, 0, none⟩) ∧ f 17 = .pointer (some ⟨b14, 0, none⟩) ∧ f 100 = .bool ((((((((y3.2 != y5.2) || (y3.2 != y11.2)) || (y4.2 != y8.2)) || (y4.2 != y13.2)) || ((y3.2 != 0) && (y3.2 != 3))) || ((y4.2 != 0) && (y4.2 != 3))) || ((y3.2 == 0) && (y4.2 != 0))) || (decide ((y8.1.length : Int) < (y5.1.length : Int))))) ?_ ?_
       ·intro hJ39
        rcases bcases (((((((y3.2 != y5.2) || (y3.2 != y11.2)) || (y4.2 != y8.2)) || (y4.2 != y13.2)) || ((y3.2 != 0) && (y3.2 != 3))) || ((y4.2 != 0) && (y4.2 != 3))) || ((y3.2 == 0) && (y4.2 != 0))) with hc40 | hc40
        ·skip
         refine JL.skip (.bool rfl rfl rfl hc40) rfl ?_
         refine JL.skip (.bool rfl rfl rfl hc40) rfl ?_
         refine JL.skip (.bool rfl rfl rfl hc40) rfl ?_
         refine JL.skip (.bool rfl rfl rfl hc40) rfl ?_
         refine JL.skip (.bool rfl rfl rfl hc40) rfl ?_
         refine JL.pick_t (b := (((((((y3.2 != y5.2) || (y3.2 != y11.2)) || (y4.2 != y8.2)) || (y4.2 != y13.2)) || ((y3.2 != 0) && (y3.2 != 3))) || ((y4.2 != 0) && (y4.2 != 3))) || ((y3.2 == 0) && (y4.2 != 0)))) rfl hc40 .none rfl ?_
         exact hJ39 _ ⟨rfl, rfl, rfl, rfl, rfl, rfl, rfl, or_t hc40 rfl⟩
        ·skip
         refine JL.move (.some rfl rfl rfl hc40) rfl ?_
         refine JL.lenSL (R := RInt) ul_28 (SL.mono RInt.mono hs9 hy5a_0) (.some rfl rfl rfl hc40) rfl ?_
         refine JL.move (.some rfl rfl rfl hc40) rfl ?_
         refine JL.lenSL (R := RInt) ul_28 hy8a_0 (.some rfl rfl rfl hc40) rfl ?_
         refine JL.bin rfl rfl rfl (.some rfl rfl rfl hc40) rfl ?_
         refine JL.pick_f (b := (((((((y3.2 != y5.2) || (y3.2 != y11.2)) || (y4.2 != y8.2)) || (y4.2 != y13.2)) || ((y3.2 != 0) && (y3.2 != 3))) || ((y4.2 != 0) && (y4.2 != 3))) || ((y3.2 == 0) && (y4.2 != 0)))) rfl hc40 .none rfl ?_
         exact hJ39 _ ⟨rfl, rfl, rfl, rfl, rfl, rfl, rfl, or_f hc40 rfl⟩
       ·rintro f ⟨hf7, hf8, hf9, hf11, hf13, hf15, hf17, hf100⟩
        refine (JL.norm (i := 7) hf7 (JL.norm (i := 8) hf8 (JL.norm (i := 9) hf9 (JL.norm (i := 11) hf11 (JL.norm (i := 13) hf13 (JL.norm (i := 15) hf15 (JL.norm (i := 17) hf17 (JL.norm (i := 100) hf100 ?_))))))))
        refine JL.move .none rfl ?_
        refine JL.cut 4 (fun f => f 7 = .int .i64 y3.1 ∧ f 8 = .int .i64 y3.2 ∧ f 11 = y5a_v0 ∧ f 13 = y8a_v0 ∧ f 15 = .pointer (some ⟨b12, 0, none⟩) ∧ f 17 = .pointer (some ⟨b14, 0, none⟩) ∧ f 105 = .bool (((((((((y3.2 != y5.2) || (y3.2 != y11.2)) || (y4.2 != y8.2)) || (y4.2 != y13.2)) || ((y3.2 != 0) && (y3.2 != 3))) || ((y4.2 != 0) && (y4.2 != 3))) || ((y3.2 == 0) && (y4.2 != 0))) || (decide ((y8.1.length : Int) < (y5.1.length : Int)))) || (decide (y4.1 < y3.1)))) ?_ ?_
        ·intro hJ41
         rcases bcases ((((((((y3.2 != y5.2) || (y3.2 != y11.2)) || (y4.2 != y8.2)) || (y4.2 != y13.2)) || ((y3.2 != 0) && (y3.2 != 3))) || ((y4.2 != 0) && (y4.2 != 3))) || ((y3.2 == 0) && (y4.2 != 0))) || (decide ((y8.1.length : Int) < (y5.1.length : Int)))) with hc42 | hc42
         ·skip
          refine JL.skip (.bool rfl rfl rfl hc42) rfl ?_
          refine JL.skip (.bool rfl rfl rfl hc42) rfl ?_
          refine JL.skip (.bool rfl rfl rfl hc42) rfl ?_
          refine JL.pick_t (b := ((((((((y3.2 != y5.2) || (y3.2 != y11.2)) || (y4.2 != y8.2)) || (y4.2 != y13.2)) || ((y3.2 != 0) && (y3.2 != 3))) || ((y4.2 != 0) && (y4.2 != 3))) || ((y3.2 == 0) && (y4.2 != 0))) || (decide ((y8.1.length : Int) < (y5.1.length : Int))))) rfl hc42 .none rfl ?_
          exact hJ41 _ ⟨rfl, rfl, rfl, rfl, rfl, rfl, or_t hc42 rfl⟩
         ·skip
          refine JL.move (.some rfl rfl rfl hc42) rfl ?_
          refine JL.move (.some rfl rfl rfl hc42) rfl ?_
          refine JL.bin rfl rfl rfl (.some rfl rfl rfl hc42) rfl ?_
          refine JL.pick_f (b := ((((((((y3.2 != y5.2) || (y3.2 != y11.2)) || (y4.2 != y8.2)) || (y4.2 != y13.2)) || ((y3.2 != 0) && (y3.2 != 3))) || ((y4.2 != 0) && (y4.2 != 3))) || ((y3.2 == 0) && (y4.2 != 0))) || (decide ((y8.1.length : Int) < (y5.1.length : Int))))) rfl hc42 .none rfl ?_
          exact hJ41 _ ⟨rfl, rfl, rfl, rfl, rfl, rfl, or_f hc42 rfl⟩
        ·rintro f ⟨hf7, hf8, hf11, hf13, hf15, hf17, hf105⟩
         refine (JL.norm (i := 7) hf7 (JL.norm (i := 8) hf8 (JL.norm (i := 11) hf11 (JL.norm (i := 13) hf13 (JL.norm (i := 15) hf15 (JL.norm (i := 17) hf17 (JL.norm (i := 105) hf105 ?_)))))))
         refine JL.done hQ ?_
         refine JQ.go ?_
         rcases ite_some hF with ⟨hc43, hF⟩ | ⟨hc43, hF⟩
         ·refine JC.cond_t (b := (((((((((y3.2 != y5.2) || (y3.2 != y11.2)) || (y4.2 != y8.2)) || (y4.2 != y13.2)) || ((y3.2 != 0) && (y3.2 != 3))) || ((y4.2 != 0) && (y4.2 != 3))) || ((y3.2 == 0) && (y4.2 != 0))) || (decide ((y8.1.length : Int) < (y5.1.length : Int)))) || (decide (y4.1 < y3.1)))) rfl hc43 ?_
          refine JC.seq ?_
          refine JC.region (by rfl) ?_
          intro hQ
          refine JL.assign .none rfl ?_
          refine JL.done hQ ?_
          refine JQ.go ?_
          refine JC.ret ?_
          refine JQ.ret_then ?_
          obtain rfl := Option.some.inj hF
          exact JQ.outS rfl (.tmp .nil) rfl
         ·refine JC.cond_f (b := (((((((((y3.2 != y5.2) || (y3.2 != y11.2)) || (y4.2 != y8.2)) || (y4.2 != y13.2)) || ((y3.2 != 0) && (y3.2 != 3))) || ((y4.2 != 0) && (y4.2 != 3))) || ((y3.2 == 0) && (y4.2 != 0))) || (decide ((y8.1.length : Int) < (y5.1.length : Int)))) || (decide (y4.1 < y3.1)))) rfl hc43 ?_
          refine JC.skip ?_
          refine JQ.go ?_
          refine JC.seq ?_
          refine JC.seq ?_
          refine JC.region (by rfl) ?_
          intro hQ
          refine JL.move .none rfl ?_
          refine JL.bin rfl rfl rfl .none rfl ?_
          refine JL.done hQ ?_
          refine JQ.go ?_
          rcases ite_some hF with ⟨hc44, hF⟩ | ⟨hc44, hF⟩
          ·refine JC.cond_t (b := (y3.2 != 0)) rfl hc44 ?_
           refine JC.seq ?_
           refine JC.region (by rfl) ?_
           intro hQ
           refine JL.assign .none rfl ?_
           refine JL.done hQ ?_
           refine JQ.go ?_
           refine JC.ret ?_
           refine JQ.ret_then ?_
           obtain rfl := Option.some.inj hF
           exact JQ.outS rfl (.tmp .nil) rfl
          ·refine JC.cond_f (b := (y3.2 != 0)) rfl hc44 ?_
           refine JC.skip ?_
           refine JQ.go ?_
           refine JC.seq ?_
           refine JC.seq ?_
           refine JC.region (by rfl) ?_
           intro hQ
           refine JL.assign .none rfl ?_
           refine JL.done hQ ?_
           refine JQ.go ?_
           obtain ⟨r78, hlr78, hKr78⟩ := bind_some hF
           refine JC.join (fun (_ : Unit) H77 f bs gs => f 7 = .int .i64 y3.1 ∧ f 15 = .pointer (some ⟨b12, 0, none⟩) ∧ f 17 = .pointer (some ⟨b14, 0, none⟩) ∧ bs = [(b14, .cells [.int .i64 y13.1.Low, .int .i64 y13.1.High].toArray 49), (b12, .cells [.int .i64 y11.1.Low, .int .i64 y11.1.High].toArray 49)] ∧ gs = [] ∧ HSub H9 H77 ∧ Sum.inr () = r78) ?_ ?_
           ·skip
            refine JC.block ?_
            refine JC.mask [true, true, false, false] [] ?_
            refine JC.loop hlr78 (fun (x_99 : Int) H100 f bs gs => f 7 = .int .i64 y3.1 ∧ f 11 = y5a_v0 ∧ f 13 = y8a_v0 ∧ f 15 = .pointer (some ⟨b12, 0, none⟩) ∧ f 17 = .pointer (some ⟨b14, 0, none⟩) ∧ f 19 = .int .i64 x_99 ∧ bs = [(b14, .cells [.int .i64 y13.1.Low, .int .i64 y13.1.High].toArray 49), (b12, .cells [.int .i64 y11.1.Low, .int .i64 y11.1.High].toArray 49)] ∧ gs = [] ∧ HSub H9 H100) ⟨rfl, rfl, rfl, rfl, rfl, rfl, rfl, rfl, (HSub.refl _)⟩ ?_
            rintro x_99 x102 H100 f bs gs ⟨hf7, hf11, hf13, hf15, hf17, hf19, rfl, rfl, hs100⟩ hF hr101
            rw [F_law13_inside_s1] at hF
            refine (JC.norm (i := 7) hf7 (JC.norm (i := 11) hf11 (JC.norm (i := 13) hf13 (JC.norm (i := 15) hf15 (JC.norm (i := 17) hf17 (JC.norm (i := 19) hf19 ?_))))))
            refine JC.seq ?_
            refine JC.seq ?_
            refine JC.region (by rfl) ?_
            intro hQ
            refine JL.move .none rfl ?_
            refine JL.move .none rfl ?_
            refine JL.lenSL (R := RInt) ul_28 (SL.mono RInt.mono (HSub.trans hs9 hs100) hy5a_0) .none rfl ?_
            refine JL.bin rfl rfl rfl .none rfl ?_
            refine JL.done hQ ?_
            refine JQ.go ?_
            rcases ite_some hF with ⟨hc103, hF⟩ | ⟨hc103, hF⟩
            ·refine JC.cond_t (b := decide (x_99 < (y5.1.length : Int))) rfl hc103 ?_
             refine JC.skip ?_
             refine JQ.go ?_
             refine JC.seq ?_
             refine JC.block ?_
             refine JC.seq ?_
             refine JC.region (by rfl) ?_
             intro hQ
             refine JL.move .none rfl ?_
             refine JL.move .none rfl ?_
             refine JL.move .none rfl ?_
             obtain ⟨y104, hy104, hF⟩ := bind_some hF
             refine JL.indexSL (R := RInt) sl_28 (SL.mono RInt.mono (HSub.trans hs9 hs100) hy5a_0) rfl hy104 .none rfl ?_
             rintro b105 o106 cs107 hc108 - rfl
             refine JL.loadH 0 az_3 rfl hc108 rfl .none rfl ?_
             obtain ⟨y109, hy109, hF⟩ := bind_some hF
             refine JL.callS (c_law13_has n H100 y8.1 y8a_v0 (SL.mono RInt.mono hs100 hy8a_0) y104 y109 hy109) rfl en_26 .none rfl ?_
             refine JL.not rfl .none rfl ?_
             refine JL.done hQ ?_
             refine JQ.go ?_
             refine JC.fresh (fun f => f 7 = .int .i64 y3.1 ∧ f 11 = y5a_v0 ∧ f 13 = y8a_v0 ∧ f 15 = .pointer (some ⟨b12, 0, none⟩) ∧ f 17 = .pointer (some ⟨b14, 0, none⟩) ∧ f 19 = .int .i64 x_99 ∧ f 120 = .bool (!y109)) ⟨rfl, rfl, rfl, rfl, rfl, rfl, rfl⟩ ?_
             rintro f ⟨hf7, hf11, hf13, hf15, hf17, hf19, hf120⟩
             refine (JC.norm (i := 7) hf7 (JC.norm (i := 11) hf11 (JC.norm (i := 13) hf13 (JC.norm (i := 15) hf15 (JC.norm (i := 17) hf17 (JC.norm (i := 19) hf19 (JC.norm (i := 120) hf120 ?_)))))))
             rcases ite_some hF with ⟨hc110, hF⟩ | ⟨hc110, hF⟩
             ·refine JC.cond_t (b := (!y109)) rfl hc110 ?_
              refine JC.seq ?_
              refine JC.region (by rfl) ?_
              intro hQ
              refine JL.assign .none rfl ?_
              refine JL.done hQ ?_
              refine JQ.go ?_
              refine JC.ret ?_
              refine JQ.ret_block ?_
              refine JQ.ret_then ?_
              refine JQ.ret_then ?_
              refine JQ.ret_block ?_
              refine JQ.ret_join ?_
              refine JQ.ret_then ?_
              obtain rfl := Option.some.inj hF
              have ehr101 := hr101 _ rfl
              subst ehr101
              have hF := hKr78
              try dsimp only at hF
              obtain rfl := Option.some.inj hF
              exact JQ.outS rfl (.tmp .nil) rfl
             ·refine JC.cond_f (b := (!y109)) rfl hc110 ?_
              refine JC.skip ?_
              refine JQ.normal_block ?_
              refine JQ.go ?_
              refine JC.region (by rfl) ?_
              intro hQ
              refine JL.move .none rfl ?_
              refine JL.bin rfl rfl rfl .none rfl ?_
              refine JL.assign .none rfl ?_
              refine JL.done hQ ?_
              obtain rfl := Option.some.inj hF
              exact JQ.next rfl ⟨rfl, rfl, rfl, rfl, rfl, rfl, rfl, rfl, hs100⟩
            ·refine JC.cond_f (b := decide (x_99 < (y5.1.length : Int))) rfl hc103 ?_
             refine JC.exit ?_
             refine JQ.exit_then ?_
             refine JQ.exit_then ?_
             refine JQ.exit_block ?_
             obtain rfl := Option.some.inj hF
             have ehr101 := hr101 _ rfl
             subst ehr101
             exact JQ.join () ⟨rfl, rfl, rfl, rfl, rfl, hs100, rfl⟩
           ·rintro _ H77 f bs gs ⟨hf7, hf15, hf17, rfl, rfl, hs77, rfl⟩
            have hF := hKr78
            try dsimp only at hF
            refine (JQ.norm (i := 7) hf7 (JQ.norm (i := 15) hf15 (JQ.norm (i := 17) hf17 ?_)))
            refine JQ.go ?_
            refine JC.seq ?_
            refine JC.region (by rfl) ?_
            intro hQ
            refine JL.move .none rfl ?_
            refine JL.bin rfl rfl rfl .none rfl ?_
            refine JL.move .none rfl ?_
            refine JL.cut 6 (fun f => f 15 = .pointer (some ⟨b12, 0, none⟩) ∧ f 17 = .pointer (some ⟨b14, 0, none⟩) ∧ f 129 = .bool ((decide (1 ≤ y3.1)) && (decide (y13.1.Low ≤ y11.1.Low)))) ?_ ?_
            ·intro hJ111
             rcases bcases (decide (1 ≤ y3.1)) with hc112 | hc112
             ·skip
              refine JL.fieldAddr fo_49_0 rfl (.some rfl rfl rfl hc112) rfl ?_
              refine JL.loadOwn 0 az_3 rfl rfl rfl (.some rfl rfl rfl hc112) rfl ?_
              refine JL.fieldAddr fo_49_0 rfl (.some rfl rfl rfl hc112) rfl ?_
              refine JL.loadOwn 1 az_3 rfl rfl rfl (.some rfl rfl rfl hc112) rfl ?_
              refine JL.bin rfl rfl rfl (.some rfl rfl rfl hc112) rfl ?_
              refine JL.pick_t (b := decide (1 ≤ y3.1)) rfl hc112 .none rfl ?_
              exact hJ111 _ ⟨rfl, rfl, and_t hc112 rfl⟩
             ·skip
              refine JL.skip (.bool rfl rfl rfl hc112) rfl ?_
              refine JL.skip (.bool rfl rfl rfl hc112) rfl ?_
              refine JL.skip (.bool rfl rfl rfl hc112) rfl ?_
              refine JL.skip (.bool rfl rfl rfl hc112) rfl ?_
              refine JL.skip (.bool rfl rfl rfl hc112) rfl ?_
              refine JL.pick_f (b := decide (1 ≤ y3.1)) rfl hc112 .none rfl ?_
              exact hJ111 _ ⟨rfl, rfl, and_f hc112 rfl⟩
            ·rintro f ⟨hf15, hf17, hf129⟩
             refine (JL.norm (i := 15) hf15 (JL.norm (i := 17) hf17 (JL.norm (i := 129) hf129 ?_)))
             refine JL.move .none rfl ?_
             refine JL.cut 6 (fun f => f 136 = .bool (((decide (1 ≤ y3.1)) && (decide (y13.1.Low ≤ y11.1.Low))) && (decide (y11.1.High ≤ y13.1.High)))) ?_ ?_
             ·intro hJ113
              rcases bcases ((decide (1 ≤ y3.1)) && (decide (y13.1.Low ≤ y11.1.Low))) with hc114 | hc114
              ·skip
               refine JL.fieldAddr fo_49_1 rfl (.some rfl rfl rfl hc114) rfl ?_
               refine JL.loadOwn 1 az_3 rfl rfl rfl (.some rfl rfl rfl hc114) rfl ?_
               refine JL.fieldAddr fo_49_1 rfl (.some rfl rfl rfl hc114) rfl ?_
               refine JL.loadOwn 0 az_3 rfl rfl rfl (.some rfl rfl rfl hc114) rfl ?_
               refine JL.bin rfl rfl rfl (.some rfl rfl rfl hc114) rfl ?_
               refine JL.pick_t (b := ((decide (1 ≤ y3.1)) && (decide (y13.1.Low ≤ y11.1.Low)))) rfl hc114 .none rfl ?_
               exact hJ113 _ (and_t hc114 rfl)
              ·skip
               refine JL.skip (.bool rfl rfl rfl hc114) rfl ?_
               refine JL.skip (.bool rfl rfl rfl hc114) rfl ?_
               refine JL.skip (.bool rfl rfl rfl hc114) rfl ?_
               refine JL.skip (.bool rfl rfl rfl hc114) rfl ?_
               refine JL.skip (.bool rfl rfl rfl hc114) rfl ?_
               refine JL.pick_f (b := ((decide (1 ≤ y3.1)) && (decide (y13.1.Low ≤ y11.1.Low)))) rfl hc114 .none rfl ?_
               exact hJ113 _ (and_f hc114 rfl)
             ·rintro f hf136
              refine (JL.norm (i := 136) hf136 ?_)
              refine JL.assign .none rfl ?_
              refine JL.done hQ ?_
              refine JQ.go ?_
              refine JC.ret ?_
              obtain rfl := Option.some.inj hF
              exact JQ.outS rfl (.tmp .nil) rfl

-- 37 ferrule/counts.Reads$1
def F_counts_Reads_1 (n : Nat) (a0 : Blow) (force : Int) (c_0 : Int) : Option Bool :=
 some (decide (c_0 ≤ force))
set_option maxRecDepth 100000 in
set_option maxHeartbeats 40000000 in
theorem c_counts_Reads_1 (n : Nat) (H : Hp) (a0 : Blow) (force : Int) (c_0 : Int) (c_0_b : Nat) (c_0_c : Cells H c_0_b 0 [.int .i64 c_0]) (y : Bool) (hF : F_counts_Reads_1 n a0 force c_0 = some y) : SC Try.prog 37 [.agg [.int .i64 a0.At, .int .i64 a0.Force.Low, .int .i64 a0.Force.High].toArray, .int .i64 force, .pointer (some ⟨c_0_b, 0, none⟩)] (.bool y) H := by
 rw [F_counts_Reads_1] at hF
 refine SC.of (N := 9) Try.func37 rfl rfl rfl fun w => ?_
 refine JC.seq ?_
 refine JC.region (by rfl) ?_
 intro hQ
 refine JL.box (cs := [.int .i64 a0.At, .int .i64 a0.Force.Low, .int .i64 a0.Force.High]) rfl .none rfl ?_
 intro b1
 refine JL.assign .none rfl ?_
 refine JL.done hQ ?_
 refine JQ.go ?_
 refine JC.seq ?_
 refine JC.region (by rfl) ?_
 intro hQ
 refine JL.move .none rfl ?_
 refine JL.loadH 0 az_3 rfl c_0_c rfl .none rfl ?_
 refine JL.bin rfl rfl rfl .none rfl ?_
 refine JL.assign .none rfl ?_
 refine JL.done hQ ?_
 refine JQ.go ?_
 refine JC.ret ?_
 obtain rfl := Option.some.inj hF
 exact JQ.outS rfl (.tmp .nil) rfl

-- 17 ferrule/counts.Reads
noncomputable def F_counts_Reads (n : Nat) (r : Run) (limit : Int) : Option (Span × Int) :=
 (F_counts_within n limit 0 99).bind fun y5 => (F_counts_bounds n r y5 (fun a0_ a1_ => F_counts_Reads_1 n a0_ a1_ limit)).bind fun y8 => some (y8.1, y8.2)
set_option maxRecDepth 100000 in
set_option maxHeartbeats 40000000 in
theorem c_counts_Reads (n : Nat) (H : Hp) (r : Run) (r_v0 : Value) (hr_0 : SL H 7 R_Section r_v0 r.Canopy.Frame.Sections) (r_v7 : Value) (hr_7 : SL H 2 R_Span r_v7 r.Canopy.Ribs) (r_v8 : Value) (hr_8 : SL H 1 RInt r_v8 r.Canopy.Shares) (r_v9 : Value) (hr_9 : SL H 3 R_Blow r_v9 r.Blows) (r_v10 : Value) (hr_10 : SL H 2 R_Meter r_v10 r.Meters) (limit : Int) (y : Span × Int) (hF : F_counts_Reads n r limit = some y) : SC Try.prog 17 [.agg [r_v0, .int .i64 r.Canopy.Frame.Low, .int .i64 r.Canopy.Frame.High, .int .i64 r.Canopy.Frame.Ease.Num, .int .i64 r.Canopy.Frame.Ease.Den, .int .i64 r.Canopy.Frame.Rod, .int .i64 r.Canopy.Frame.Case, r_v7, r_v8, r_v9, r_v10, .int .i64 r.Wrong].toArray, .int .i64 limit] (.tuple [.agg [.int .i64 y.1.Low, .int .i64 y.1.High].toArray, .int .i64 y.2].toArray) H := by
 rw [F_counts_Reads] at hF
 refine SC.of (N := 13) Try.func17 rfl rfl rfl fun w => ?_
 refine JC.seq ?_
 refine JC.region (by rfl) ?_
 intro hQ
 refine JL.box (cs := [r_v0, .int .i64 r.Canopy.Frame.Low, .int .i64 r.Canopy.Frame.High, .int .i64 r.Canopy.Frame.Ease.Num, .int .i64 r.Canopy.Frame.Ease.Den, .int .i64 r.Canopy.Frame.Rod, .int .i64 r.Canopy.Frame.Case, r_v7, r_v8, r_v9, r_v10, .int .i64 r.Wrong]) rfl .none rfl ?_
 intro b1
 refine JL.box (cs := [.int .i64 limit]) rfl .none rfl ?_
 intro b2
 refine JL.alloc ze_49 .none rfl ?_
 intro b3
 refine JL.assign .none rfl ?_
 refine JL.done hQ ?_
 refine JQ.go ?_
 refine JC.seq ?_
 obtain ⟨y5, hy5, hF⟩ := bind_some hF
 obtain ⟨y8, hy8, hF⟩ := bind_some hF
 refine JC.mixed 9 9 #[false, false, false, false, false, false, false, false, false] [(b1, .cells [r_v0, .int .i64 r.Canopy.Frame.Low, .int .i64 r.Canopy.Frame.High, .int .i64 r.Canopy.Frame.Ease.Num, .int .i64 r.Canopy.Frame.Ease.Den, .int .i64 r.Canopy.Frame.Rod, .int .i64 r.Canopy.Frame.Case, r_v7, r_v8, r_v9, r_v10, .int .i64 r.Wrong].toArray 34)] (by rfl) mo_ (by kernel_rfl) (by kernel_rfl) ?_
 intro hQ hE
 refine JA.take 0 (listed' := #[true, false, false, false, false, false, false, false, false]) hQ rfl (by kernel_rfl) (by kernel_rfl) (by kernel_rfl) (by kernel_rfl) (by kernel_rfl) hE (HSub.refl _) (.cons _ (.cons _ (.cons_cons _ (List.nil_sublist _)))) ?_
 refine JL.loadOwn 0 az_34 rfl rfl rfl .none rfl ?_
 refine JA.cont ?_
 refine JA.take 3 (listed' := #[true, false, false, true, false, false, false, false, false]) hQ rfl (by kernel_rfl) (by kernel_rfl) (by kernel_rfl) (by kernel_rfl) (by kernel_rfl) hE (HSub.refl _) (.cons _ (.cons _ (.cons_cons _ (List.nil_sublist _)))) ?_
 refine JL.makeFunc .none rfl ?_
 refine JA.cont ?_
 refine JA.many [1] (by kernel_rfl) (by simp) (all_one ⟨_, #[true, true, false, true, false, false, false, false, false], rfl, (by kernel_rfl), ?_⟩)
 refine JL.loadOwn 1 az_3 rfl rfl rfl .none rfl ?_
 refine JA.after hE (HSub.refl _) (.cons _ (.cons _ (.cons_cons _ (List.nil_sublist _)))) ?_
 refine JA.many [2] (by kernel_rfl) (by simp) (all_one ⟨_, #[true, true, true, true, false, false, false, false, false], rfl, (by kernel_rfl), ?_⟩)
 refine JL.callS (c_counts_within n H limit 0 99 y5 hy5) rfl en_31 .none rfl ?_
 refine JA.after hE (HSub.refl _) (.cons _ (.cons _ (.cons_cons _ (List.nil_sublist _)))) ?_
 refine JA.many [4] (by kernel_rfl) (by simp) (all_one ⟨_, #[true, true, true, true, true, false, false, false, false], rfl, (by kernel_rfl), ?_⟩)
 refine JL.freezeC 1 (l := [.int .i64 limit]) rfl ?_
 intro H17 hs17 hc18
 refine JL.callS (c_counts_bounds n H17 r r_v0 (SL.mono R_Section_mono hs17 hr_0) r_v7 (SL.mono R_Span_mono hs17 hr_7) r_v8 (SL.mono RInt.mono hs17 hr_8) r_v9 (SL.mono R_Blow_mono hs17 hr_9) r_v10 (SL.mono R_Meter_mono hs17 hr_10) y5 (fun a0_ a1_ => F_counts_Reads_1 n a0_ a1_ limit) 37 [.pointer (some ⟨b2, 0, none⟩)] en_37 (fun H' hs' a0_ a1_ y' hy' => c_counts_Reads_1 n H' a0_ a1_ limit b2 (Cells.mono hs' hc18) y' hy') y8 hy8) rfl en_28 .none rfl ?_
 refine JA.after hE hs17 (.cons _ (.cons_cons _ (List.nil_sublist _))) ?_
 refine JA.take 5 (listed' := #[true, true, true, true, true, true, false, false, false]) hQ rfl (by kernel_rfl) (by kernel_rfl) (by kernel_rfl) (by kernel_rfl) (by kernel_rfl) hE hs17 (.cons _ (.cons_cons _ (List.nil_sublist _))) ?_
 refine JL.extract rfl rfl .none rfl ?_
 refine JA.cont ?_
 refine JA.take 6 (listed' := #[true, true, true, true, true, true, true, false, false]) hQ rfl (by kernel_rfl) (by kernel_rfl) (by kernel_rfl) (by kernel_rfl) (by kernel_rfl) hE hs17 (.cons _ (.cons_cons _ (List.nil_sublist _))) ?_
 refine JL.extract rfl rfl .none rfl ?_
 refine JA.cont ?_
 refine JA.many [7] (by kernel_rfl) (by simp) (all_one ⟨_, #[true, true, true, true, true, true, true, true, false], rfl, (by kernel_rfl), ?_⟩)
 refine JL.storeOwn 0 (cs := [.int .i64 y8.1.Low, .int .i64 y8.1.High]) az_49 rfl rfl rfl (one_cons rfl (one_cons rfl one_nil)) rfl rfl .none ?_
 refine JA.after hE hs17 (.cons _ (.cons_cons _ (List.nil_sublist _))) ?_
 refine JA.take 8 (listed' := #[true, true, true, true, true, true, true, true, true]) hQ rfl (by kernel_rfl) (by kernel_rfl) (by kernel_rfl) (by kernel_rfl) (by kernel_rfl) hE hs17 (.cons _ (.cons_cons _ (List.nil_sublist _))) ?_
 refine JL.assign .none rfl ?_
 refine JA.cont ?_
 refine JA.done hQ (by kernel_rfl) ?_
 refine JQ.go ?_
 refine JC.ret ?_
 obtain rfl := Option.some.inj hF
 exact JQ.outS rfl (.cell 0 az_49 rfl rfl rfl (.tmp .nil)) rfl

end Go.Proofs.Ytcipdblhopffbaa
end
section
namespace Go.Proofs.Ytcipdblhopffbaa
open Go Go.RowKit Go.Dec
set_option linter.unusedVariables false
-- 19 ferrule/counts.Right
noncomputable def F_counts_Right_s1 (n : Nat) (meter : Int) (w52 : counts_test) : Int → List Int × Int → Option Int
 | n_175, (kl183, v184) => (F_counts_test_right n w52 kl183 meter).bind fun y197 => (if y197 = true then (some (w64 (n_175 + 1))) else (some n_175)).bind fun n_199 => some n_199
noncomputable def F_counts_Right (n : Nat) (r : Run) (meter : Int) : Option (Int × Int) :=
 (F_counts_within n meter 0 (w64 ((r.Meters.length : Int) - 1))).bind fun y4 => (F_counts_open n r y4 (fun a0_ a1_ => F_counts_none n a0_ a1_)).bind fun y5 => if (y5.2.2 != 0) = true then (some (0, y5.2.2)) else ((neM y5.2.1).bind fun _ => y5.1.bind fun w52 => ((permO (F_counts_Right_s1 n meter w52) 0 y5.2.1).bind fun z203 => match z203 with | n_175 => some n_175).bind fun n_129 => if (n_129 == (y5.2.1.length : Int)) = true then (some (1, 0)) else (if (n_129 == 0) = true then (some (2, 0)) else (some (3, 0))))
set_option maxRecDepth 100000 in
set_option maxHeartbeats 40000000 in
theorem c_counts_Right (n : Nat) (H : Hp) (r : Run) (r_v0 : Value) (hr_0 : SL H 7 R_Section r_v0 r.Canopy.Frame.Sections) (r_v7 : Value) (hr_7 : SL H 2 R_Span r_v7 r.Canopy.Ribs) (r_v8 : Value) (hr_8 : SL H 1 RInt r_v8 r.Canopy.Shares) (r_v9 : Value) (hr_9 : SL H 3 R_Blow r_v9 r.Blows) (r_v10 : Value) (hr_10 : SL H 2 R_Meter r_v10 r.Meters) (meter : Int) (y : Int × Int) (hF : F_counts_Right n r meter = some y) : SC Try.prog 19 [.agg [r_v0, .int .i64 r.Canopy.Frame.Low, .int .i64 r.Canopy.Frame.High, .int .i64 r.Canopy.Frame.Ease.Num, .int .i64 r.Canopy.Frame.Ease.Den, .int .i64 r.Canopy.Frame.Rod, .int .i64 r.Canopy.Frame.Case, r_v7, r_v8, r_v9, r_v10, .int .i64 r.Wrong].toArray, .int .i64 meter] (.tuple [.int .i64 y.1, .int .i64 y.2].toArray) H := by
 rw [F_counts_Right] at hF
 refine SC.of (N := 45) Try.func19 rfl rfl rfl fun w => ?_
 refine JC.seq ?_
 refine JC.region (by rfl) ?_
 intro hQ
 refine JL.box (cs := [r_v0, .int .i64 r.Canopy.Frame.Low, .int .i64 r.Canopy.Frame.High, .int .i64 r.Canopy.Frame.Ease.Num, .int .i64 r.Canopy.Frame.Ease.Den, .int .i64 r.Canopy.Frame.Rod, .int .i64 r.Canopy.Frame.Case, r_v7, r_v8, r_v9, r_v10, .int .i64 r.Wrong]) rfl .none rfl ?_
 intro b1
 refine JL.assign .none rfl ?_
 refine JL.assign .none rfl ?_
 refine JL.done hQ ?_
 refine JQ.go ?_
 refine JC.seq ?_
 obtain ⟨y4, hy4, hF⟩ := bind_some hF
 obtain ⟨y5, hy5, hF⟩ := bind_some hF
 refine JC.mixed 15 15 #[false, false, false, false, false, false, false, false, false, false, false, false, false, false, false] [(b1, .cells [r_v0, .int .i64 r.Canopy.Frame.Low, .int .i64 r.Canopy.Frame.High, .int .i64 r.Canopy.Frame.Ease.Num, .int .i64 r.Canopy.Frame.Ease.Den, .int .i64 r.Canopy.Frame.Rod, .int .i64 r.Canopy.Frame.Case, r_v7, r_v8, r_v9, r_v10, .int .i64 r.Wrong].toArray 34)] (by rfl) mo_ (by kernel_rfl) (by kernel_rfl) ?_
 intro hQ hE
 refine JA.take 0 (listed' := #[true, false, false, false, false, false, false, false, false, false, false, false, false, false, false]) hQ rfl (by kernel_rfl) (by kernel_rfl) (by kernel_rfl) (by kernel_rfl) (by kernel_rfl) hE (HSub.refl _) (.cons_cons _ (List.nil_sublist _)) ?_
 refine JL.loadOwn 0 az_34 rfl rfl rfl .none rfl ?_
 refine JA.cont ?_
 refine JA.take 1 (listed' := #[true, true, false, false, false, false, false, false, false, false, false, false, false, false, false]) hQ rfl (by kernel_rfl) (by kernel_rfl) (by kernel_rfl) (by kernel_rfl) (by kernel_rfl) hE (HSub.refl _) (.cons_cons _ (List.nil_sublist _)) ?_
 refine JL.move .none rfl ?_
 refine JA.cont ?_
 refine JA.take 2 (listed' := #[true, true, true, false, false, false, false, false, false, false, false, false, false, false, false]) hQ rfl (by kernel_rfl) (by kernel_rfl) (by kernel_rfl) (by kernel_rfl) (by kernel_rfl) hE (HSub.refl _) (.cons_cons _ (List.nil_sublist _)) ?_
 refine JL.fieldAddr fo_34_2 rfl .none rfl ?_
 refine JA.cont ?_
 refine JA.take 3 (listed' := #[true, true, true, true, false, false, false, false, false, false, false, false, false, false, false]) hQ rfl (by kernel_rfl) (by kernel_rfl) (by kernel_rfl) (by kernel_rfl) (by kernel_rfl) hE (HSub.refl _) (.cons_cons _ (List.nil_sublist _)) ?_
 refine JL.loadOwn 0 az_32 rfl rfl rfl .none rfl ?_
 refine JA.cont ?_
 refine JA.take 4 (listed' := #[true, true, true, true, true, false, false, false, false, false, false, false, false, false, false]) hQ rfl (by kernel_rfl) (by kernel_rfl) (by kernel_rfl) (by kernel_rfl) (by kernel_rfl) hE (HSub.refl _) (.cons_cons _ (List.nil_sublist _)) ?_
 refine JL.lenSL (R := R_Meter) ul_32 hr_10 .none rfl ?_
 refine JA.cont ?_
 refine JA.take 5 (listed' := #[true, true, true, true, true, true, false, false, false, false, false, false, false, false, false]) hQ rfl (by kernel_rfl) (by kernel_rfl) (by kernel_rfl) (by kernel_rfl) (by kernel_rfl) hE (HSub.refl _) (.cons_cons _ (List.nil_sublist _)) ?_
 refine JL.bin rfl rfl rfl .none rfl ?_
 refine JA.cont ?_
 refine JA.many [6] (by kernel_rfl) (by simp) (all_one ⟨_, #[true, true, true, true, true, true, true, false, false, false, false, false, false, false, false], rfl, (by kernel_rfl), ?_⟩)
 refine JL.callS (c_counts_within n H meter 0 (w64 ((r.Meters.length : Int) - 1)) y4 hy4) rfl en_31 .none rfl ?_
 refine JA.after hE (HSub.refl _) (.cons_cons _ (List.nil_sublist _)) ?_
 refine JA.many [7] (by kernel_rfl) (by simp) (all_one ⟨_, #[true, true, true, true, true, true, true, true, false, false, false, false, false, false, false], rfl, (by kernel_rfl), ?_⟩)
 refine JL.callH (c_counts_open n H r r_v0 hr_0 r_v7 hr_7 r_v8 hr_8 r_v9 hr_9 r_v10 hr_10 y4 (fun a0_ a1_ => F_counts_none n a0_ a1_) 32 [] en_32 (fun H' hs' a0_ a1_ y' hy' => c_counts_none n H' a0_ a1_ y' hy') y5 hy5) rfl en_30 .none rfl ?_
 rintro H10 vv11 hs10 ⟨y5a_v0, y5b_v0, rfl, hy5a_0, hy5b_0⟩
 refine JA.after hE hs10 (.cons_cons _ (List.nil_sublist _)) ?_
 refine JA.take 8 (listed' := #[true, true, true, true, true, true, true, true, true, false, false, false, false, false, false]) hQ rfl (by kernel_rfl) (by kernel_rfl) (by kernel_rfl) (by kernel_rfl) (by kernel_rfl) hE hs10 (.cons_cons _ (List.nil_sublist _)) ?_
 refine JL.move .none rfl ?_
 refine JA.cont ?_
 refine JA.take 9 (listed' := #[true, true, true, true, true, true, true, true, true, true, false, false, false, false, false]) hQ rfl (by kernel_rfl) (by kernel_rfl) (by kernel_rfl) (by kernel_rfl) (by kernel_rfl) hE hs10 (.cons_cons _ (List.nil_sublist _)) ?_
 refine JL.extract rfl rfl .none rfl ?_
 refine JA.cont ?_
 refine JA.take 10 (listed' := #[true, true, true, true, true, true, true, true, true, true, true, false, false, false, false]) hQ rfl (by kernel_rfl) (by kernel_rfl) (by kernel_rfl) (by kernel_rfl) (by kernel_rfl) hE hs10 (.cons_cons _ (List.nil_sublist _)) ?_
 refine JL.extract rfl rfl .none rfl ?_
 refine JA.cont ?_
 refine JA.take 11 (listed' := #[true, true, true, true, true, true, true, true, true, true, true, true, false, false, false]) hQ rfl (by kernel_rfl) (by kernel_rfl) (by kernel_rfl) (by kernel_rfl) (by kernel_rfl) hE hs10 (.cons_cons _ (List.nil_sublist _)) ?_
 refine JL.extract rfl rfl .none rfl ?_
 refine JA.cont ?_
 refine JA.take 12 (listed' := #[true, true, true, true, true, true, true, true, true, true, true, true, true, false, false]) hQ rfl (by kernel_rfl) (by kernel_rfl) (by kernel_rfl) (by kernel_rfl) (by kernel_rfl) hE hs10 (.cons_cons _ (List.nil_sublist _)) ?_
 refine JL.assign .none rfl ?_
 refine JA.cont ?_
 refine JA.take 13 (listed' := #[true, true, true, true, true, true, true, true, true, true, true, true, true, true, false]) hQ rfl (by kernel_rfl) (by kernel_rfl) (by kernel_rfl) (by kernel_rfl) (by kernel_rfl) hE hs10 (.cons_cons _ (List.nil_sublist _)) ?_
 refine JL.assign .none rfl ?_
 refine JA.cont ?_
 refine JA.take 14 (listed' := #[true, true, true, true, true, true, true, true, true, true, true, true, true, true, true]) hQ rfl (by kernel_rfl) (by kernel_rfl) (by kernel_rfl) (by kernel_rfl) (by kernel_rfl) hE hs10 (.cons_cons _ (List.nil_sublist _)) ?_
 refine JL.assign .none rfl ?_
 refine JA.cont ?_
 refine JA.done hQ (by kernel_rfl) ?_
 refine JQ.go ?_
 refine JC.fresh (fun f => f 1 = .int .i64 meter ∧ f 4 = .int .i64 0 ∧ f 5 = .int .i64 0 ∧ f 6 = y5a_v0 ∧ f 7 = y5b_v0 ∧ f 8 = .int .i64 y5.2.2) ⟨rfl, rfl, rfl, rfl, rfl, rfl⟩ ?_
 rintro f ⟨hf1, hf4, hf5, hf6, hf7, hf8⟩
 refine (JC.norm (i := 1) hf1 (JC.norm (i := 4) hf4 (JC.norm (i := 5) hf5 (JC.norm (i := 6) hf6 (JC.norm (i := 7) hf7 (JC.norm (i := 8) hf8 ?_))))))
 refine JC.seq ?_
 refine JC.seq ?_
 refine JC.region (by rfl) ?_
 intro hQ
 refine JL.move .none rfl ?_
 refine JL.bin rfl rfl rfl .none rfl ?_
 refine JL.done hQ ?_
 refine JQ.go ?_
 rcases ite_some hF with ⟨hc12, hF⟩ | ⟨hc12, hF⟩
 ·refine JC.cond_t (b := (y5.2.2 != 0)) rfl hc12 ?_
  refine JC.seq ?_
  refine JC.region (by rfl) ?_
  intro hQ
  refine JL.move .none rfl ?_
  refine JL.assign .none rfl ?_
  refine JL.assign .none rfl ?_
  refine JL.done hQ ?_
  refine JQ.go ?_
  refine JC.ret ?_
  refine JQ.ret_then ?_
  obtain rfl := Option.some.inj hF
  exact JQ.outS rfl (.tmp (.tmp .nil)) rfl
 ·refine JC.cond_f (b := (y5.2.2 != 0)) rfl hc12 ?_
  refine JC.skip ?_
  refine JQ.go ?_
  refine JC.seq ?_
  refine JC.region (by rfl) ?_
  intro hQ
  refine JL.assign .none rfl ?_
  refine JL.done hQ ?_
  refine JQ.go ?_
  refine JC.seq ?_
  refine JC.seq ?_
  refine JC.region (by rfl) ?_
  intro hQ
  refine JL.move .none rfl ?_
  obtain ⟨u18, hu18, hF⟩ := bind_some hF
  obtain ⟨mb19, es20, ck21, hv22, hH23, hm24⟩ := MD.get hy5b_0 (neM_some hu18)
  refine JL.rangeM mp_79 hv22 (.data hH23) hm24 .none rfl ?_
  intro r13 sn14 seen15 cz16 hI17
  refine JL.done hQ ?_
  refine JQ.go ?_
  obtain ⟨w52, hw52, hF⟩ := bind_some hF
  obtain ⟨b53, o54, cs55, hv56, hc57, ⟨w52_v0, w52_v7, w52_v8, w52_v9, w52_v10, w52_v12, rfl, hw52_0, hw52_7, hw52_8, hw52_9, hw52_10, hw52_12⟩⟩ := (show PT H10 R_counts_test y5a_v0 (some w52) by rw [← hw52]; exact hy5a_0)
  subst hv56
  obtain ⟨r131, hlr131, hKr131⟩ := bind_some hF
  refine JC.join (fun (n_129 : Int) H130 f bs gs => f 7 = y5b_v0 ∧ f 9 = .int .i64 n_129 ∧ bs = [] ∧ gs = [] ∧ HSub H10 H130 ∧ n_129 = r131) ?_ ?_
  ·skip
   obtain ⟨rs177, hper178, hl179⟩ := bind_some hlr131
   refine JC.block ?_
   refine JC.mask [true, false] [] ?_
   refine JC.mapLoop (srt_nodup hI17.srt) hper178 (fun (dd : Mp) (n_175 : Int) H176 f bs gs => ∃ (sn_r13 : Nat) (se_r13 : Array Nat) (cz_r13 : Nat), f 1 = .int .i64 meter ∧ f 6 = .pointer (some ⟨b53, o54, none⟩) ∧ f 7 = y5b_v0 ∧ f 9 = .int .i64 n_175 ∧ f 27 = .pointer (some ⟨r13, 0, none⟩) ∧ bs = [(r13, .mapIter (some mb19) sn_r13 se_r13 cz_r13)] ∧ gs = [] ∧ IR 6 ekA y5.2.1 y5.2.1 es20 ck21 sn_r13 se_r13 cz_r13 dd ∧ HSub H10 H176) ⟨sn14, seen15, cz16, rfl, rfl, rfl, rfl, rfl, rfl, rfl, hI17, (HSub.refl _)⟩ ?_
   rintro dd n_175 H176 f bs gs ⟨sn_r13, se_r13, cz_r13, hf1, hf6, hf7, hf9, hf27, rfl, rfl, hI_r13, hs176⟩ hend180 hgo181
   refine (JC.norm (i := 1) hf1 (JC.norm (i := 6) hf6 (JC.norm (i := 7) hf7 (JC.norm (i := 9) hf9 (JC.norm (i := 27) hf27 ?_)))))
   refine JC.seq ?_
   refine JC.region (by rfl) ?_
   intro hQ
   refine JL.nextM 0 kt_90 rfl rfl (.data (hs176.le _ _ hH23)) hm24 hI_r13 .none rfl ?_ ?_
   ·intro hp182
    refine JL.extract rfl rfl .none rfl ?_
    refine JL.done hQ ?_
    refine JQ.go ?_
    refine JC.seq ?_
    refine JC.cond_f (b := false) rfl rfl ?_
    refine JC.exit ?_
    refine JQ.exit_then ?_
    refine JQ.exit_then ?_
    refine JQ.exit_block ?_
    have er194 := hend180 hp182
    subst er194
    obtain rfl := Option.some.inj hl179
    refine JQ.mask [false] [] ?_
    exact JQ.join n_175 ⟨rfl, rfl, rfl, rfl, hs176, rfl⟩
   ·rintro ⟨kl183, v184⟩ seen185 cz186 hx187 hxm188 hxn189 hI190 hE191
    have kok195 := (hm24.okk _ hxm188)
    dsimp only at kok195
    obtain ⟨sp193, hst192⟩ := hgo181 (kl183, v184) hx187 hxn189
    have hF := hst192
    rw [F_counts_Right_s1] at hF
    refine JL.extract rfl rfl .none rfl ?_
    refine JL.done hQ ?_
    refine JQ.go ?_
    refine JC.seq ?_
    refine JC.cond_t (b := true) rfl rfl ?_
    refine JC.skip ?_
    refine JQ.go ?_
    refine JC.block ?_
    refine JC.seq ?_
    refine JC.region (by rfl) ?_
    intro hQ
    refine JL.entryIt (y := (kl183, v184)) 0 rfl rfl (.data (hs176.le _ _ hH23)) hm24 hE191 .none rfl ?_
    refine JL.extract rfl rfl .none rfl ?_
    refine JL.alloc ze_90 .none rfl ?_
    intro b196
    refine JL.storeArr (l := [0, 0, 0, 0, 0, 0]) (l' := kl183) 0 az_90 rfl rfl rfl rfl kok195.1 .none ?_
    refine JL.done hQ ?_
    refine JQ.go ?_
    refine JC.seq ?_
    refine JC.region (by rfl) ?_
    intro hQ
    refine JL.move .none rfl ?_
    refine JL.loadArr (l := kl183) 0 az_90 rfl rfl kok195.1 .none rfl ?_
    refine JL.move .none rfl ?_
    obtain ⟨y197, hy197, hF⟩ := bind_some hF
    refine JL.callS (c_counts_test_right n H176 w52 w52_v0 (SL.mono R_Section_mono hs176 hw52_0) w52_v7 (SL.mono R_Span_mono hs176 hw52_7) w52_v8 (SL.mono RInt.mono hs176 hw52_8) w52_v9 (SL.mono R_Blow_mono hs176 hw52_9) w52_v10 (SL.mono R_Meter_mono hs176 hw52_10) w52_v12 (FN_76.mono hs176 hw52_12) b53 o54 (Cells.mono hs176 hc57) kl183 kok195.1 meter y197 hy197) rfl en_38 .none rfl ?_
    refine JL.done hQ ?_
    refine JQ.go ?_
    refine JC.fresh (fun f => f 1 = .int .i64 meter ∧ f 6 = .pointer (some ⟨b53, o54, none⟩) ∧ f 7 = y5b_v0 ∧ f 9 = .int .i64 n_175 ∧ f 27 = .pointer (some ⟨r13, 0, none⟩) ∧ f 35 = .bool y197) ⟨rfl, rfl, rfl, rfl, rfl, rfl⟩ ?_
    rintro f ⟨hf1, hf6, hf7, hf9, hf27, hf35⟩
    refine (JC.norm (i := 1) hf1 (JC.norm (i := 6) hf6 (JC.norm (i := 7) hf7 (JC.norm (i := 9) hf9 (JC.norm (i := 27) hf27 (JC.norm (i := 35) hf35 ?_))))))
    obtain ⟨r201, hlr201, hKr201⟩ := bind_some hF
    refine JC.join (fun (n_199 : Int) H200 f bs gs => f 1 = .int .i64 meter ∧ f 6 = .pointer (some ⟨b53, o54, none⟩) ∧ f 7 = y5b_v0 ∧ f 9 = .int .i64 n_199 ∧ f 27 = .pointer (some ⟨r13, 0, none⟩) ∧ bs = [(r13, .mapIter (some mb19) sn_r13 seen185 cz186)] ∧ gs = [] ∧ HSub H176 H200 ∧ n_199 = r201) ?_ ?_
    ·have hF := hlr201
     rcases ite_some hF with ⟨hc202, hF⟩ | ⟨hc202, hF⟩
     ·refine JC.cond_t (b := y197) rfl hc202 ?_
      refine JC.region (by rfl) ?_
      intro hQ
      refine JL.move .none rfl ?_
      refine JL.bin rfl rfl rfl .none rfl ?_
      refine JL.assign .none rfl ?_
      refine JL.done hQ ?_
      obtain rfl := Option.some.inj hF
      refine JQ.mask [false, true] [] ?_
      exact JQ.join (w64 (n_175 + 1)) ⟨rfl, rfl, rfl, rfl, rfl, rfl, rfl, (HSub.refl _), rfl⟩
     ·refine JC.cond_f (b := y197) rfl hc202 ?_
      refine JC.skip ?_
      obtain rfl := Option.some.inj hF
      refine JQ.mask [false, true] [] ?_
      exact JQ.join n_175 ⟨rfl, rfl, rfl, rfl, rfl, rfl, rfl, (HSub.refl _), rfl⟩
    ·rintro n_199 H200 f bs gs ⟨hf1, hf6, hf7, hf9, hf27, rfl, rfl, hs200, rfl⟩
     have hF := hKr201
     try dsimp only at hF
     refine (JQ.norm (i := 1) hf1 (JQ.norm (i := 6) hf6 (JQ.norm (i := 7) hf7 (JQ.norm (i := 9) hf9 (JQ.norm (i := 27) hf27 ?_)))))
     refine JQ.normal_block ?_
     obtain rfl := Option.some.inj hF
     exact JQ.mnext hx187 hxn189 hst192 ⟨sn_r13, seen185, cz186, rfl, rfl, rfl, rfl, rfl, rfl, rfl, hI190, (HSub.trans hs176 hs200)⟩
  ·rintro n_129 H130 f bs gs ⟨hf7, hf9, rfl, rfl, hs130, rfl⟩
   have hF := hKr131
   try dsimp only at hF
   refine (JQ.norm (i := 7) hf7 (JQ.norm (i := 9) hf9 ?_))
   refine JQ.go ?_
   refine JC.seq ?_
   refine JC.seq ?_
   refine JC.region (by rfl) ?_
   intro hQ
   refine JL.move .none rfl ?_
   refine JL.done hQ ?_
   refine JQ.go ?_
   refine JC.block ?_
   refine JC.seq ?_
   refine JC.region (by rfl) ?_
   intro hQ
   refine JL.move .none rfl ?_
   refine JL.lenMD mp_79 rfl (MD.mono hs130 hy5b_0) .none rfl ?_
   refine JL.bin rfl rfl rfl .none rfl ?_
   refine JL.assign .none rfl ?_
   refine JL.done hQ ?_
   refine JQ.go ?_
   rcases ite_some hF with ⟨hc204, hF⟩ | ⟨hc204, hF⟩
   ·refine JC.cond_t (b := (n_129 == (y5.2.1.length : Int))) rfl hc204 ?_
    refine JC.seq ?_
    refine JC.region (by rfl) ?_
    intro hQ
    refine JL.assign .none rfl ?_
    refine JL.assign .none rfl ?_
    refine JL.done hQ ?_
    refine JQ.go ?_
    refine JC.ret ?_
    refine JQ.ret_block ?_
    refine JQ.ret_then ?_
    obtain rfl := Option.some.inj hF
    exact JQ.outS rfl (.tmp (.tmp .nil)) rfl
   ·refine JC.cond_f (b := (n_129 == (y5.2.1.length : Int))) rfl hc204 ?_
    refine JC.seq ?_
    refine JC.region (by rfl) ?_
    intro hQ
    refine JL.bin rfl rfl rfl .none rfl ?_
    refine JL.assign .none rfl ?_
    refine JL.done hQ ?_
    refine JQ.go ?_
    rcases ite_some hF with ⟨hc205, hF⟩ | ⟨hc205, hF⟩
    ·refine JC.cond_t (b := (n_129 == 0)) rfl hc205 ?_
     refine JC.seq ?_
     refine JC.region (by rfl) ?_
     intro hQ
     refine JL.assign .none rfl ?_
     refine JL.assign .none rfl ?_
     refine JL.done hQ ?_
     refine JQ.go ?_
     refine JC.ret ?_
     refine JQ.ret_block ?_
     refine JQ.ret_then ?_
     obtain rfl := Option.some.inj hF
     exact JQ.outS rfl (.tmp (.tmp .nil)) rfl
    ·refine JC.cond_f (b := (n_129 == 0)) rfl hc205 ?_
     refine JC.skip ?_
     refine JQ.normal_block ?_
     refine JQ.go ?_
     refine JC.seq ?_
     refine JC.region (by rfl) ?_
     intro hQ
     refine JL.assign .none rfl ?_
     refine JL.assign .none rfl ?_
     refine JL.done hQ ?_
     refine JQ.go ?_
     refine JC.ret ?_
     obtain rfl := Option.some.inj hF
     exact JQ.outS rfl (.tmp (.tmp .nil)) rfl

-- 21 ferrule/counts.Fewest
noncomputable def F_counts_Fewest_s1 (n : Nat) (r : Run) : Int → List Int × Int → Option Int
 | least_125, (kl133, v134) => (F_counts_test_wrong n (counts_test.mk r (fun a0_ a1_ => F_counts_none n a0_ a1_)) kl133).bind fun y147 => some (min least_125 y147)
noncomputable def F_counts_Fewest (n : Nat) (r : Run) : Option (Int × Int) :=
 (F_counts_Check n r).bind fun y2 => if (y2 != 0) = true then (some (0, y2)) else ((F_counts_test_readings n (counts_test.mk r (fun a0_ a1_ => F_counts_none n a0_ a1_))).bind fun y22 => ((permO (F_counts_Fewest_s1 n r) (r.Meters.length : Int) y22).bind fun z148 => match z148 with | least_125 => some least_125).bind fun least_89 => some (least_89, 0))
set_option maxRecDepth 100000 in
set_option maxHeartbeats 40000000 in
theorem c_counts_Fewest (n : Nat) (H : Hp) (r : Run) (r_v0 : Value) (hr_0 : SL H 7 R_Section r_v0 r.Canopy.Frame.Sections) (r_v7 : Value) (hr_7 : SL H 2 R_Span r_v7 r.Canopy.Ribs) (r_v8 : Value) (hr_8 : SL H 1 RInt r_v8 r.Canopy.Shares) (r_v9 : Value) (hr_9 : SL H 3 R_Blow r_v9 r.Blows) (r_v10 : Value) (hr_10 : SL H 2 R_Meter r_v10 r.Meters) (y : Int × Int) (hF : F_counts_Fewest n r = some y) : SC Try.prog 21 [.agg [r_v0, .int .i64 r.Canopy.Frame.Low, .int .i64 r.Canopy.Frame.High, .int .i64 r.Canopy.Frame.Ease.Num, .int .i64 r.Canopy.Frame.Ease.Den, .int .i64 r.Canopy.Frame.Rod, .int .i64 r.Canopy.Frame.Case, r_v7, r_v8, r_v9, r_v10, .int .i64 r.Wrong].toArray] (.tuple [.int .i64 y.1, .int .i64 y.2].toArray) H := by
 rw [F_counts_Fewest] at hF
 refine SC.of (N := 32) Try.func21 rfl rfl rfl fun w => ?_
 refine JC.seq ?_
 refine JC.region (by rfl) ?_
 intro hQ
 refine JL.box (cs := [r_v0, .int .i64 r.Canopy.Frame.Low, .int .i64 r.Canopy.Frame.High, .int .i64 r.Canopy.Frame.Ease.Num, .int .i64 r.Canopy.Frame.Ease.Den, .int .i64 r.Canopy.Frame.Rod, .int .i64 r.Canopy.Frame.Case, r_v7, r_v8, r_v9, r_v10, .int .i64 r.Wrong]) rfl .none rfl ?_
 intro b1
 refine JL.assign .none rfl ?_
 refine JL.assign .none rfl ?_
 refine JL.done hQ ?_
 refine JQ.go ?_
 refine JC.seq ?_
 refine JC.seq ?_
 refine JC.region (by rfl) ?_
 intro hQ
 refine JL.loadOwn 0 az_34 rfl rfl rfl .none rfl ?_
 obtain ⟨y2, hy2, hF⟩ := bind_some hF
 refine JL.callS (c_counts_Check n H r r_v0 hr_0 r_v7 hr_7 r_v8 hr_8 r_v9 hr_9 r_v10 hr_10 y2 hy2) rfl en_39 .none rfl ?_
 refine JL.assign .none rfl ?_
 refine JL.done hQ ?_
 refine JQ.go ?_
 refine JC.seq ?_
 refine JC.region (by rfl) ?_
 intro hQ
 refine JL.move .none rfl ?_
 refine JL.bin rfl rfl rfl .none rfl ?_
 refine JL.done hQ ?_
 refine JQ.go ?_
 rcases ite_some hF with ⟨hc3, hF⟩ | ⟨hc3, hF⟩
 ·refine JC.cond_t (b := (y2 != 0)) rfl hc3 ?_
  refine JC.seq ?_
  refine JC.region (by rfl) ?_
  intro hQ
  refine JL.move .none rfl ?_
  refine JL.assign .none rfl ?_
  refine JL.assign .none rfl ?_
  refine JL.done hQ ?_
  refine JQ.go ?_
  refine JC.ret ?_
  refine JQ.ret_then ?_
  obtain rfl := Option.some.inj hF
  exact JQ.outS rfl (.tmp (.tmp .nil)) rfl
 ·refine JC.cond_f (b := (y2 != 0)) rfl hc3 ?_
  refine JC.skip ?_
  refine JQ.go ?_
  refine JC.seq ?_
  refine JC.region (by rfl) ?_
  intro hQ
  refine JL.loadOwn 0 az_34 rfl rfl rfl .none rfl ?_
  obtain ⟨a4, c5, rfl, hh6⟩ := hr_0
  have hr_0 : SL H 7 R_Section (.slice a4 r.Canopy.Frame.Sections.length c5) r.Canopy.Frame.Sections := ⟨a4, c5, rfl, hh6⟩
  obtain ⟨a7, c8, rfl, hh9⟩ := hr_7
  have hr_7 : SL H 2 R_Span (.slice a7 r.Canopy.Ribs.length c8) r.Canopy.Ribs := ⟨a7, c8, rfl, hh9⟩
  obtain ⟨a10, c11, rfl, hh12⟩ := hr_8
  have hr_8 : SL H 1 RInt (.slice a10 r.Canopy.Shares.length c11) r.Canopy.Shares := ⟨a10, c11, rfl, hh12⟩
  obtain ⟨a13, c14, rfl, hh15⟩ := hr_9
  have hr_9 : SL H 3 R_Blow (.slice a13 r.Blows.length c14) r.Blows := ⟨a13, c14, rfl, hh15⟩
  obtain ⟨a16, c17, rfl, hh18⟩ := hr_10
  have hr_10 : SL H 2 R_Meter (.slice a16 r.Meters.length c17) r.Meters := ⟨a16, c17, rfl, hh18⟩
  refine JL.build (l := [(.slice a4 r.Canopy.Frame.Sections.length c5), .int .i64 r.Canopy.Frame.Low, .int .i64 r.Canopy.Frame.High, .int .i64 r.Canopy.Frame.Ease.Num, .int .i64 r.Canopy.Frame.Ease.Den, .int .i64 r.Canopy.Frame.Rod, .int .i64 r.Canopy.Frame.Case, (.slice a7 r.Canopy.Ribs.length c8), (.slice a10 r.Canopy.Shares.length c11), (.slice a13 r.Blows.length c14), (.slice a16 r.Meters.length c17), .int .i64 r.Wrong, .func (.func 32) #[] [].toArray]) (by kernel_rfl) .none rfl ?_
  refine JL.box (cs := [(.slice a4 r.Canopy.Frame.Sections.length c5), .int .i64 r.Canopy.Frame.Low, .int .i64 r.Canopy.Frame.High, .int .i64 r.Canopy.Frame.Ease.Num, .int .i64 r.Canopy.Frame.Ease.Den, .int .i64 r.Canopy.Frame.Rod, .int .i64 r.Canopy.Frame.Case, (.slice a7 r.Canopy.Ribs.length c8), (.slice a10 r.Canopy.Shares.length c11), (.slice a13 r.Blows.length c14), (.slice a16 r.Meters.length c17), .int .i64 r.Wrong, .func (.func 32) #[] [].toArray]) rfl .none rfl ?_
  intro b19
  refine JL.assign .none rfl ?_
  refine JL.done hQ ?_
  refine JQ.go ?_
  refine JC.seq ?_
  refine JC.region (by rfl) ?_
  intro hQ
  refine JL.fieldAddr fo_34_2 rfl .none rfl ?_
  refine JL.loadOwn 1 az_32 rfl rfl rfl .none rfl ?_
  refine JL.lenSL (R := R_Meter) ul_32 hr_10 .none rfl ?_
  refine JL.assign .none rfl ?_
  refine JL.done hQ ?_
  refine JQ.go ?_
  refine JC.fresh (fun f => f 2 = .int .i64 0 ∧ f 3 = .int .i64 0 ∧ f 5 = .pointer (some ⟨b19, 0, none⟩) ∧ f 6 = .int .i64 (r.Meters.length : Int)) ⟨rfl, rfl, rfl, rfl⟩ ?_
  rintro f ⟨hf2, hf3, hf5, hf6⟩
  refine (JC.norm (i := 2) hf2 (JC.norm (i := 3) hf3 (JC.norm (i := 5) hf5 (JC.norm (i := 6) hf6 ?_))))
  refine JC.seq ?_
  refine JC.seq ?_
  refine JC.region (by rfl) ?_
  intro hQ
  refine JL.move .none rfl ?_
  refine JL.freezeC 0 (l := [(.slice a4 r.Canopy.Frame.Sections.length c5), .int .i64 r.Canopy.Frame.Low, .int .i64 r.Canopy.Frame.High, .int .i64 r.Canopy.Frame.Ease.Num, .int .i64 r.Canopy.Frame.Ease.Den, .int .i64 r.Canopy.Frame.Rod, .int .i64 r.Canopy.Frame.Case, (.slice a7 r.Canopy.Ribs.length c8), (.slice a10 r.Canopy.Shares.length c11), (.slice a13 r.Blows.length c14), (.slice a16 r.Meters.length c17), .int .i64 r.Wrong, .func (.func 32) #[] [].toArray]) rfl ?_
  intro H20 hs20 hc21
  obtain ⟨y22, hy22, hF⟩ := bind_some hF
  refine JL.callXB (c_counts_test_readings n H20 (counts_test.mk r (fun a0_ a1_ => F_counts_none n a0_ a1_)) (.slice a4 r.Canopy.Frame.Sections.length c5) (SL.mono R_Section_mono hs20 hr_0) (.slice a7 r.Canopy.Ribs.length c8) (SL.mono R_Span_mono hs20 hr_7) (.slice a10 r.Canopy.Shares.length c11) (SL.mono RInt.mono hs20 hr_8) (.slice a13 r.Blows.length c14) (SL.mono R_Blow_mono hs20 hr_9) (.slice a16 r.Meters.length c17) (SL.mono R_Meter_mono hs20 hr_10) (.func (.func 32) #[] [].toArray) ⟨32, [], rfl, en_32, (fun H' hs' a0_ a1_ y' hy' => c_counts_none n H' a0_ a1_ y' hy')⟩ b19 0 hc21 y22 hy22) rfl en_40 .none rfl ?_
  rintro H23 _ _ hs23 ⟨b24, es25, ck26, rfl, rfl, hm27⟩
  refine JL.rangeM mp_79 rfl (.own 0 rfl) hm27 .none rfl ?_
  intro r28 sn29 seen30 cz31 hI32
  refine JL.done hQ ?_
  refine JQ.go ?_
  obtain ⟨r91, hlr91, hKr91⟩ := bind_some hF
  refine JC.join (fun (least_89 : Int) H90 f bs gs => f 6 = .int .i64 least_89 ∧ bs = [] ∧ gs = [] ∧ HSub H23 H90 ∧ least_89 = r91) ?_ ?_
  ·skip
   obtain ⟨rs127, hper128, hl129⟩ := bind_some hlr91
   refine JC.block ?_
   refine JC.mask [true, true, false] [] ?_
   refine JC.mapLoop (srt_nodup hI32.srt) hper128 (fun (dd : Mp) (least_125 : Int) H126 f bs gs => ∃ (sn_r28 : Nat) (se_r28 : Array Nat) (cz_r28 : Nat), f 5 = .pointer (some ⟨b19, 0, none⟩) ∧ f 6 = .int .i64 least_125 ∧ f 21 = .pointer (some ⟨r28, 0, none⟩) ∧ bs = [(r28, .mapIter (some b24) sn_r28 se_r28 cz_r28), (b24, .map es25 ck26)] ∧ gs = [] ∧ IR 6 ekA y22 y22 es25 ck26 sn_r28 se_r28 cz_r28 dd ∧ HSub H23 H126) ⟨sn29, seen30, cz31, rfl, rfl, rfl, rfl, rfl, hI32, (HSub.refl _)⟩ ?_
   rintro dd least_125 H126 f bs gs ⟨sn_r28, se_r28, cz_r28, hf5, hf6, hf21, rfl, rfl, hI_r28, hs126⟩ hend130 hgo131
   refine (JC.norm (i := 5) hf5 (JC.norm (i := 6) hf6 (JC.norm (i := 21) hf21 ?_)))
   refine JC.seq ?_
   refine JC.region (by rfl) ?_
   intro hQ
   refine JL.nextM 0 kt_90 rfl rfl (.own 1 rfl) hm27 hI_r28 .none rfl ?_ ?_
   ·intro hp132
    refine JL.extract rfl rfl .none rfl ?_
    refine JL.done hQ ?_
    refine JQ.go ?_
    refine JC.seq ?_
    refine JC.cond_f (b := false) rfl rfl ?_
    refine JC.exit ?_
    refine JQ.exit_then ?_
    refine JQ.exit_then ?_
    refine JQ.exit_block ?_
    have er144 := hend130 hp132
    subst er144
    obtain rfl := Option.some.inj hl129
    refine JQ.mask [false, false] [] ?_
    exact JQ.join least_125 ⟨rfl, rfl, rfl, hs126, rfl⟩
   ·rintro ⟨kl133, v134⟩ seen135 cz136 hx137 hxm138 hxn139 hI140 hE141
    have kok145 := (hm27.okk _ hxm138)
    dsimp only at kok145
    obtain ⟨sp143, hst142⟩ := hgo131 (kl133, v134) hx137 hxn139
    have hF := hst142
    rw [F_counts_Fewest_s1] at hF
    refine JL.extract rfl rfl .none rfl ?_
    refine JL.done hQ ?_
    refine JQ.go ?_
    refine JC.seq ?_
    refine JC.cond_t (b := true) rfl rfl ?_
    refine JC.skip ?_
    refine JQ.go ?_
    refine JC.block ?_
    refine JC.seq ?_
    refine JC.region (by rfl) ?_
    intro hQ
    refine JL.entryIt (y := (kl133, v134)) 0 rfl rfl (.own 1 rfl) hm27 hE141 .none rfl ?_
    refine JL.extract rfl rfl .none rfl ?_
    refine JL.alloc ze_90 .none rfl ?_
    intro b146
    refine JL.storeArr (l := [0, 0, 0, 0, 0, 0]) (l' := kl133) 0 az_90 rfl rfl rfl rfl kok145.1 .none ?_
    refine JL.done hQ ?_
    refine JQ.go ?_
    refine JC.region (by rfl) ?_
    intro hQ
    refine JL.move .none rfl ?_
    refine JL.move .none rfl ?_
    refine JL.loadArr (l := kl133) 0 az_90 rfl rfl kok145.1 .none rfl ?_
    obtain ⟨y147, hy147, hF⟩ := bind_some hF
    refine JL.callS (c_counts_test_wrong n H126 (counts_test.mk r (fun a0_ a1_ => F_counts_none n a0_ a1_)) (.slice a4 r.Canopy.Frame.Sections.length c5) (SL.mono R_Section_mono (HSub.trans hs20 (HSub.trans hs23 hs126)) hr_0) (.slice a7 r.Canopy.Ribs.length c8) (SL.mono R_Span_mono (HSub.trans hs20 (HSub.trans hs23 hs126)) hr_7) (.slice a10 r.Canopy.Shares.length c11) (SL.mono RInt.mono (HSub.trans hs20 (HSub.trans hs23 hs126)) hr_8) (.slice a13 r.Blows.length c14) (SL.mono R_Blow_mono (HSub.trans hs20 (HSub.trans hs23 hs126)) hr_9) (.slice a16 r.Meters.length c17) (SL.mono R_Meter_mono (HSub.trans hs20 (HSub.trans hs23 hs126)) hr_10) (.func (.func 32) #[] [].toArray) ⟨32, [], rfl, en_32, (fun H' hs' a0_ a1_ y' hy' => c_counts_none n H' a0_ a1_ y' hy')⟩ b19 0 (Cells.mono (HSub.trans hs23 hs126) hc21) kl133 kok145.1 y147 hy147) rfl en_41 .none rfl ?_
    refine JL.min rfl rfl .none rfl ?_
    refine JL.assign .none rfl ?_
    refine JL.done hQ ?_
    refine JQ.normal_block ?_
    obtain rfl := Option.some.inj hF
    refine JQ.mask [false, true, true] [] ?_
    exact JQ.mnext hx137 hxn139 hst142 ⟨sn_r28, seen135, cz136, rfl, rfl, rfl, rfl, rfl, hI140, hs126⟩
  ·rintro least_89 H90 f bs gs ⟨hf6, rfl, rfl, hs90, rfl⟩
   have hF := hKr91
   try dsimp only at hF
   refine (JQ.norm (i := 6) hf6 ?_)
   refine JQ.go ?_
   refine JC.seq ?_
   refine JC.region (by rfl) ?_
   intro hQ
   refine JL.move .none rfl ?_
   refine JL.assign .none rfl ?_
   refine JL.assign .none rfl ?_
   refine JL.done hQ ?_
   refine JQ.go ?_
   refine JC.ret ?_
   obtain rfl := Option.some.inj hF
   exact JQ.outS rfl (.tmp (.tmp .nil)) rfl

end Go.Proofs.Ytcipdblhopffbaa
end
section
namespace Go.Dec

/-- from some fuel on it yields y -/
def Ev {β : Type} (F : Nat → Option β) (y : β) : Prop := ∃ N, ∀ n, N ≤ n → F n = some y
theorem Ev.some {β : Type} (y : β) : Ev (fun _ => Option.some y) y := ⟨0, fun _ _ => rfl⟩
theorem Ev.of {β : Type} {F : Nat → Option β} {y : β} (h : ∀ n, F n = Option.some y) : Ev F y := ⟨0, fun n _ => h n⟩
theorem Ev.bind {α β : Type} {F : Nat → Option α} {K : Nat → α → Option β} {x : α} {y : β} (h : Ev F x) (k : Ev (fun n => K n x) y) : Ev (fun n => (F n).bind (K n)) y := by
  obtain ⟨N, hN⟩ := h
  obtain ⟨M, hM⟩ := k
  refine ⟨max N M, fun n hn => ?_⟩
  show (F n).bind (K n) = _
  rw [hN n (by omega)]
  exact hM n (by omega)
theorem Ev.ite_t {β : Type} {c : Bool} {A D : Nat → Option β} {y : β} (hc : c = true) (h : Ev A y) : Ev (fun n => if c = true then A n else D n) y := by simpa [hc] using h
theorem Ev.ite_f {β : Type} {c : Bool} {A D : Nat → Option β} {y : β} (hc : c = false) (h : Ev D y) : Ev (fun n => if c = true then A n else D n) y := by simpa [hc] using h
theorem Ev.get {β : Type} {F : Nat → Option β} {y : β} (h : Ev F y) : ∃ n, F n = Option.some y := let ⟨N, hN⟩ := h; ⟨N, hN N (Nat.le_refl _)⟩
theorem Ev.unique {β : Type} {F : Nat → Option β} {y z : β} (h : Ev F y) (k : Ev F z) : y = z := by
  obtain ⟨N, hN⟩ := h
  obtain ⟨M, hM⟩ := k
  have a := hN (max N M) (by omega)
  rw [hM (max N M) (by omega)] at a
  exact (Option.some.inj a).symm

/-- loops: the step's fuel and the loop's own -/
def EvL {S R : Type} (step : Nat → S → Option (S ⊕ R)) (s : S) (r : R) : Prop := ∃ N, ∀ n m, N ≤ n → N ≤ m → loopO m (step n) s = Option.some r
theorem EvL.done {S R : Type} {step : Nat → S → Option (S ⊕ R)} {s : S} {r : R} (h : Ev (fun n => step n s) (.inr r)) : EvL step s r := by
  obtain ⟨N, hN⟩ := h
  refine ⟨N + 1, fun n m hn hm => ?_⟩
  obtain ⟨m, rfl⟩ : ∃ k, m = k + 1 := ⟨m - 1, by omega⟩
  unfold loopO
  have := hN n (by omega)
  simp only at this
  rw [this]
theorem EvL.next {S R : Type} {step : Nat → S → Option (S ⊕ R)} {s s' : S} {r : R} (h : Ev (fun n => step n s) (.inl s')) (k : EvL step s' r) : EvL step s r := by
  obtain ⟨N, hN⟩ := h
  obtain ⟨M, hM⟩ := k
  refine ⟨max N M + 1, fun n m hn hm => ?_⟩
  obtain ⟨m, rfl⟩ : ∃ k, m = k + 1 := ⟨m - 1, by omega⟩
  unfold loopO
  have := hN n (by omega)
  simp only at this
  rw [this]
  exact hM n m (by omega) (by omega)
theorem EvL.ev {S R : Type} {step : Nat → S → Option (S ⊕ R)} {s : S} {r : R} (h : EvL step s r) : Ev (fun n => loopO n (step n) s) r :=
  let ⟨N, hN⟩ := h; ⟨N, fun n hn => hN n n hn hn⟩
/-- a loop over an index from i to k: s i is the state before round i; all rounds go on -/
theorem EvL.upto {S R : Type} {step : Nat → S → Option (S ⊕ R)} (s : Nat → S) {r : R} : ∀ (k i : Nat), i ≤ k → (∀ j, i ≤ j → j < k → Ev (fun n => step n (s j)) (.inl (s (j + 1)))) → Ev (fun n => step n (s k)) (.inr r) → EvL step (s i) r := by
  intro k i hik h hd
  obtain ⟨d, rfl⟩ : ∃ d, k = i + d := ⟨k - i, by omega⟩
  clear hik
  induction d generalizing i with
  | zero => exact .done hd
  | succ d ih =>
    refine .next (h i (Nat.le_refl _) (by omega)) (ih (i + 1) (fun j h1 h2 => h j (by omega) (by omega)) ?_)
    have : i + 1 + d = i + (d + 1) := by omega
    rw [this]; exact hd
/-- a loop that is left in round k -/
theorem EvL.left {S R : Type} {step : Nat → S → Option (S ⊕ R)} (s : Nat → S) {r : R} (k : Nat) (h : ∀ j, j < k → Ev (fun n => step n (s j)) (.inl (s (j + 1)))) (hd : Ev (fun n => step n (s k)) (.inr r)) : EvL step (s 0) r :=
  EvL.upto s k 0 (Nat.zero_le _) (fun j _ h2 => h j h2) hd

theorem geti_nat {α : Type} (l : List α) (i : Nat) : geti l (i : Int) = l[i]? := by
  unfold geti
  rw [if_pos (by omega)]
  simp
theorem w64_id {n : Int} (h1 : -9223372036854775808 ≤ n) (h2 : n ≤ 9223372036854775807) : w64 n = n := by
  have : w64 n = if n % 18446744073709551616 ≥ 9223372036854775808 then n % 18446744073709551616 - 18446744073709551616 else n % 18446744073709551616 := by
    simp [w64, Go.IntKind.wrap, Go.IntKind.signed, Go.IntKind.bits]
  rw [this]
  split <;> omega

/-! ### more fuel does no harm -/
def MonoF {β : Type} (F : Nat → Option β) : Prop := ∀ n m y, n ≤ m → F n = some y → F m = some y
theorem MonoF.const {β : Type} (o : Option β) : MonoF (fun _ => o) := fun _ _ _ _ h => h
theorem MonoF.bind {α β : Type} {F : Nat → Option α} {K : Nat → α → Option β} (h : MonoF F) (k : ∀ x, MonoF (fun n => K n x)) : MonoF (fun n => (F n).bind (K n)) := fun n m y hn hy => by
  obtain ⟨x, h1, h2⟩ := bind_some hy
  show (F m).bind (K m) = _
  rw [h n m x hn h1]
  exact k x n m y hn h2
theorem MonoF.ite {β : Type} {c : Bool} {A D : Nat → Option β} (h : MonoF A) (k : MonoF D) : MonoF (fun n => if c = true then A n else D n) := by
  cases c
  · simpa using k
  · simpa using h
theorem MonoF.loop {S R : Type} {step : Nat → S → Option (S ⊕ R)} (h : ∀ s, MonoF (fun n => step n s)) (s : S) : MonoF (fun n => loopO n (step n) s) := by
  have key : ∀ (k n m j : Nat) (s : S) (r : R), n ≤ m → k ≤ j → loopO k (step n) s = some r → loopO j (step m) s = some r := by
    intro k
    induction k with
    | zero => intro n m j s r _ _ h; simp [loopO] at h
    | succ k ih =>
      intro n m j s r hn hj hl
      obtain ⟨j, rfl⟩ : ∃ i, j = i + 1 := ⟨j - 1, by omega⟩
      unfold loopO at hl ⊢
      cases hs : step n s with
      | none => rw [hs] at hl; cases hl
      | some x =>
        rw [hs] at hl
        have := h s n m x hn hs
        simp only at this
        rw [this]
        cases x with
        | inl s' => exact ih n m j s' r hn (by omega) hl
        | inr r' => exact hl
  exact fun n m y hn hy => key n n m m s y hn hn hy
theorem MonoF.ev {β : Type} {F : Nat → Option β} (h : MonoF F) {n : Nat} {y : β} (hy : F n = some y) : Ev F y := ⟨n, fun m hm => h n m y hm hy⟩
end Go.Dec
end
section
namespace Go.Dec

theorem w64_nat {i : Nat} (h : i ≤ 4611686018427387904) : w64 ((i : Int) + 1) = ((i + 1 : Nat) : Int) := by
  rw [w64_id] <;> omega
theorem w64_nat' {i k : Nat} (h : i < k) (hk : k ≤ 9223372036854775807) : w64 ((i : Int) + 1) = ((i + 1 : Nat) : Int) := by
  rw [w64_id] <;> omega
theorem lim_ok {α : Type} {l : List α} (h : l.length ≤ 4294967296) : lim l = some l := by simp [lim, h]

section
variable {S R : Type} {step : S → Option (S ⊕ R)}
theorem loopO_succ {n : Nat} {s : S} : loopO (n + 1) step s = (match step s with | none => none | some (.inl s') => loopO n step s' | some (.inr r) => some r) := by
  rw [loopO]; rcases step s with _ | (_ | _) <;> rfl
theorem loop_done {n : Nat} {s : S} {r : R} (h : step s = some (.inr r)) (hn : 0 < n) : loopO n step s = some r := by
  obtain ⟨m, rfl⟩ : ∃ k, n = k + 1 := ⟨n - 1, by omega⟩
  rw [loopO_succ, h]
/-- a run of states -/
theorem loop_run (s : Nat → S) {r : R} : ∀ (k i n : Nat), (∀ j, i ≤ j → j < i + k → step (s j) = some (.inl (s (j + 1)))) → step (s (i + k)) = some (.inr r) → k < n → loopO n step (s i) = some r := by
  intro k
  induction k with
  | zero => intro i n _ h hn; exact loop_done h hn
  | succ k ih =>
    intro i n h hd hn
    obtain ⟨m, rfl⟩ : ∃ k, n = k + 1 := ⟨n - 1, by omega⟩
    rw [loopO_succ, h i (Nat.le_refl _) (by omega)]
    exact ih (i + 1) m (fun j h1 h2 => h j (by omega) (by omega)) (by rw [show i + 1 + k = i + (k + 1) by omega]; exact hd) (by omega)

/-- a loop that folds a list; I: what is so of the state before round i -/
theorem loop_fold {α β : Type} (l : List α) (enc : Nat → β → S) (g : β → α → β) (fin : β → R) (I : Nat → β → Prop) {n : Nat} (b0 : β) (h0 : I 0 b0)
    (h : ∀ i x b, l[i]? = some x → I i b → step (enc i b) = some (.inl (enc (i + 1) (g b x))) ∧ I (i + 1) (g b x))
    (hd : ∀ b, I l.length b → step (enc l.length b) = some (.inr (fin b))) (hn : l.length < n) : loopO n step (enc 0 b0) = some (fin (l.foldl g b0)) ∧ I l.length (l.foldl g b0) := by
  have key : ∀ (k i : Nat) (b : β) (n : Nat), i + k = l.length → I i b → k < n → loopO n step (enc i b) = some (fin ((l.drop i).foldl g b)) ∧ I l.length ((l.drop i).foldl g b) := by
    intro k
    induction k with
    | zero =>
      intro i b n hi hI hn
      have e : i = l.length := by omega
      subst e
      rw [List.drop_length]
      exact ⟨loop_done (hd b hI) hn, hI⟩
    | succ k ih =>
      intro i b n hi hI hn
      obtain ⟨m, rfl⟩ : ∃ k, n = k + 1 := ⟨n - 1, by omega⟩
      have hlt : i < l.length := by omega
      obtain ⟨h1, h2⟩ := h i l[i] b (List.getElem?_eq_getElem hlt) hI
      rw [loopO_succ, h1, List.drop_eq_getElem_cons hlt, List.foldl_cons]
      exact ih (i + 1) _ m (by omega) h2 (by omega)
  have := key l.length 0 b0 n (by omega) h0 hn
  rwa [List.drop_zero] at this

/-- .. with nothing to be remembered -/
theorem loop_foldl {α β : Type} (l : List α) (enc : Nat → β → S) (g : β → α → β) (fin : β → R) {n : Nat} (b0 : β)
    (h : ∀ i x b, l[i]? = some x → i < l.length → step (enc i b) = some (.inl (enc (i + 1) (g b x))))
    (hd : ∀ b, step (enc l.length b) = some (.inr (fin b))) (hn : l.length < n) : loopO n step (enc 0 b0) = some (fin (l.foldl g b0)) :=
  (loop_fold l enc g fin (fun _ _ => True) b0 trivial (fun i x b hx _ => ⟨h i x b hx (List.getElem?_eq_some_iff.1 hx).1, trivial⟩) (fun b _ => hd b) hn).1

/-- a search by index -/
theorem loop_all_any {ρ : Type} {step : Int → Option (Int ⊕ (ρ ⊕ Unit))} (k : Nat) (p : Nat → Bool) (r : ρ) {n : Nat}
    (h : ∀ i, i < k → step (i : Int) = some (bif p i then .inl ((i + 1 : Nat) : Int) else .inr (.inl r))) (hd : step (k : Int) = some (.inr (.inr ()))) (hn : k < n) :
    loopO n step 0 = some (bif (List.range k).all p then .inr () else .inl r) := by
  have key : ∀ (m i n : Nat), i + m = k → m < n → loopO n step (i : Int) = some (bif (List.range' i m).all p then .inr () else .inl r) := by
    intro m
    induction m with
    | zero => intro i n hi hn; have : i = k := by omega
              subst this; rw [loop_done hd (by omega)]; simp
    | succ m ih =>
      intro i n hi hn
      obtain ⟨m', rfl⟩ : ∃ k, n = k + 1 := ⟨n - 1, by omega⟩
      rw [loopO_succ, h i (by omega), List.range'_succ, List.all_cons]
      cases hp : p i with
      | false => simp
      | true => simp only [cond_true, Bool.true_and]; exact ih (i + 1) m' (by omega) (by omega)
  have := key k 0 n (by omega) hn
  rw [List.range_eq_range']
  exact this
/-- a search by index -/
theorem loop_all {ρ : Type} {step : Int → Option (Int ⊕ (ρ ⊕ Unit))} (k : Nat) (p : Nat → Bool) (r : ρ) {n : Nat} (hk : k ≤ 4611686018427387904)
    (h : ∀ i, i < k → step (i : Int) = some (bif p i then .inl ((i + 1 : Nat) : Int) else .inr (.inl r))) (hd : step (k : Int) = some (.inr (.inr ()))) (hn : k < n) :
    loopO n step 0 = some (bif (List.range k).all p then .inr () else .inl r) := by
  have key : ∀ (m i n : Nat), i + m = k → m < n → loopO n step (i : Int) = some (bif (List.range' i m).all p then .inr () else .inl r) := by
    intro m
    induction m with
    | zero => intro i n hi hn; have : i = k := by omega
              subst this; rw [loop_done hd (by omega)]; simp
    | succ m ih =>
      intro i n hi hn
      obtain ⟨m', rfl⟩ : ∃ k, n = k + 1 := ⟨n - 1, by omega⟩
      rw [loopO_succ, h i (by omega), List.range'_succ, List.all_cons]
      cases hp : p i with
      | false => simp
      | true => simp only [cond_true, Bool.true_and]; exact ih (i + 1) m' (by omega) (by omega)
  have := key k 0 n (by omega) hn
  rw [List.range_eq_range']
  exact this
/-- a search in a list -/
theorem loop_all_l {α ρ : Type} {step : Int → Option (Int ⊕ (ρ ⊕ Unit))} (l : List α) (p : α → Bool) (r : ρ) {n : Nat} (hk : l.length ≤ 4611686018427387904)
    (h : ∀ i x, l[i]? = some x → i < l.length → step (i : Int) = some (bif p x then .inl ((i + 1 : Nat) : Int) else .inr (.inl r))) (hd : step (l.length : Int) = some (.inr (.inr ()))) (hn : l.length < n) :
    loopO n step 0 = some (bif l.all p then .inr () else .inl r) := by
  have := loop_all l.length (fun i => match l[i]? with | some x => p x | none => true) r hk (fun i hi => by
    rw [h i l[i] (List.getElem?_eq_getElem hi) hi]; simp [hi]) hd hn
  rw [this]
  have e : (List.range l.length).all (fun i => match l[i]? with | some x => p x | none => true) = l.all p := by
    rw [Bool.eq_iff_iff]
    simp only [List.all_eq_true, List.mem_range]
    constructor
    · intro h x hx
      obtain ⟨i, hi⟩ := List.mem_iff_getElem?.1 hx
      have := h i (List.getElem?_eq_some_iff.1 hi).1
      simpa [hi] using this
    · intro h i hi
      simpa [hi] using h _ (List.getElem_mem hi)
  rw [e]
end

/-- the first one that is such -/
theorem first_of {α : Type} {p : α → Bool} : ∀ {s : List α}, s.any p = true → ∃ i : Nat, ∃ x, s[i]? = some x ∧ p x = true ∧ ∀ (j : Nat) y, j < i → s[j]? = some y → p y = false
  | [], h => by simp at h
  | a :: s, h => by
    by_cases ha : p a = true
    · exact ⟨0, a, rfl, ha, by intros; omega⟩
    · have hs : s.any p = true := by simpa [ha] using h
      obtain ⟨i, x, h1, h2, h3⟩ := first_of hs
      refine ⟨i + 1, x, by simpa using h1, h2, fun j y hj hy => ?_⟩
      cases j with
      | zero => simp at hy; subst hy; simpa using ha
      | succ j => exact h3 j y (by omega) (by simpa using hy)
/-- a walk over what an iterator yields -/
def foldO {σ ρ α : Type} (cs : σ → α → Option (σ ⊕ ρ)) : σ → List α → Option (σ ⊕ ρ)
  | s, [] => some (.inl s)
  | s, a :: l => (cs s a).bind fun y => match y with | .inl s' => foldO cs s' l | .inr r => some (.inr r)
theorem foldO_foldl {σ ρ α : Type} {cs : σ → α → Option (σ ⊕ ρ)} (g : σ → α → σ) (I : Nat → σ → Prop) : ∀ (l : List α) (k : Nat) (s : σ), I k s → (∀ i s a, i < k + l.length → a ∈ l → I i s → cs s a = some (.inl (g s a)) ∧ I (i + 1) (g s a)) →
    foldO cs s l = some (.inl (l.foldl g s)) ∧ I (k + l.length) (l.foldl g s)
  | [], k, s, h, _ => ⟨rfl, h⟩
  | a :: l, k, s, h, hs => by
    obtain ⟨h1, h2⟩ := hs k s a (by simp) (List.mem_cons_self ..) h
    obtain ⟨h3, h4⟩ := foldO_foldl g I l (k + 1) _ h2 (fun i s a hi ha => hs i s a (by rw [List.length_cons]; omega) (List.mem_cons_of_mem _ ha))
    refine ⟨by simp [foldO, h1, h3], ?_⟩
    rw [List.length_cons, show k + (l.length + 1) = k + 1 + l.length by omega]
    exact h4
theorem foldO_append {σ ρ α : Type} {cs : σ → α → Option (σ ⊕ ρ)} : ∀ (l m : List α) (s : σ), foldO cs s (l ++ m) = (foldO cs s l).bind fun y => match y with | .inl s' => foldO cs s' m | .inr r => some (.inr r)
  | [], m, s => by simp [foldO]
  | a :: l, m, s => by
    simp only [List.cons_append, foldO]
    cases cs s a with
    | none => rfl
    | some y => cases y with
      | inl s' => simp [foldO_append l m s']
      | inr r => simp
theorem foldl_filter_append {α : Type} (p : α → Bool) : ∀ (l out : List α), l.foldl (fun o x => if p x = true then o ++ [x] else o) out = out ++ l.filter p
  | [], out => by simp
  | a :: l, out => by
    rw [List.foldl_cons, foldl_filter_append p l]
    cases h : p a <;> simp [h]
theorem foldl_count {α : Type} (p : α → Bool) : ∀ (l : List α) (k : Int), l.foldl (fun o x => if p x = true then o + 1 else o) k = k + (l.countP p : Nat)
  | [], k => by simp
  | a :: l, k => by
    rw [List.foldl_cons, foldl_count p l]
    cases h : p a <;> simp [h, List.countP_cons]; omega
theorem foldl_append_map {α β : Type} (f : α → β) : ∀ (l : List α) (out : List β), l.foldl (fun o x => o ++ [f x]) out = out ++ l.map f
  | [], out => by simp
  | a :: l, out => by rw [List.foldl_cons, foldl_append_map f l]; simp
theorem foldl_pair {α β γ : Type} (f : β → α → β) (g : γ → α → γ) : ∀ (l : List α) (b : β) (c : γ), l.foldl (fun s x => (f s.1 x, g s.2 x)) (b, c) = (l.foldl f b, l.foldl g c)
  | [], _, _ => rfl
  | a :: l, b, c => by simp only [List.foldl_cons]; exact foldl_pair f g l _ _
theorem foldl_map' {α β γ : Type} (f : α → β) (g : γ → β → γ) : ∀ (l : List α) (c : γ), l.foldl (fun s x => g s (f x)) c = (l.map f).foldl g c
  | [], _ => rfl
  | a :: l, c => by simp only [List.foldl_cons, List.map_cons]; exact foldl_map' f g l _
/-- least and greatest -/
theorem foldl_min {a m : Int} : ∀ (l : List Int) (a : Int), (∀ x ∈ a :: l, l.foldl min a ≤ x) ∧ l.foldl min a ∈ a :: l
  | [], a => by simp
  | b :: l, a => by
    obtain ⟨h1, h2⟩ := foldl_min (a := a) (m := m) l (min a b)
    rw [List.foldl_cons]
    refine ⟨fun x hx => ?_, ?_⟩
    · have h3 := h1 _ (List.mem_cons_self ..)
      rcases List.mem_cons.1 hx with rfl | hx
      · omega
      · rcases List.mem_cons.1 hx with rfl | hx
        · omega
        · exact h1 x (List.mem_cons_of_mem _ hx)
    · rcases List.mem_cons.1 h2 with h2 | h2
      · rw [h2]
        rcases Int.le_total a b with h | h
        · rw [Int.min_eq_left h]; exact List.mem_cons_self ..
        · rw [Int.min_eq_right h]; exact List.mem_cons_of_mem _ (List.mem_cons_self ..)
      · exact List.mem_cons_of_mem _ (List.mem_cons_of_mem _ h2)
theorem foldl_max {a m : Int} : ∀ (l : List Int) (a : Int), (∀ x ∈ a :: l, x ≤ l.foldl max a) ∧ l.foldl max a ∈ a :: l
  | [], a => by simp
  | b :: l, a => by
    obtain ⟨h1, h2⟩ := foldl_max (a := a) (m := m) l (max a b)
    rw [List.foldl_cons]
    refine ⟨fun x hx => ?_, ?_⟩
    · have h3 := h1 _ (List.mem_cons_self ..)
      rcases List.mem_cons.1 hx with rfl | hx
      · omega
      · rcases List.mem_cons.1 hx with rfl | hx
        · omega
        · exact h1 x (List.mem_cons_of_mem _ hx)
    · rcases List.mem_cons.1 h2 with h2 | h2
      · rw [h2]
        rcases Int.le_total a b with h | h
        · rw [Int.max_eq_right h]; exact List.mem_cons_of_mem _ (List.mem_cons_self ..)
        · rw [Int.max_eq_left h]; exact List.mem_cons_self ..
      · exact List.mem_cons_of_mem _ (List.mem_cons_of_mem _ h2)
end Go.Dec
end
section
namespace Go.Dec

/-! ### spans -/
def span (a b : Int) : List Int := (List.range (b + 1 - a).toNat).map fun j : Nat => a + j
def down (b a : Int) : List Int := (List.range (b + 1 - a).toNat).map fun j : Nat => b - j
theorem span_mem' {a b x : Int} : x ∈ span a b ↔ a ≤ x ∧ x ≤ b := by
  simp only [span, List.mem_map, List.mem_range]
  constructor
  · rintro ⟨j, h, rfl⟩; omega
  · intro h; exact ⟨(x - a).toNat, by omega, by omega⟩
theorem down_mem {a b x : Int} : x ∈ down b a ↔ a ≤ x ∧ x ≤ b := by
  simp only [down, List.mem_map, List.mem_range]
  constructor
  · rintro ⟨j, h, rfl⟩; omega
  · intro h; exact ⟨(b - x).toNat, by omega, by omega⟩
theorem span_len (a b : Int) : (span a b).length = (b + 1 - a).toNat := by simp [span]
theorem down_len (b a : Int) : (down b a).length = (b + 1 - a).toNat := by simp [down]
theorem span_nil {a b : Int} (h : b < a) : span a b = [] := by
  have : (b + 1 - a).toNat = 0 := by omega
  simp [span, this]
theorem down_nil {a b : Int} (h : b < a) : down b a = [] := by
  have : (b + 1 - a).toNat = 0 := by omega
  simp [down, this]
theorem span_cons {a b : Int} (h : a ≤ b) : span a b = a :: span (a + 1) b := by
  have : (b + 1 - a).toNat = (b + 1 - (a + 1)).toNat + 1 := by omega
  unfold span
  rw [this, List.range_succ_eq_map, List.map_cons, List.map_map]
  simp only [Int.natCast_zero, Int.add_zero]
  congr 1
  apply List.map_congr_left
  intro j _
  simp only [Function.comp]
  omega
theorem down_cons {a b : Int} (h : a ≤ b) : down b a = b :: down (b - 1) a := by
  have : (b + 1 - a).toNat = (b - 1 + 1 - a).toNat + 1 := by omega
  unfold down
  rw [this, List.range_succ_eq_map, List.map_cons, List.map_map]
  simp only [Int.natCast_zero, Int.sub_zero]
  congr 1
  apply List.map_congr_left
  intro j _
  simp only [Function.comp]
  omega

/-- an iterator that counts up -/
theorem loop_up {σ ρ : Type} (cs : σ → Int → Option (σ ⊕ ρ)) {step : Int × σ → Option ((Int × σ) ⊕ (σ ⊕ ρ))} {hi : Int} : ∀ (k : Nat) (lo : Int) (s : σ) (n : Nat), (hi + 1 - lo).toNat = k →
    (∀ b s, lo ≤ b → b ≤ hi → step (b, s) = (cs s b).bind fun y => match y with | .inl s' => some (.inl (b + 1, s')) | .inr e => some (.inr (.inr e))) → (∀ b s, hi < b → b ≤ max lo (hi + 1) → step (b, s) = some (.inr (.inl s))) → k < n →
    loopO n step (lo, s) = foldO cs s (span lo hi) := by
  intro k
  induction k with
  | zero =>
    intro lo s n hk _ hd hn
    rw [span_nil (by omega), loop_done (hd lo s (by omega) (by omega)) hn]
    rfl
  | succ k ih =>
    intro lo s n hk h hd hn
    obtain ⟨m, rfl⟩ : ∃ k, n = k + 1 := ⟨n - 1, by omega⟩
    rw [span_cons (by omega), loopO_succ, h lo s (by omega) (by omega)]
    simp only [foldO]
    cases cs s lo with
    | none => rfl
    | some y => cases y with
      | inl s' =>
        simp only [Option.bind_some]
        exact ih (lo + 1) s' m (by omega) (fun b s h1 h2 => h b s (by omega) h2) (fun b s h1 h2 => hd b s h1 (by omega)) (by omega)
      | inr e => rfl
/-- .. down -/
theorem loop_down {σ ρ : Type} (cs : σ → Int → Option (σ ⊕ ρ)) {step : Int × σ → Option ((Int × σ) ⊕ (σ ⊕ ρ))} {lo : Int} : ∀ (k : Nat) (hi : Int) (s : σ) (n : Nat), (hi + 1 - lo).toNat = k →
    (∀ b s, lo ≤ b → b ≤ hi → step (b, s) = (cs s b).bind fun y => match y with | .inl s' => some (.inl (b - 1, s')) | .inr e => some (.inr (.inr e))) → (∀ b s, b < lo → min hi (lo - 1) ≤ b → step (b, s) = some (.inr (.inl s))) → k < n →
    loopO n step (hi, s) = foldO cs s (down hi lo) := by
  intro k
  induction k with
  | zero =>
    intro hi s n hk _ hd hn
    rw [down_nil (by omega), loop_done (hd hi s (by omega) (by omega)) hn]
    rfl
  | succ k ih =>
    intro hi s n hk h hd hn
    obtain ⟨m, rfl⟩ : ∃ k, n = k + 1 := ⟨n - 1, by omega⟩
    rw [down_cons (by omega), loopO_succ, h hi s (by omega) (by omega)]
    simp only [foldO]
    cases cs s hi with
    | none => rfl
    | some y => cases y with
      | inl s' =>
        simp only [Option.bind_some]
        exact ih (hi - 1) s' m (by omega) (fun b s h1 h2 => h b s h1 (by omega)) (fun b s h1 h2 => hd b s h1 (by omega)) (by omega)
      | inr e => rfl
theorem foldO_flatMap {σ ρ α β : Type} {cs : σ → α → Option (σ ⊕ ρ)} (f : β → List α) : ∀ (l : List β) (s : σ), foldO cs s (l.flatMap f) = foldO (fun s b => foldO cs s (f b)) s l
  | [], s => by simp [foldO]
  | b :: l, s => by
    rw [List.flatMap_cons, foldO_append, foldO]
    congr 1
    funext y
    cases y with
    | inl s' => exact foldO_flatMap f l s'
    | inr r => rfl
theorem foldO_map {σ ρ α β : Type} {cs : σ → α → Option (σ ⊕ ρ)} (f : β → α) : ∀ (l : List β) (s : σ), foldO cs s (l.map f) = foldO (fun s b => cs s (f b)) s l
  | [], s => by simp [foldO]
  | b :: l, s => by
    rw [List.map_cons, foldO, foldO]
    congr 1
    funext y
    cases y with
    | inl s' => exact foldO_map f l s'
    | inr r => rfl
theorem foldO_any {ρ α : Type} {cs : Unit → α → Option (Unit ⊕ ρ)} (p : α → Bool) (r : ρ) : ∀ (l : List α), (∀ a ∈ l, cs () a = some (bif p a then .inr r else .inl ())) → foldO cs () l = some (bif l.any p then .inr r else .inl ())
  | [], _ => rfl
  | a :: l, h => by
    rw [foldO, h a (List.mem_cons_self ..), List.any_cons]
    cases p a with
    | true => rfl
    | false => simp only [cond_false, Option.bind_some, Bool.false_or]; exact foldO_any p r l fun b hb => h b (List.mem_cons_of_mem _ hb)
theorem foldO_congr {σ ρ α : Type} {cs cs' : σ → α → Option (σ ⊕ ρ)} : ∀ (l : List α) (s : σ), (∀ s a, a ∈ l → cs s a = cs' s a) → foldO cs s l = foldO cs' s l
  | [], _, _ => rfl
  | a :: l, s, h => by
    rw [foldO, foldO, h s a (List.mem_cons_self ..)]
    congr 1
    funext y
    cases y with
    | inl s' => exact foldO_congr l s' fun s b hb => h s b (List.mem_cons_of_mem _ hb)
    | inr r => rfl

/-! ### searches that count numbers -/
theorem loop_span_all {ρ : Type} {step : Int → Option (Int ⊕ (ρ ⊕ Unit))} (p : Int → Bool) (r : ρ) {hi : Int} : ∀ (k : Nat) (lo : Int) (n : Nat), (hi + 1 - lo).toNat = k →
    (∀ b, lo ≤ b → b ≤ hi → step b = some (bif p b then .inl (b + 1) else .inr (.inl r))) → (∀ b, hi < b → b ≤ max lo (hi + 1) → step b = some (.inr (.inr ()))) → k < n → loopO n step lo = some (bif (span lo hi).all p then .inr () else .inl r) := by
  intro k
  induction k with
  | zero =>
    intro lo n hk _ hd hn
    rw [span_nil (by omega), loop_done (hd lo (by omega) (by omega)) hn]
    rfl
  | succ k ih =>
    intro lo n hk h hd hn
    obtain ⟨m, rfl⟩ : ∃ k, n = k + 1 := ⟨n - 1, by omega⟩
    rw [span_cons (by omega), loopO_succ, h lo (by omega) (by omega), List.all_cons]
    cases p lo with
    | false => rfl
    | true =>
      simp only [cond_true, Bool.true_and]
      exact ih (lo + 1) m (by omega) (fun b h1 h2 => h b (by omega) h2) (fun b h1 h2 => hd b h1 (by omega)) (by omega)

/-- a loop over a span that folds -/
theorem loop_span_fold {S R β : Type} {step : S → Option (S ⊕ R)} (enc : Int → β → S) (g : β → Int → β) (fin : β → R) (I : Int → β → Prop) {hi : Int} : ∀ (k : Nat) (lo : Int) (b0 : β) (n : Nat), (hi + 1 - lo).toNat = k → I lo b0 →
    (∀ i b, lo ≤ i → i ≤ hi → I i b → step (enc i b) = some (.inl (enc (i + 1) (g b i))) ∧ I (i + 1) (g b i)) → (∀ i b, hi < i → i ≤ max lo (hi + 1) → I i b → step (enc i b) = some (.inr (fin b))) → k < n →
    loopO n step (enc lo b0) = some (fin ((span lo hi).foldl g b0)) ∧ I (max lo (hi + 1)) ((span lo hi).foldl g b0) := by
  intro k
  induction k with
  | zero =>
    intro lo b0 n hk h0 _ hd hn
    rw [span_nil (by omega), loop_done (hd lo b0 (by omega) (by omega) h0) hn]
    rw [show max lo (hi + 1) = lo by omega]
    exact ⟨rfl, h0⟩
  | succ k ih =>
    intro lo b0 n hk h0 h hd hn
    obtain ⟨m, rfl⟩ : ∃ k, n = k + 1 := ⟨n - 1, by omega⟩
    obtain ⟨h1, h2⟩ := h lo b0 (by omega) (by omega) h0
    rw [span_cons (by omega), loopO_succ, h1, List.foldl_cons]
    have := ih (lo + 1) (g b0 lo) m (by omega) h2 (fun i b h1 h2 => h i b (by omega) h2) (fun i b h1 h2 => hd i b h1 (by omega)) (by omega)
    rw [show max (lo + 1) (hi + 1) = max lo (hi + 1) by omega] at this
    exact this

/-! ### searches that find something -/
theorem loop_find {ρ : Type} {step : Int → Option (Int ⊕ (ρ ⊕ Unit))} (e : Nat → Option ρ) {n : Nat} (k : Nat) (h : ∀ i, i < k → step (i : Int) = some (match e i with | some r => .inr (.inl r) | none => .inl ((i + 1 : Nat) : Int))) (hd : step (k : Int) = some (.inr (.inr ()))) (hn : k < n) :
    loopO n step 0 = some (match (List.range k).findSome? e with | some r => .inl r | none => .inr ()) := by
  have key : ∀ (m i n : Nat), i + m = k → m < n → loopO n step (i : Int) = some (match (List.range' i m).findSome? e with | some r => .inl r | none => .inr ()) := by
    intro m
    induction m with
    | zero => intro i n hi hn; have : i = k := by omega
              subst this; rw [loop_done hd (by omega)]; rfl
    | succ m ih =>
      intro i n hi hn
      obtain ⟨m', rfl⟩ : ∃ k, n = k + 1 := ⟨n - 1, by omega⟩
      rw [loopO_succ, h i (by omega), List.range'_succ, List.findSome?_cons]
      cases hp : e i with
      | some r => rfl
      | none => exact ih (i + 1) m' (by omega) (by omega)
  have := key k 0 n (by omega) hn
  rw [List.range_eq_range']
  exact this
theorem loop_down_find {ρ : Type} {step : Int → Option (Int ⊕ (ρ ⊕ Unit))} (e : Int → Option ρ) {lo : Int} : ∀ (k : Nat) (hi : Int) (n : Nat), (hi + 1 - lo).toNat = k →
    (∀ b, lo ≤ b → b ≤ hi → step b = some (match e b with | some r => .inr (.inl r) | none => .inl (b - 1))) → (∀ b, b < lo → min hi (lo - 1) ≤ b → step b = some (.inr (.inr ()))) → k < n →
    loopO n step hi = some (match (down hi lo).findSome? e with | some r => .inl r | none => .inr ()) := by
  intro k
  induction k with
  | zero =>
    intro hi n hk _ hd hn
    rw [down_nil (by omega), loop_done (hd hi (by omega) (by omega)) hn]
    rfl
  | succ k ih =>
    intro hi n hk h hd hn
    obtain ⟨m, rfl⟩ : ∃ k, n = k + 1 := ⟨n - 1, by omega⟩
    rw [down_cons (by omega), loopO_succ, h hi (by omega) (by omega), List.findSome?_cons]
    cases e hi with
    | some r => rfl
    | none => exact ih (hi - 1) m (by omega) (fun b h1 h2 => h b h1 (by omega)) (fun b h1 h2 => hd b h1 (by omega)) (by omega)
theorem foldO_find {ρ α : Type} {cs : Unit → α → Option (Unit ⊕ ρ)} (e : α → Option ρ) : ∀ (l : List α), (∀ a ∈ l, cs () a = some (match e a with | some r => .inr r | none => .inl ())) → foldO cs () l = some (match l.findSome? e with | some r => .inr r | none => .inl ())
  | [], _ => rfl
  | a :: l, h => by
    rw [foldO, h a (List.mem_cons_self ..), List.findSome?_cons]
    cases e a with
    | some r => rfl
    | none => simp only [Option.bind_some]; exact foldO_find e l fun b hb => h b (List.mem_cons_of_mem _ hb)
/-- a loop over a list, with exits, as a walk -/
theorem loop_walk {α β R ρ S : Type} {step : S → Option (S ⊕ R)} (l : List α) (enc : Nat → β → S) (cs : β → α → Option (β ⊕ ρ)) (fin : β → R) (ex : ρ → R) {n : Nat}
    (h : ∀ i x b, l[i]? = some x → step (enc i b) = (cs b x).bind fun y => match y with | .inl b' => some (.inl (enc (i + 1) b')) | .inr r => some (.inr (ex r)))
    (hd : ∀ b, step (enc l.length b) = some (.inr (fin b))) (hn : l.length < n) (b0 : β) : loopO n step (enc 0 b0) = (foldO cs b0 l).bind fun y => match y with | .inl b => some (fin b) | .inr r => some (ex r) := by
  have key : ∀ (k i : Nat) (b : β) (n : Nat), i + k = l.length → k < n → loopO n step (enc i b) = (foldO cs b (l.drop i)).bind fun y => match y with | .inl b => some (fin b) | .inr r => some (ex r) := by
    intro k
    induction k with
    | zero =>
      intro i b n hi hn
      have e : i = l.length := by omega
      subst e
      rw [List.drop_length, loop_done (hd b) hn]; rfl
    | succ k ih =>
      intro i b n hi hn
      obtain ⟨m, rfl⟩ : ∃ k, n = k + 1 := ⟨n - 1, by omega⟩
      have hlt : i < l.length := by omega
      rw [loopO_succ, h i l[i] b (List.getElem?_eq_getElem hlt), List.drop_eq_getElem_cons hlt, foldO]
      cases cs b l[i] with
      | none => rfl
      | some y => cases y with
        | inl b' => simp only [Option.bind_some]; exact ih (i + 1) b' m (by omega) (by omega)
        | inr r => rfl
  have := key l.length 0 b0 n (by omega) hn
  rwa [List.drop_zero] at this
/-- a walk that is left at one thing, and takes down another -/
theorem foldO_two {σ ρ α : Type} {cs : σ → α → Option (σ ⊕ ρ)} (a b : α → Bool) (r : ρ) (v : σ) : ∀ (l : List α) (s : σ), (∀ s x, x ∈ l → cs s x = some (bif a x then .inr r else .inl (bif b x then v else s))) → foldO cs s l = some (bif l.any a then .inr r else .inl (bif l.any b then v else s))
  | [], _, _ => rfl
  | x :: l, s, h => by
    rw [foldO, h s x (List.mem_cons_self ..), List.any_cons, List.any_cons]
    cases a x with
    | true => rfl
    | false =>
      simp only [cond_false, Option.bind_some, Bool.false_or]
      rw [foldO_two a b r v l _ fun s y hy => h s y (List.mem_cons_of_mem _ hy)]
      cases b x <;> cases l.any b <;> rfl

/-! ### Euclid -/
theorem loop_gcd {step : Int × Int → Option ((Int × Int) ⊕ Int)} (h0 : ∀ a, step (a, 0) = some (.inr a)) (h : ∀ a b, b ≠ 0 → step (a, b) = some (.inl (b, a.tmod b))) : ∀ (y x n : Nat), y < n → loopO n step ((x : Int), (y : Int)) = some ((Nat.gcd x y : Nat) : Int) := by
  intro y
  induction y using Nat.strongRecOn with
  | _ y ih =>
    intro x n hn
    obtain ⟨m, rfl⟩ : ∃ k, n = k + 1 := ⟨n - 1, by omega⟩
    rw [loopO_succ]
    by_cases hy : y = 0
    · subst hy
      have := h0 (x : Int)
      simp only [Int.natCast_zero] at *
      rw [this]; simp
    · rw [h _ _ (by omega)]
      simp only
      rw [← Int.ofNat_tmod]
      have hlt := Nat.mod_lt x (Nat.pos_of_ne_zero hy)
      rw [ih (x % y) hlt y m (by omega)]
      rw [Nat.gcd_comm x y, Nat.gcd_rec y x, Nat.gcd_comm]

/-! ### products in bounds -/
theorem mul_in {x y A C : Int} (h1 : 0 ≤ x) (h2 : x ≤ A) (h3 : 0 ≤ y) (h4 : y ≤ C) : 0 ≤ x * y ∧ x * y ≤ A * C := by
  refine ⟨Int.mul_nonneg h1 h3, ?_⟩
  have a := Int.mul_le_mul_of_nonneg_right h2 h3
  have b := Int.mul_le_mul_of_nonneg_left h4 (show 0 ≤ A by omega)
  omega
theorem mul_abs {x y A C : Int} (h1 : -A ≤ x) (h2 : x ≤ A) (h3 : 0 ≤ y) (h4 : y ≤ C) : -(A * C) ≤ x * y ∧ x * y ≤ A * C := by
  have hA : 0 ≤ A := by omega
  have a := Int.mul_le_mul_of_nonneg_right h2 h3
  have a' := Int.mul_le_mul_of_nonneg_right h1 h3
  have b := Int.mul_le_mul_of_nonneg_left h4 hA
  rw [Int.neg_mul] at a'
  omega
theorem geti_some {α : Type} {l : List α} {i : Int} {x : α} (h : geti l i = some x) : 0 ≤ i ∧ i < l.length ∧ l[i.toNat]? = some x := by
  unfold geti at h
  split at h
  · rename_i h0
    have := (List.getElem?_eq_some_iff.1 h).1
    exact ⟨h0, by omega, h⟩
  · cases h
end Go.Dec
end
