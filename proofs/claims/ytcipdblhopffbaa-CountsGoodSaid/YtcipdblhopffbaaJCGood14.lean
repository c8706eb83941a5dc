/-
  CountsGood holds of every input that can be given, without a condition.
-/
import Derived.Test.YtcipdblhopffbaaJCGood13
import Derived.OpenShut
import Derived.JoinedCond
import Derived.ProofKit
import Derived.WalkKit
section
namespace Go.Proofs.Ytcipdblhopffbaa
open Go Go.RowKit Go.Dec
set_option linter.unusedVariables false
-- 5 ferrule/ferrulelaw13.CountsGood
noncomputable def F_law13_CountsGood (n : Nat) (r : Run) (limits : List Int) (blow : Int) : Option Bool :=
  (geti limits 0).bind fun y5 => (geti limits 1).bind fun y6 => (F_law13_ready n r).bind fun y7 => if ((((((!y7) || (decide (y5 < 0))) || (decide (y6 < y5))) || (decide (99 < y6))) || (decide (blow < 0))) || (decide ((r.Blows.length : Int) ≤ blow))) = true then ((F_law13_works n).bind fun y19 => some y19) else ((F_counts_Reads n r y5).bind fun y20 => (F_counts_Reads n r y6).bind fun y22 => (F_counts_Reads n r 0).bind fun y24 => if (((y20.2 != y22.2) || (y20.2 != y24.2)) || ((y20.2 != 0) && (y20.2 != 3))) = true then (some false) else (if (y20.2 != 0) = true then ((F_law13_works n).bind fun y36 => some y36) else (if (((((decide (y20.1.Low < y22.1.Low)) || (decide (y20.1.High < y22.1.High))) || (!((y24.1.Low == (r.Blows.length : Int)) && (y24.1.High == (r.Blows.length : Int))))) || (decide (y20.1.Low < 0))) || (decide ((r.Blows.length : Int) < y20.1.High))) = true then (some false) else (if ((y20.1.Low != y20.1.High) || (decide (5 ≤ (r.Meters.length : Int)))) = true then ((F_law13_works n).bind fun y49 => some y49) else ((F_ref13_Copy n r).bind fun y50 => (lim (y50.Meters ++ [(Meter.mk y5 y20.1.Low)])).bind fun l59 => (F_counts_Many n r).bind fun y64 => (F_counts_Many n (Run.mk y50.Canopy y50.Blows l59 y50.Wrong)).bind fun y68 => (F_counts_Forces n r blow).bind fun y69 => (F_counts_Forces n (Run.mk y50.Canopy y50.Blows l59 y50.Wrong) blow).bind fun y76 => (F_counts_Right n (Run.mk y50.Canopy y50.Blows l59 y50.Wrong) (r.Meters.length : Int)).bind fun y79 => (if ((((((y64.2 == 0) && (y68.2 == 0)) && (y69.2 == 0)) && (y76.2 == 0)) && (y79.2 == 0)) && (y64.1 == y68.1)) = true then ((F_law13_sameInts n y69.1 y76.1).bind fun y94 => some y94) else (some false) : Option Bool).bind fun p91 => (if (p91 && (y79.1 == 1)) = true then ((F_law13_works n).bind fun y101 => some y101) else (some false) : Option Bool).bind fun p98 => some p98)))))
set_option maxRecDepth 100000 in
set_option maxHeartbeats 40000000 in
theorem c_law13_CountsGood (n : Nat) (H : Hp) (r : Run) (r_v0 : Value) (hr_0 : SL H 7 R_Section r_v0 r.Canopy.Frame.Sections) (r_v7 : Value) (hr_7 : SL H 2 R_Span r_v7 r.Canopy.Ribs) (r_v8 : Value) (hr_8 : SL H 1 RInt r_v8 r.Canopy.Shares) (r_v9 : Value) (hr_9 : SL H 3 R_Blow r_v9 r.Blows) (r_v10 : Value) (hr_10 : SL H 2 R_Meter r_v10 r.Meters) (limits : List Int) (limits_l : limits.length = 2) (blow : Int) (y : Bool) (hF : F_law13_CountsGood n r limits blow = some y) : SC Try.prog 5 [.agg [r_v0, .int .i64 r.Canopy.Frame.Low, .int .i64 r.Canopy.Frame.High, .int .i64 r.Canopy.Frame.Ease.Num, .int .i64 r.Canopy.Frame.Ease.Den, .int .i64 r.Canopy.Frame.Rod, .int .i64 r.Canopy.Frame.Case, r_v7, r_v8, r_v9, r_v10, .int .i64 r.Wrong].toArray, .agg (av .i64 limits).toArray, .int .i64 blow] (.bool y) H := by
  rw [F_law13_CountsGood] at hF
  refine SC.of (N := 218) Try.func5 rfl rfl rfl fun w => ?_
  refine JC.seq ?_
  refine JC.region (by rfl) ?_
  intro hQ
  refine JL.box (cs := [r_v0, .int .i64 r.Canopy.Frame.Low, .int .i64 r.Canopy.Frame.High, .int .i64 r.Canopy.Frame.Ease.Num, .int .i64 r.Canopy.Frame.Ease.Den, .int .i64 r.Canopy.Frame.Rod, .int .i64 r.Canopy.Frame.Case, r_v7, r_v8, r_v9, r_v10, .int .i64 r.Wrong]) rfl .none rfl ?_
  intro b1
  refine JL.box (cs := av .i64 limits) rfl .none rfl ?_
  intro b2
  refine JL.assign .none rfl ?_
  refine JL.done hQ ?_
  refine JQ.go ?_
  refine JC.seq ?_
  refine JC.draw (by rfl) mo_ (by kernel_rfl) ?_
  intro hQ
  obtain ⟨y5, hy5, hF⟩ := bind_some hF
  refine JL.indexArrP (l := limits) ar_61 az_3 rfl rfl limits_l hy5 .none rfl ?_
  refine JL.loadEl (j := 0) 0 az_3 rfl rfl hy5 .none rfl ?_
  obtain ⟨y6, hy6, hF⟩ := bind_some hF
  refine JL.indexArrP (l := limits) ar_61 az_3 rfl rfl limits_l hy6 .none rfl ?_
  refine JL.loadEl (j := 1) 0 az_3 rfl rfl hy6 .none rfl ?_
  refine JL.assign .none rfl ?_
  refine JL.assign .none rfl ?_
  refine JL.doneQ hQ ?_
  refine JQ.go ?_
  refine JC.seq ?_
  refine JC.seq ?_
  refine JC.region (by rfl) ?_
  intro hQ
  refine JL.loadOwn 1 az_34 rfl rfl rfl .none rfl ?_
  obtain ⟨y7, hy7, hF⟩ := bind_some hF
  refine JL.callS (c_law13_ready n H r r_v0 hr_0 r_v7 hr_7 r_v8 hr_8 r_v9 hr_9 r_v10 hr_10 y7 hy7) rfl en_8 .none rfl ?_
  refine JL.not rfl .none rfl ?_
  refine JL.move .none rfl ?_
  refine JL.cut 3 (fun f => f 2 = .int .i64 blow ∧ f 3 = .pointer (some ⟨b1, 0, none⟩) ∧ f 7 = .int .i64 y5 ∧ f 8 = .int .i64 y6 ∧ f 36 = .bool ((!y7) || (decide (y5 < 0)))) ?_ ?_
  · intro hJ8
    rcases bcases (!y7) with hc9 | hc9
    · skip
      refine JL.skip (.bool rfl rfl rfl hc9) rfl ?_
      refine JL.skip (.bool rfl rfl rfl hc9) rfl ?_
      refine JL.pick_t (b := (!y7)) rfl hc9 .none rfl ?_
      exact hJ8 _ ⟨rfl, rfl, rfl, rfl, or_t hc9 rfl⟩
    · skip
      refine JL.move (.some rfl rfl rfl hc9) rfl ?_
      refine JL.bin rfl rfl rfl (.some rfl rfl rfl hc9) rfl ?_
      refine JL.pick_f (b := (!y7)) rfl hc9 .none rfl ?_
      exact hJ8 _ ⟨rfl, rfl, rfl, rfl, or_f hc9 rfl⟩
  · rintro f ⟨hf2, hf3, hf7, hf8, hf36⟩
    refine (JL.norm (i := 2) hf2 (JL.norm (i := 3) hf3 (JL.norm (i := 7) hf7 (JL.norm (i := 8) hf8 (JL.norm (i := 36) hf36 ?_)))))
    refine JL.move .none rfl ?_
    refine JL.cut 4 (fun f => f 2 = .int .i64 blow ∧ f 3 = .pointer (some ⟨b1, 0, none⟩) ∧ f 7 = .int .i64 y5 ∧ f 8 = .int .i64 y6 ∧ f 41 = .bool (((!y7) || (decide (y5 < 0))) || (decide (y6 < y5)))) ?_ ?_
    · intro hJ10
      rcases bcases ((!y7) || (decide (y5 < 0))) with hc11 | hc11
      · skip
        refine JL.skip (.bool rfl rfl rfl hc11) rfl ?_
        refine JL.skip (.bool rfl rfl rfl hc11) rfl ?_
        refine JL.skip (.bool rfl rfl rfl hc11) rfl ?_
        refine JL.pick_t (b := ((!y7) || (decide (y5 < 0)))) rfl hc11 .none rfl ?_
        exact hJ10 _ ⟨rfl, rfl, rfl, rfl, or_t hc11 rfl⟩
      · skip
        refine JL.move (.some rfl rfl rfl hc11) rfl ?_
        refine JL.move (.some rfl rfl rfl hc11) rfl ?_
        refine JL.bin rfl rfl rfl (.some rfl rfl rfl hc11) rfl ?_
        refine JL.pick_f (b := ((!y7) || (decide (y5 < 0)))) rfl hc11 .none rfl ?_
        exact hJ10 _ ⟨rfl, rfl, rfl, rfl, or_f hc11 rfl⟩
    · rintro f ⟨hf2, hf3, hf7, hf8, hf41⟩
      refine (JL.norm (i := 2) hf2 (JL.norm (i := 3) hf3 (JL.norm (i := 7) hf7 (JL.norm (i := 8) hf8 (JL.norm (i := 41) hf41 ?_)))))
      refine JL.move .none rfl ?_
      refine JL.cut 3 (fun f => f 2 = .int .i64 blow ∧ f 3 = .pointer (some ⟨b1, 0, none⟩) ∧ f 7 = .int .i64 y5 ∧ f 8 = .int .i64 y6 ∧ f 45 = .bool ((((!y7) || (decide (y5 < 0))) || (decide (y6 < y5))) || (decide (99 < y6)))) ?_ ?_
      · intro hJ12
        rcases bcases (((!y7) || (decide (y5 < 0))) || (decide (y6 < y5))) with hc13 | hc13
        · skip
          refine JL.skip (.bool rfl rfl rfl hc13) rfl ?_
          refine JL.skip (.bool rfl rfl rfl hc13) rfl ?_
          refine JL.pick_t (b := (((!y7) || (decide (y5 < 0))) || (decide (y6 < y5)))) rfl hc13 .none rfl ?_
          exact hJ12 _ ⟨rfl, rfl, rfl, rfl, or_t hc13 rfl⟩
        · skip
          refine JL.move (.some rfl rfl rfl hc13) rfl ?_
          refine JL.bin rfl rfl rfl (.some rfl rfl rfl hc13) rfl ?_
          refine JL.pick_f (b := (((!y7) || (decide (y5 < 0))) || (decide (y6 < y5)))) rfl hc13 .none rfl ?_
          exact hJ12 _ ⟨rfl, rfl, rfl, rfl, or_f hc13 rfl⟩
      · rintro f ⟨hf2, hf3, hf7, hf8, hf45⟩
        refine (JL.norm (i := 2) hf2 (JL.norm (i := 3) hf3 (JL.norm (i := 7) hf7 (JL.norm (i := 8) hf8 (JL.norm (i := 45) hf45 ?_)))))
        refine JL.move .none rfl ?_
        refine JL.cut 3 (fun f => f 2 = .int .i64 blow ∧ f 3 = .pointer (some ⟨b1, 0, none⟩) ∧ f 7 = .int .i64 y5 ∧ f 8 = .int .i64 y6 ∧ f 49 = .bool (((((!y7) || (decide (y5 < 0))) || (decide (y6 < y5))) || (decide (99 < y6))) || (decide (blow < 0)))) ?_ ?_
        · intro hJ14
          rcases bcases ((((!y7) || (decide (y5 < 0))) || (decide (y6 < y5))) || (decide (99 < y6))) with hc15 | hc15
          · skip
            refine JL.skip (.bool rfl rfl rfl hc15) rfl ?_
            refine JL.skip (.bool rfl rfl rfl hc15) rfl ?_
            refine JL.pick_t (b := ((((!y7) || (decide (y5 < 0))) || (decide (y6 < y5))) || (decide (99 < y6)))) rfl hc15 .none rfl ?_
            exact hJ14 _ ⟨rfl, rfl, rfl, rfl, or_t hc15 rfl⟩
          · skip
            refine JL.move (.some rfl rfl rfl hc15) rfl ?_
            refine JL.bin rfl rfl rfl (.some rfl rfl rfl hc15) rfl ?_
            refine JL.pick_f (b := ((((!y7) || (decide (y5 < 0))) || (decide (y6 < y5))) || (decide (99 < y6)))) rfl hc15 .none rfl ?_
            exact hJ14 _ ⟨rfl, rfl, rfl, rfl, or_f hc15 rfl⟩
        · rintro f ⟨hf2, hf3, hf7, hf8, hf49⟩
          refine (JL.norm (i := 2) hf2 (JL.norm (i := 3) hf3 (JL.norm (i := 7) hf7 (JL.norm (i := 8) hf8 (JL.norm (i := 49) hf49 ?_)))))
          refine JL.move .none rfl ?_
          refine JL.cut 6 (fun f => f 2 = .int .i64 blow ∧ f 3 = .pointer (some ⟨b1, 0, none⟩) ∧ f 7 = .int .i64 y5 ∧ f 8 = .int .i64 y6 ∧ f 56 = .bool ((((((!y7) || (decide (y5 < 0))) || (decide (y6 < y5))) || (decide (99 < y6))) || (decide (blow < 0))) || (decide ((r.Blows.length : Int) ≤ blow)))) ?_ ?_
          · intro hJ16
            rcases bcases (((((!y7) || (decide (y5 < 0))) || (decide (y6 < y5))) || (decide (99 < y6))) || (decide (blow < 0))) with hc17 | hc17
            · skip
              refine JL.skip (.bool rfl rfl rfl hc17) rfl ?_
              refine JL.skip (.bool rfl rfl rfl hc17) rfl ?_
              refine JL.skip (.bool rfl rfl rfl hc17) rfl ?_
              refine JL.skip (.bool rfl rfl rfl hc17) rfl ?_
              refine JL.skip (.bool rfl rfl rfl hc17) rfl ?_
              refine JL.pick_t (b := (((((!y7) || (decide (y5 < 0))) || (decide (y6 < y5))) || (decide (99 < y6))) || (decide (blow < 0)))) rfl hc17 .none rfl ?_
              exact hJ16 _ ⟨rfl, rfl, rfl, rfl, or_t hc17 rfl⟩
            · skip
              refine JL.move (.some rfl rfl rfl hc17) rfl ?_
              refine JL.fieldAddr fo_34_1 rfl (.some rfl rfl rfl hc17) rfl ?_
              refine JL.loadOwn 1 az_31 rfl rfl rfl (.some rfl rfl rfl hc17) rfl ?_
              refine JL.lenSL (R := R_Blow) ul_31 hr_9 (.some rfl rfl rfl hc17) rfl ?_
              refine JL.bin rfl rfl rfl (.some rfl rfl rfl hc17) rfl ?_
              refine JL.pick_f (b := (((((!y7) || (decide (y5 < 0))) || (decide (y6 < y5))) || (decide (99 < y6))) || (decide (blow < 0)))) rfl hc17 .none rfl ?_
              exact hJ16 _ ⟨rfl, rfl, rfl, rfl, or_f hc17 rfl⟩
          · rintro f ⟨hf2, hf3, hf7, hf8, hf56⟩
            refine (JL.norm (i := 2) hf2 (JL.norm (i := 3) hf3 (JL.norm (i := 7) hf7 (JL.norm (i := 8) hf8 (JL.norm (i := 56) hf56 ?_)))))
            refine JL.done hQ ?_
            refine JQ.go ?_
            rcases ite_some hF with ⟨hc18, hF⟩ | ⟨hc18, hF⟩
            · refine JC.cond_t (b := ((((((!y7) || (decide (y5 < 0))) || (decide (y6 < y5))) || (decide (99 < y6))) || (decide (blow < 0))) || (decide ((r.Blows.length : Int) ≤ blow)))) rfl hc18 ?_
              refine JC.seq ?_
              refine JC.region (by rfl) ?_
              intro hQ
              obtain ⟨y19, hy19, hF⟩ := bind_some hF
              refine JL.callS (c_law13_works n H y19 hy19) rfl en_9 .none rfl ?_
              refine JL.assign .none rfl ?_
              refine JL.done hQ ?_
              refine JQ.go ?_
              refine JC.ret ?_
              refine JQ.ret_then ?_
              obtain rfl := Option.some.inj hF
              exact JQ.outS rfl (.tmp .nil) rfl
            · refine JC.cond_f (b := ((((((!y7) || (decide (y5 < 0))) || (decide (y6 < y5))) || (decide (99 < y6))) || (decide (blow < 0))) || (decide ((r.Blows.length : Int) ≤ blow)))) rfl hc18 ?_
              refine JC.skip ?_
              refine JQ.go ?_
              refine JC.seq ?_
              refine JC.region (by rfl) ?_
              intro hQ
              refine JL.loadOwn 1 az_34 rfl rfl rfl .none rfl ?_
              refine JL.move .none rfl ?_
              obtain ⟨y20, hy20, hF⟩ := bind_some hF
              refine JL.callS (c_counts_Reads n H r r_v0 hr_0 r_v7 hr_7 r_v8 hr_8 r_v9 hr_9 r_v10 hr_10 y5 y20 hy20) rfl en_17 .none rfl ?_
              refine JL.move .none rfl ?_
              refine JL.extract rfl rfl .none rfl ?_
              refine JL.extract rfl rfl .none rfl ?_
              refine JL.alloc ze_49 .none rfl ?_
              intro b21
              refine JL.storeOwn 0 (cs := [.int .i64 y20.1.Low, .int .i64 y20.1.High]) az_49 rfl rfl rfl (one_cons rfl (one_cons rfl one_nil)) rfl rfl .none ?_
              refine JL.assign .none rfl ?_
              refine JL.done hQ ?_
              refine JQ.go ?_
              refine JC.seq ?_
              refine JC.region (by rfl) ?_
              intro hQ
              refine JL.loadOwn 2 az_34 rfl rfl rfl .none rfl ?_
              refine JL.move .none rfl ?_
              obtain ⟨y22, hy22, hF⟩ := bind_some hF
              refine JL.callS (c_counts_Reads n H r r_v0 hr_0 r_v7 hr_7 r_v8 hr_8 r_v9 hr_9 r_v10 hr_10 y6 y22 hy22) rfl en_17 .none rfl ?_
              refine JL.move .none rfl ?_
              refine JL.extract rfl rfl .none rfl ?_
              refine JL.extract rfl rfl .none rfl ?_
              refine JL.alloc ze_49 .none rfl ?_
              intro b23
              refine JL.storeOwn 0 (cs := [.int .i64 y22.1.Low, .int .i64 y22.1.High]) az_49 rfl rfl rfl (one_cons rfl (one_cons rfl one_nil)) rfl rfl .none ?_
              refine JL.assign .none rfl ?_
              refine JL.done hQ ?_
              refine JQ.go ?_
              refine JC.fresh (fun f => f 2 = .int .i64 blow ∧ f 3 = .pointer (some ⟨b1, 0, none⟩) ∧ f 7 = .int .i64 y5 ∧ f 9 = .pointer (some ⟨b21, 0, none⟩) ∧ f 10 = .int .i64 y20.2 ∧ f 11 = .pointer (some ⟨b23, 0, none⟩) ∧ f 12 = .int .i64 y22.2) ⟨rfl, rfl, rfl, rfl, rfl, rfl, rfl⟩ ?_
              rintro f ⟨hf2, hf3, hf7, hf9, hf10, hf11, hf12⟩
              refine (JC.norm (i := 2) hf2 (JC.norm (i := 3) hf3 (JC.norm (i := 7) hf7 (JC.norm (i := 9) hf9 (JC.norm (i := 10) hf10 (JC.norm (i := 11) hf11 (JC.norm (i := 12) hf12 ?_)))))))
              refine JC.seq ?_
              refine JC.region (by rfl) ?_
              intro hQ
              refine JL.loadOwn 3 az_34 rfl rfl rfl .none rfl ?_
              obtain ⟨y24, hy24, hF⟩ := bind_some hF
              refine JL.callS (c_counts_Reads n H r r_v0 hr_0 r_v7 hr_7 r_v8 hr_8 r_v9 hr_9 r_v10 hr_10 0 y24 hy24) rfl en_17 .none rfl ?_
              refine JL.move .none rfl ?_
              refine JL.extract rfl rfl .none rfl ?_
              refine JL.extract rfl rfl .none rfl ?_
              refine JL.alloc ze_49 .none rfl ?_
              intro b25
              refine JL.storeOwn 0 (cs := [.int .i64 y24.1.Low, .int .i64 y24.1.High]) az_49 rfl rfl rfl (one_cons rfl (one_cons rfl one_nil)) rfl rfl .none ?_
              refine JL.assign .none rfl ?_
              refine JL.done hQ ?_
              refine JQ.go ?_
              refine JC.seq ?_
              refine JC.seq ?_
              refine JC.region (by rfl) ?_
              intro hQ
              refine JL.move .none rfl ?_
              refine JL.move .none rfl ?_
              refine JL.bin rfl rfl rfl .none rfl ?_
              refine JL.move .none rfl ?_
              refine JL.cut 4 (fun f => f 2 = .int .i64 blow ∧ f 3 = .pointer (some ⟨b1, 0, none⟩) ∧ f 7 = .int .i64 y5 ∧ f 9 = .pointer (some ⟨b21, 0, none⟩) ∧ f 10 = .int .i64 y20.2 ∧ f 11 = .pointer (some ⟨b23, 0, none⟩) ∧ f 13 = .pointer (some ⟨b25, 0, none⟩) ∧ f 82 = .bool ((y20.2 != y22.2) || (y20.2 != y24.2))) ?_ ?_
              · intro hJ26
                rcases bcases (y20.2 != y22.2) with hc27 | hc27
                · skip
                  refine JL.skip (.bool rfl rfl rfl hc27) rfl ?_
                  refine JL.skip (.bool rfl rfl rfl hc27) rfl ?_
                  refine JL.skip (.bool rfl rfl rfl hc27) rfl ?_
                  refine JL.pick_t (b := (y20.2 != y22.2)) rfl hc27 .none rfl ?_
                  exact hJ26 _ ⟨rfl, rfl, rfl, rfl, rfl, rfl, rfl, or_t hc27 rfl⟩
                · skip
                  refine JL.move (.some rfl rfl rfl hc27) rfl ?_
                  refine JL.move (.some rfl rfl rfl hc27) rfl ?_
                  refine JL.bin rfl rfl rfl (.some rfl rfl rfl hc27) rfl ?_
                  refine JL.pick_f (b := (y20.2 != y22.2)) rfl hc27 .none rfl ?_
                  exact hJ26 _ ⟨rfl, rfl, rfl, rfl, rfl, rfl, rfl, or_f hc27 rfl⟩
              · rintro f ⟨hf2, hf3, hf7, hf9, hf10, hf11, hf13, hf82⟩
                refine (JL.norm (i := 2) hf2 (JL.norm (i := 3) hf3 (JL.norm (i := 7) hf7 (JL.norm (i := 9) hf9 (JL.norm (i := 10) hf10 (JL.norm (i := 11) hf11 (JL.norm (i := 13) hf13 (JL.norm (i := 82) hf82 ?_))))))))
                refine JL.move .none rfl ?_
                refine JL.cut 7 (fun f => f 2 = .int .i64 blow ∧ f 3 = .pointer (some ⟨b1, 0, none⟩) ∧ f 7 = .int .i64 y5 ∧ f 9 = .pointer (some ⟨b21, 0, none⟩) ∧ f 10 = .int .i64 y20.2 ∧ f 11 = .pointer (some ⟨b23, 0, none⟩) ∧ f 13 = .pointer (some ⟨b25, 0, none⟩) ∧ f 90 = .bool (((y20.2 != y22.2) || (y20.2 != y24.2)) || ((y20.2 != 0) && (y20.2 != 3)))) ?_ ?_
                · intro hJ30
                  rcases bcases ((y20.2 != y22.2) || (y20.2 != y24.2)) with hc31 | hc31
                  · skip
                    refine JL.skip (.bool rfl rfl rfl hc31) rfl ?_
                    refine JL.skip (.bool rfl rfl rfl hc31) rfl ?_
                    refine JL.skip (.bool rfl rfl rfl hc31) rfl ?_
                    refine JL.skip (.no rfl rfl rfl) rfl ?_
                    refine JL.skip (.no rfl rfl rfl) rfl ?_
                    refine JL.skip (.bool rfl rfl rfl hc31) rfl ?_
                    refine JL.pick_t (b := ((y20.2 != y22.2) || (y20.2 != y24.2))) rfl hc31 .none rfl ?_
                    exact hJ30 _ ⟨rfl, rfl, rfl, rfl, rfl, rfl, rfl, or_t hc31 rfl⟩
                  · skip
                    refine JL.move (.some rfl rfl rfl hc31) rfl ?_
                    refine JL.bin rfl rfl rfl (.some rfl rfl rfl hc31) rfl ?_
                    refine JL.move (.some rfl rfl rfl hc31) rfl ?_
                    refine JL.cut 3 (fun f => f 2 = .int .i64 blow ∧ f 3 = .pointer (some ⟨b1, 0, none⟩) ∧ f 7 = .int .i64 y5 ∧ f 9 = .pointer (some ⟨b21, 0, none⟩) ∧ f 10 = .int .i64 y20.2 ∧ f 11 = .pointer (some ⟨b23, 0, none⟩) ∧ f 13 = .pointer (some ⟨b25, 0, none⟩) ∧ f 83 = .bool ((y20.2 != y22.2) || (y20.2 != y24.2)) ∧ f 89 = .bool ((y20.2 != 0) && (y20.2 != 3))) ?_ ?_
                    · intro hJ32
                      rcases bcases (y20.2 != 0) with hc33 | hc33
                      · skip
                        refine JL.move (.some rfl rfl rfl hc33) rfl ?_
                        refine JL.bin rfl rfl rfl (.some rfl rfl rfl hc33) rfl ?_
                        refine JL.pick_t (b := (y20.2 != 0)) rfl hc33 (.some rfl rfl rfl hc31) rfl ?_
                        exact hJ32 _ ⟨rfl, rfl, rfl, rfl, rfl, rfl, rfl, rfl, and_t hc33 rfl⟩
                      · skip
                        refine JL.skip (.bool rfl rfl rfl hc33) rfl ?_
                        refine JL.skip (.bool rfl rfl rfl hc33) rfl ?_
                        refine JL.pick_f (b := (y20.2 != 0)) rfl hc33 (.some rfl rfl rfl hc31) rfl ?_
                        exact hJ32 _ ⟨rfl, rfl, rfl, rfl, rfl, rfl, rfl, rfl, and_f hc33 rfl⟩
                    · rintro f ⟨hf2, hf3, hf7, hf9, hf10, hf11, hf13, hf83, hf89⟩
                      refine (JL.norm (i := 2) hf2 (JL.norm (i := 3) hf3 (JL.norm (i := 7) hf7 (JL.norm (i := 9) hf9 (JL.norm (i := 10) hf10 (JL.norm (i := 11) hf11 (JL.norm (i := 13) hf13 (JL.norm (i := 83) hf83 (JL.norm (i := 89) hf89 ?_)))))))))
                      refine JL.pick_f (b := ((y20.2 != y22.2) || (y20.2 != y24.2))) rfl hc31 .none rfl ?_
                      exact hJ30 _ ⟨rfl, rfl, rfl, rfl, rfl, rfl, rfl, or_f hc31 rfl⟩
                · rintro f ⟨hf2, hf3, hf7, hf9, hf10, hf11, hf13, hf90⟩
                  refine (JL.norm (i := 2) hf2 (JL.norm (i := 3) hf3 (JL.norm (i := 7) hf7 (JL.norm (i := 9) hf9 (JL.norm (i := 10) hf10 (JL.norm (i := 11) hf11 (JL.norm (i := 13) hf13 (JL.norm (i := 90) hf90 ?_))))))))
                  refine JL.done hQ ?_
                  refine JQ.go ?_
                  rcases ite_some hF with ⟨hc34, hF⟩ | ⟨hc34, hF⟩
                  · refine JC.cond_t (b := (((y20.2 != y22.2) || (y20.2 != y24.2)) || ((y20.2 != 0) && (y20.2 != 3)))) rfl hc34 ?_
                    refine JC.seq ?_
                    refine JC.region (by rfl) ?_
                    intro hQ
                    refine JL.assign .none rfl ?_
                    refine JL.done hQ ?_
                    refine JQ.go ?_
                    refine JC.ret ?_
                    refine JQ.ret_then ?_
                    obtain rfl := Option.some.inj hF
                    exact JQ.outS rfl (.tmp .nil) rfl
                  · refine JC.cond_f (b := (((y20.2 != y22.2) || (y20.2 != y24.2)) || ((y20.2 != 0) && (y20.2 != 3)))) rfl hc34 ?_
                    refine JC.skip ?_
                    refine JQ.go ?_
                    refine JC.seq ?_
                    refine JC.seq ?_
                    refine JC.region (by rfl) ?_
                    intro hQ
                    refine JL.move .none rfl ?_
                    refine JL.bin rfl rfl rfl .none rfl ?_
                    refine JL.done hQ ?_
                    refine JQ.go ?_
                    rcases ite_some hF with ⟨hc35, hF⟩ | ⟨hc35, hF⟩
                    · refine JC.cond_t (b := (y20.2 != 0)) rfl hc35 ?_
                      refine JC.seq ?_
                      refine JC.region (by rfl) ?_
                      intro hQ
                      obtain ⟨y36, hy36, hF⟩ := bind_some hF
                      refine JL.callS (c_law13_works n H y36 hy36) rfl en_9 .none rfl ?_
                      refine JL.assign .none rfl ?_
                      refine JL.done hQ ?_
                      refine JQ.go ?_
                      refine JC.ret ?_
                      refine JQ.ret_then ?_
                      obtain rfl := Option.some.inj hF
                      exact JQ.outS rfl (.tmp .nil) rfl
                    · refine JC.cond_f (b := (y20.2 != 0)) rfl hc35 ?_
                      refine JC.skip ?_
                      refine JQ.go ?_
                      refine JC.seq ?_
                      refine JC.seq ?_
                      refine JC.region (by rfl) ?_
                      intro hQ
                      refine JL.fieldAddr fo_49_0 rfl .none rfl ?_
                      refine JL.loadOwn 1 az_3 rfl rfl rfl .none rfl ?_
                      refine JL.fieldAddr fo_49_0 rfl .none rfl ?_
                      refine JL.loadOwn 2 az_3 rfl rfl rfl .none rfl ?_
                      refine JL.bin rfl rfl rfl .none rfl ?_
                      refine JL.move .none rfl ?_
                      refine JL.cut 6 (fun f => f 2 = .int .i64 blow ∧ f 3 = .pointer (some ⟨b1, 0, none⟩) ∧ f 7 = .int .i64 y5 ∧ f 9 = .pointer (some ⟨b21, 0, none⟩) ∧ f 13 = .pointer (some ⟨b25, 0, none⟩) ∧ f 105 = .bool ((decide (y20.1.Low < y22.1.Low)) || (decide (y20.1.High < y22.1.High)))) ?_ ?_
                      · intro hJ37
                        rcases bcases (decide (y20.1.Low < y22.1.Low)) with hc38 | hc38
                        · skip
                          refine JL.skip (.bool rfl rfl rfl hc38) rfl ?_
                          refine JL.skip (.bool rfl rfl rfl hc38) rfl ?_
                          refine JL.skip (.bool rfl rfl rfl hc38) rfl ?_
                          refine JL.skip (.bool rfl rfl rfl hc38) rfl ?_
                          refine JL.skip (.bool rfl rfl rfl hc38) rfl ?_
                          refine JL.pick_t (b := decide (y20.1.Low < y22.1.Low)) rfl hc38 .none rfl ?_
                          exact hJ37 _ ⟨rfl, rfl, rfl, rfl, rfl, or_t hc38 rfl⟩
                        · skip
                          refine JL.fieldAddr fo_49_1 rfl (.some rfl rfl rfl hc38) rfl ?_
                          refine JL.loadOwn 1 az_3 rfl rfl rfl (.some rfl rfl rfl hc38) rfl ?_
                          refine JL.fieldAddr fo_49_1 rfl (.some rfl rfl rfl hc38) rfl ?_
                          refine JL.loadOwn 2 az_3 rfl rfl rfl (.some rfl rfl rfl hc38) rfl ?_
                          refine JL.bin rfl rfl rfl (.some rfl rfl rfl hc38) rfl ?_
                          refine JL.pick_f (b := decide (y20.1.Low < y22.1.Low)) rfl hc38 .none rfl ?_
                          exact hJ37 _ ⟨rfl, rfl, rfl, rfl, rfl, or_f hc38 rfl⟩
                      · rintro f ⟨hf2, hf3, hf7, hf9, hf13, hf105⟩
                        refine (JL.norm (i := 2) hf2 (JL.norm (i := 3) hf3 (JL.norm (i := 7) hf7 (JL.norm (i := 9) hf9 (JL.norm (i := 13) hf13 (JL.norm (i := 105) hf105 ?_))))))
                        refine JL.move .none rfl ?_
                        refine JL.cut 10 (fun f => f 2 = .int .i64 blow ∧ f 3 = .pointer (some ⟨b1, 0, none⟩) ∧ f 7 = .int .i64 y5 ∧ f 9 = .pointer (some ⟨b21, 0, none⟩) ∧ f 116 = .bool (((decide (y20.1.Low < y22.1.Low)) || (decide (y20.1.High < y22.1.High))) || (!((y24.1.Low == (r.Blows.length : Int)) && (y24.1.High == (r.Blows.length : Int)))))) ?_ ?_
                        · intro hJ39
                          rcases bcases ((decide (y20.1.Low < y22.1.Low)) || (decide (y20.1.High < y22.1.High))) with hc40 | hc40
                          · skip
                            refine JL.skip (.bool rfl rfl rfl hc40) rfl ?_
                            refine JL.skip (.bool rfl rfl rfl hc40) rfl ?_
                            refine JL.skip (.bool rfl rfl rfl hc40) rfl ?_
                            refine JL.skip (.bool rfl rfl rfl hc40) rfl ?_
                            refine JL.skip (.bool rfl rfl rfl hc40) rfl ?_
                            refine JL.skip (.bool rfl rfl rfl hc40) rfl ?_
                            refine JL.skip (.bool rfl rfl rfl hc40) rfl ?_
                            refine JL.skip (.bool rfl rfl rfl hc40) rfl ?_
                            refine JL.skip (.bool rfl rfl rfl hc40) rfl ?_
                            refine JL.pick_t (b := ((decide (y20.1.Low < y22.1.Low)) || (decide (y20.1.High < y22.1.High)))) rfl hc40 .none rfl ?_
                            exact hJ39 _ ⟨rfl, rfl, rfl, rfl, or_t hc40 rfl⟩
                          · skip
                            refine JL.loadOwn 0 az_49 rfl rfl rfl (.some rfl rfl rfl hc40) rfl ?_
                            refine JL.fieldAddr fo_34_1 rfl (.some rfl rfl rfl hc40) rfl ?_
                            refine JL.loadOwn 4 az_31 rfl rfl rfl (.some rfl rfl rfl hc40) rfl ?_
                            refine JL.lenSL (R := R_Blow) ul_31 hr_9 (.some rfl rfl rfl hc40) rfl ?_
                            refine JL.fieldAddr fo_34_1 rfl (.some rfl rfl rfl hc40) rfl ?_
                            refine JL.loadOwn 4 az_31 rfl rfl rfl (.some rfl rfl rfl hc40) rfl ?_
                            refine JL.lenSL (R := R_Blow) ul_31 hr_9 (.some rfl rfl rfl hc40) rfl ?_
                            refine JL.build (l := [.int .i64 (r.Blows.length : Int), .int .i64 (r.Blows.length : Int)]) (by kernel_rfl) (.some rfl rfl rfl hc40) rfl ?_
                            refine JL.neAgg eqg_49 rfl rfl (fun w => eqa_49 y24.1.Low y24.1.High (r.Blows.length : Int) (r.Blows.length : Int) w) (.some rfl rfl rfl hc40) rfl ?_
                            refine JL.pick_f (b := ((decide (y20.1.Low < y22.1.Low)) || (decide (y20.1.High < y22.1.High)))) rfl hc40 .none rfl ?_
                            exact hJ39 _ ⟨rfl, rfl, rfl, rfl, or_f hc40 rfl⟩
                        · rintro f ⟨hf2, hf3, hf7, hf9, hf116⟩
                          refine (JL.norm (i := 2) hf2 (JL.norm (i := 3) hf3 (JL.norm (i := 7) hf7 (JL.norm (i := 9) hf9 (JL.norm (i := 116) hf116 ?_)))))
                          refine JL.move .none rfl ?_
                          refine JL.cut 4 (fun f => f 2 = .int .i64 blow ∧ f 3 = .pointer (some ⟨b1, 0, none⟩) ∧ f 7 = .int .i64 y5 ∧ f 9 = .pointer (some ⟨b21, 0, none⟩) ∧ f 121 = .bool ((((decide (y20.1.Low < y22.1.Low)) || (decide (y20.1.High < y22.1.High))) || (!((y24.1.Low == (r.Blows.length : Int)) && (y24.1.High == (r.Blows.length : Int))))) || (decide (y20.1.Low < 0)))) ?_ ?_
                          · intro hJ41
                            rcases bcases (((decide (y20.1.Low < y22.1.Low)) || (decide (y20.1.High < y22.1.High))) || (!((y24.1.Low == (r.Blows.length : Int)) && (y24.1.High == (r.Blows.length : Int))))) with hc42 | hc42
                            · skip
                              refine JL.skip (.bool rfl rfl rfl hc42) rfl ?_
                              refine JL.skip (.bool rfl rfl rfl hc42) rfl ?_
                              refine JL.skip (.bool rfl rfl rfl hc42) rfl ?_
                              refine JL.pick_t (b := (((decide (y20.1.Low < y22.1.Low)) || (decide (y20.1.High < y22.1.High))) || (!((y24.1.Low == (r.Blows.length : Int)) && (y24.1.High == (r.Blows.length : Int)))))) rfl hc42 .none rfl ?_
                              exact hJ41 _ ⟨rfl, rfl, rfl, rfl, or_t hc42 rfl⟩
                            · skip
                              refine JL.fieldAddr fo_49_0 rfl (.some rfl rfl rfl hc42) rfl ?_
                              refine JL.loadOwn 2 az_3 rfl rfl rfl (.some rfl rfl rfl hc42) rfl ?_
                              refine JL.bin rfl rfl rfl (.some rfl rfl rfl hc42) rfl ?_
                              refine JL.pick_f (b := (((decide (y20.1.Low < y22.1.Low)) || (decide (y20.1.High < y22.1.High))) || (!((y24.1.Low == (r.Blows.length : Int)) && (y24.1.High == (r.Blows.length : Int)))))) rfl hc42 .none rfl ?_
                              exact hJ41 _ ⟨rfl, rfl, rfl, rfl, or_f hc42 rfl⟩
                          · rintro f ⟨hf2, hf3, hf7, hf9, hf121⟩
                            refine (JL.norm (i := 2) hf2 (JL.norm (i := 3) hf3 (JL.norm (i := 7) hf7 (JL.norm (i := 9) hf9 (JL.norm (i := 121) hf121 ?_)))))
                            refine JL.move .none rfl ?_
                            refine JL.cut 7 (fun f => f 2 = .int .i64 blow ∧ f 3 = .pointer (some ⟨b1, 0, none⟩) ∧ f 7 = .int .i64 y5 ∧ f 9 = .pointer (some ⟨b21, 0, none⟩) ∧ f 129 = .bool (((((decide (y20.1.Low < y22.1.Low)) || (decide (y20.1.High < y22.1.High))) || (!((y24.1.Low == (r.Blows.length : Int)) && (y24.1.High == (r.Blows.length : Int))))) || (decide (y20.1.Low < 0))) || (decide ((r.Blows.length : Int) < y20.1.High)))) ?_ ?_
                            · intro hJ43
                              rcases bcases ((((decide (y20.1.Low < y22.1.Low)) || (decide (y20.1.High < y22.1.High))) || (!((y24.1.Low == (r.Blows.length : Int)) && (y24.1.High == (r.Blows.length : Int))))) || (decide (y20.1.Low < 0))) with hc44 | hc44
                              · skip
                                refine JL.skip (.bool rfl rfl rfl hc44) rfl ?_
                                refine JL.skip (.bool rfl rfl rfl hc44) rfl ?_
                                refine JL.skip (.bool rfl rfl rfl hc44) rfl ?_
                                refine JL.skip (.bool rfl rfl rfl hc44) rfl ?_
                                refine JL.skip (.bool rfl rfl rfl hc44) rfl ?_
                                refine JL.skip (.bool rfl rfl rfl hc44) rfl ?_
                                refine JL.pick_t (b := ((((decide (y20.1.Low < y22.1.Low)) || (decide (y20.1.High < y22.1.High))) || (!((y24.1.Low == (r.Blows.length : Int)) && (y24.1.High == (r.Blows.length : Int))))) || (decide (y20.1.Low < 0)))) rfl hc44 .none rfl ?_
                                exact hJ43 _ ⟨rfl, rfl, rfl, rfl, or_t hc44 rfl⟩
                              · skip
                                refine JL.fieldAddr fo_49_1 rfl (.some rfl rfl rfl hc44) rfl ?_
                                refine JL.loadOwn 2 az_3 rfl rfl rfl (.some rfl rfl rfl hc44) rfl ?_
                                refine JL.fieldAddr fo_34_1 rfl (.some rfl rfl rfl hc44) rfl ?_
                                refine JL.loadOwn 4 az_31 rfl rfl rfl (.some rfl rfl rfl hc44) rfl ?_
                                refine JL.lenSL (R := R_Blow) ul_31 hr_9 (.some rfl rfl rfl hc44) rfl ?_
                                refine JL.bin rfl rfl rfl (.some rfl rfl rfl hc44) rfl ?_
                                refine JL.pick_f (b := ((((decide (y20.1.Low < y22.1.Low)) || (decide (y20.1.High < y22.1.High))) || (!((y24.1.Low == (r.Blows.length : Int)) && (y24.1.High == (r.Blows.length : Int))))) || (decide (y20.1.Low < 0)))) rfl hc44 .none rfl ?_
                                exact hJ43 _ ⟨rfl, rfl, rfl, rfl, or_f hc44 rfl⟩
                            · rintro f ⟨hf2, hf3, hf7, hf9, hf129⟩
                              refine (JL.norm (i := 2) hf2 (JL.norm (i := 3) hf3 (JL.norm (i := 7) hf7 (JL.norm (i := 9) hf9 (JL.norm (i := 129) hf129 ?_)))))
                              refine JL.done hQ ?_
                              refine JQ.go ?_
                              rcases ite_some hF with ⟨hc45, hF⟩ | ⟨hc45, hF⟩
                              · refine JC.cond_t (b := (((((decide (y20.1.Low < y22.1.Low)) || (decide (y20.1.High < y22.1.High))) || (!((y24.1.Low == (r.Blows.length : Int)) && (y24.1.High == (r.Blows.length : Int))))) || (decide (y20.1.Low < 0))) || (decide ((r.Blows.length : Int) < y20.1.High)))) rfl hc45 ?_
                                refine JC.seq ?_
                                refine JC.region (by rfl) ?_
                                intro hQ
                                refine JL.assign .none rfl ?_
                                refine JL.done hQ ?_
                                refine JQ.go ?_
                                refine JC.ret ?_
                                refine JQ.ret_then ?_
                                obtain rfl := Option.some.inj hF
                                exact JQ.outS rfl (.tmp .nil) rfl
                              · refine JC.cond_f (b := (((((decide (y20.1.Low < y22.1.Low)) || (decide (y20.1.High < y22.1.High))) || (!((y24.1.Low == (r.Blows.length : Int)) && (y24.1.High == (r.Blows.length : Int))))) || (decide (y20.1.Low < 0))) || (decide ((r.Blows.length : Int) < y20.1.High)))) rfl hc45 ?_
                                refine JC.skip ?_
                                refine JQ.go ?_
                                refine JC.seq ?_
                                refine JC.seq ?_
                                refine JC.region (by rfl) ?_
                                intro hQ
                                refine JL.fieldAddr fo_49_0 rfl .none rfl ?_
                                refine JL.loadOwn 2 az_3 rfl rfl rfl .none rfl ?_
                                refine JL.fieldAddr fo_49_1 rfl .none rfl ?_
                                refine JL.loadOwn 2 az_3 rfl rfl rfl .none rfl ?_
                                refine JL.bin rfl rfl rfl .none rfl ?_
                                refine JL.move .none rfl ?_
                                refine JL.cut 5 (fun f => f 2 = .int .i64 blow ∧ f 3 = .pointer (some ⟨b1, 0, none⟩) ∧ f 7 = .int .i64 y5 ∧ f 9 = .pointer (some ⟨b21, 0, none⟩) ∧ f 140 = .bool ((y20.1.Low != y20.1.High) || (decide (5 ≤ (r.Meters.length : Int))))) ?_ ?_
                                · intro hJ46
                                  rcases bcases (y20.1.Low != y20.1.High) with hc47 | hc47
                                  · skip
                                    refine JL.skip (.bool rfl rfl rfl hc47) rfl ?_
                                    refine JL.skip (.bool rfl rfl rfl hc47) rfl ?_
                                    refine JL.skip (.bool rfl rfl rfl hc47) rfl ?_
                                    refine JL.skip (.bool rfl rfl rfl hc47) rfl ?_
                                    refine JL.pick_t (b := (y20.1.Low != y20.1.High)) rfl hc47 .none rfl ?_
                                    exact hJ46 _ ⟨rfl, rfl, rfl, rfl, or_t hc47 rfl⟩
                                  · skip
                                    refine JL.fieldAddr fo_34_2 rfl (.some rfl rfl rfl hc47) rfl ?_
                                    refine JL.loadOwn 4 az_32 rfl rfl rfl (.some rfl rfl rfl hc47) rfl ?_
                                    refine JL.lenSL (R := R_Meter) ul_32 hr_10 (.some rfl rfl rfl hc47) rfl ?_
                                    refine JL.bin rfl rfl rfl (.some rfl rfl rfl hc47) rfl ?_
                                    refine JL.pick_f (b := (y20.1.Low != y20.1.High)) rfl hc47 .none rfl ?_
                                    exact hJ46 _ ⟨rfl, rfl, rfl, rfl, or_f hc47 rfl⟩
                                · rintro f ⟨hf2, hf3, hf7, hf9, hf140⟩
                                  refine (JL.norm (i := 2) hf2 (JL.norm (i := 3) hf3 (JL.norm (i := 7) hf7 (JL.norm (i := 9) hf9 (JL.norm (i := 140) hf140 ?_)))))
                                  refine JL.done hQ ?_
                                  refine JQ.go ?_
                                  rcases ite_some hF with ⟨hc48, hF⟩ | ⟨hc48, hF⟩
                                  · refine JC.cond_t (b := ((y20.1.Low != y20.1.High) || (decide (5 ≤ (r.Meters.length : Int))))) rfl hc48 ?_
                                    refine JC.seq ?_
                                    refine JC.region (by rfl) ?_
                                    intro hQ
                                    obtain ⟨y49, hy49, hF⟩ := bind_some hF
                                    refine JL.callS (c_law13_works n H y49 hy49) rfl en_9 .none rfl ?_
                                    refine JL.assign .none rfl ?_
                                    refine JL.done hQ ?_
                                    refine JQ.go ?_
                                    refine JC.ret ?_
                                    refine JQ.ret_then ?_
                                    obtain rfl := Option.some.inj hF
                                    exact JQ.outS rfl (.tmp .nil) rfl
                                  · refine JC.cond_f (b := ((y20.1.Low != y20.1.High) || (decide (5 ≤ (r.Meters.length : Int))))) rfl hc48 ?_
                                    refine JC.skip ?_
                                    refine JQ.go ?_
                                    refine JC.seq ?_
                                    refine JC.region (by rfl) ?_
                                    intro hQ
                                    refine JL.loadOwn 4 az_34 rfl rfl rfl .none rfl ?_
                                    obtain ⟨y50, hy50, hF⟩ := bind_some hF
                                    refine JL.callXC (x_ref13_Copy n H r r_v0 hr_0 r_v7 hr_7 r_v8 hr_8 r_v9 hr_9 r_v10 hr_10 y50 hy50) rfl en_10 .none rfl ?_
                                    rintro H51 vv52 _ hs51 ⟨y50_v0, y50_v1, y50_v2, y50_v3, y50_xs3, y50_v4, y50_xs4, rfl, rfl, hy50_0, hy50_1, hy50_2, hy50_3, hy50_4⟩
                                    refine JL.alloc ze_34 .none rfl ?_
                                    intro b55
                                    refine JL.oneG 1 rfl (fun ho56 => ?_)
                                    refine JL.oneG 0 rfl (fun ho57 => ?_)
                                    refine JL.storeOwn 0 (cs := [y50_v0, .int .i64 y50.Canopy.Frame.Low, .int .i64 y50.Canopy.Frame.High, .int .i64 y50.Canopy.Frame.Ease.Num, .int .i64 y50.Canopy.Frame.Ease.Den, .int .i64 y50.Canopy.Frame.Rod, .int .i64 y50.Canopy.Frame.Case, y50_v1, y50_v2, y50_v3, y50_v4, .int .i64 y50.Wrong]) az_34 rfl rfl rfl (one_cons (SL.one hy50_0) (one_cons rfl (one_cons rfl (one_cons rfl (one_cons rfl (one_cons rfl (one_cons rfl (one_cons (SL.one hy50_1) (one_cons (SL.one hy50_2) (one_cons ho56.1 (one_cons ho57.1 (one_cons rfl one_nil)))))))))))) rfl rfl .none ?_
                                    refine JL.done hQ ?_
                                    refine JQ.go ?_
                                    refine JC.seq ?_
                                    refine JC.region (by rfl) ?_
                                    intro hQ
                                    refine JL.fieldAddr fo_34_2 rfl .none rfl ?_
                                    refine JL.loadOwn 0 az_32 rfl rfl rfl .none rfl ?_
                                    refine JL.move .none rfl ?_
                                    refine JL.fieldAddr fo_49_0 rfl .none rfl ?_
                                    refine JL.loadOwn 3 az_3 rfl rfl rfl .none rfl ?_
                                    refine JL.build (l := [.int .i64 y5, .int .i64 y20.1.Low]) (by kernel_rfl) .none rfl ?_
                                    refine JL.buildSlice (e := 36) (l := [.int .i64 y5, .int .i64 y20.1.Low]) (by kernel_rfl) .none rfl ?_
                                    intro b58
                                    obtain ⟨l59, hl59, hF⟩ := bind_some hF
                                    refine JL.appO (R := R_Meter) 0 0 (l := y50.Meters) (m := [(Meter.mk y5 y20.1.Low)]) ap_32 rfl ⟨rfl, rfl⟩ rfl hy50_4 rfl rfl rfl (CH.cons (cs := [.int .i64 y5, .int .i64 y20.1.Low]) rfl rfl CH.nil) rfl (one_cons rfl (one_cons rfl one_nil)) hl59 .none rfl ?_
                                    intro v60 xs61 hch62
                                    refine JL.fieldAddr fo_34_2 rfl .none rfl ?_
                                    refine JL.oneG 0 rfl (fun ho63 => ?_)
                                    refine JL.storeOwn 1 (cs := [v60]) az_32 rfl ho63.2 rfl (one_cons ho63.1 one_nil) rfl rfl .none ?_
                                    refine JL.done hQ ?_
                                    refine JQ.go ?_
                                    refine JC.fresh (fun f => f 2 = .int .i64 blow ∧ f 3 = .pointer (some ⟨b1, 0, none⟩) ∧ f 15 = .pointer (some ⟨b55, 0, none⟩)) ⟨rfl, rfl, rfl⟩ ?_
                                    rintro f ⟨hf2, hf3, hf15⟩
                                    refine (JC.norm (i := 2) hf2 (JC.norm (i := 3) hf3 (JC.norm (i := 15) hf15 ?_)))
                                    refine JC.seq ?_
                                    refine JC.region (by rfl) ?_
                                    intro hQ
                                    refine JL.loadOwn 6 az_34 rfl rfl rfl .none rfl ?_
                                    obtain ⟨y64, hy64, hF⟩ := bind_some hF
                                    refine JL.callS (c_counts_Many n H51 r r_v0 (SL.mono R_Section_mono hs51 hr_0) r_v7 (SL.mono R_Span_mono hs51 hr_7) r_v8 (SL.mono RInt.mono hs51 hr_8) r_v9 (SL.mono R_Blow_mono hs51 hr_9) r_v10 (SL.mono R_Meter_mono hs51 hr_10) y64 hy64) rfl en_18 .none rfl ?_
                                    refine JL.move .none rfl ?_
                                    refine JL.extract rfl rfl .none rfl ?_
                                    refine JL.extract rfl rfl .none rfl ?_
                                    refine JL.assign .none rfl ?_
                                    refine JL.assign .none rfl ?_
                                    refine JL.done hQ ?_
                                    refine JQ.go ?_
                                    refine JC.seq ?_
                                    refine JC.region (by rfl) ?_
                                    intro hQ
                                    refine JL.loadOwn 1 az_34 rfl rfl rfl .none rfl ?_
                                    obtain ⟨y68, hy68, hF⟩ := bind_some hF
                                    refine JL.callLG2 (R := R_Blow) (S := R_Meter) 1 0 rfl R_Blow_mono hy50_3 rfl rfl R_Meter_mono hch62 rfl (fun H65 hs65 hg66 hg67 => c_counts_Many n H65 (Run.mk y50.Canopy y50.Blows l59 y50.Wrong) y50_v0 (SL.mono R_Section_mono hs65 hy50_0) y50_v1 (SL.mono R_Span_mono hs65 hy50_1) y50_v2 (SL.mono RInt.mono hs65 hy50_2) y50_v3 hg66 v60 hg67 y68 hy68) rfl en_18 .none rfl ?_
                                    refine JL.move .none rfl ?_
                                    refine JL.extract rfl rfl .none rfl ?_
                                    refine JL.extract rfl rfl .none rfl ?_
                                    refine JL.assign .none rfl ?_
                                    refine JL.assign .none rfl ?_
                                    refine JL.done hQ ?_
                                    refine JQ.go ?_
                                    refine JC.fresh (fun f => f 2 = .int .i64 blow ∧ f 3 = .pointer (some ⟨b1, 0, none⟩) ∧ f 15 = .pointer (some ⟨b55, 0, none⟩) ∧ f 16 = .int .i64 y64.1 ∧ f 17 = .int .i64 y64.2 ∧ f 18 = .int .i64 y68.1 ∧ f 19 = .int .i64 y68.2) ⟨rfl, rfl, rfl, rfl, rfl, rfl, rfl⟩ ?_
                                    rintro f ⟨hf2, hf3, hf15, hf16, hf17, hf18, hf19⟩
                                    refine (JC.norm (i := 2) hf2 (JC.norm (i := 3) hf3 (JC.norm (i := 15) hf15 (JC.norm (i := 16) hf16 (JC.norm (i := 17) hf17 (JC.norm (i := 18) hf18 (JC.norm (i := 19) hf19 ?_)))))))
                                    refine JC.seq ?_
                                    refine JC.region (by rfl) ?_
                                    intro hQ
                                    refine JL.loadOwn 6 az_34 rfl rfl rfl .none rfl ?_
                                    refine JL.move .none rfl ?_
                                    obtain ⟨y69, hy69, hF⟩ := bind_some hF
                                    refine JL.callH (c_counts_Forces n H51 r r_v0 (SL.mono R_Section_mono hs51 hr_0) r_v7 (SL.mono R_Span_mono hs51 hr_7) r_v8 (SL.mono RInt.mono hs51 hr_8) r_v9 (SL.mono R_Blow_mono hs51 hr_9) r_v10 (SL.mono R_Meter_mono hs51 hr_10) blow y69 hy69) rfl en_15 .none rfl ?_
                                    rintro H70 vv71 hs70 ⟨y69a_v0, rfl, hy69a_0⟩
                                    refine JL.move .none rfl ?_
                                    refine JL.extract rfl rfl .none rfl ?_
                                    refine JL.extract rfl rfl .none rfl ?_
                                    refine JL.assign .none rfl ?_
                                    refine JL.assign .none rfl ?_
                                    refine JL.done hQ ?_
                                    refine JQ.go ?_
                                    refine JC.seq ?_
                                    refine JC.region (by rfl) ?_
                                    intro hQ
                                    refine JL.loadOwn 1 az_34 rfl rfl rfl .none rfl ?_
                                    refine JL.move .none rfl ?_
                                    refine JL.freezeG 1 (R := R_Blow) rfl R_Blow_mono (CH.mono R_Blow_mono hs70 hy50_3) rfl ?_
                                    intro H72 hs72 hg73
                                    refine JL.freezeG 0 (R := R_Meter) rfl R_Meter_mono (CH.mono R_Meter_mono (HSub.trans hs70 hs72) hch62) rfl ?_
                                    intro H74 hs74 hg75
                                    obtain ⟨y76, hy76, hF⟩ := bind_some hF
                                    refine JL.callH (c_counts_Forces n H74 (Run.mk y50.Canopy y50.Blows l59 y50.Wrong) y50_v0 (SL.mono R_Section_mono (HSub.trans hs70 (HSub.trans hs72 hs74)) hy50_0) y50_v1 (SL.mono R_Span_mono (HSub.trans hs70 (HSub.trans hs72 hs74)) hy50_1) y50_v2 (SL.mono RInt.mono (HSub.trans hs70 (HSub.trans hs72 hs74)) hy50_2) y50_v3 (SL.mono R_Blow_mono hs74 hg73) v60 hg75 blow y76 hy76) rfl en_15 .none rfl ?_
                                    rintro H77 vv78 hs77 ⟨y76a_v0, rfl, hy76a_0⟩
                                    refine JL.move .none rfl ?_
                                    refine JL.extract rfl rfl .none rfl ?_
                                    refine JL.extract rfl rfl .none rfl ?_
                                    refine JL.assign .none rfl ?_
                                    refine JL.assign .none rfl ?_
                                    refine JL.done hQ ?_
                                    refine JQ.go ?_
                                    refine JC.fresh (fun f => f 3 = .pointer (some ⟨b1, 0, none⟩) ∧ f 15 = .pointer (some ⟨b55, 0, none⟩) ∧ f 16 = .int .i64 y64.1 ∧ f 17 = .int .i64 y64.2 ∧ f 18 = .int .i64 y68.1 ∧ f 19 = .int .i64 y68.2 ∧ f 20 = y69a_v0 ∧ f 21 = .int .i64 y69.2 ∧ f 22 = y76a_v0 ∧ f 23 = .int .i64 y76.2) ⟨rfl, rfl, rfl, rfl, rfl, rfl, rfl, rfl, rfl, rfl⟩ ?_
                                    rintro f ⟨hf3, hf15, hf16, hf17, hf18, hf19, hf20, hf21, hf22, hf23⟩
                                    refine (JC.norm (i := 3) hf3 (JC.norm (i := 15) hf15 (JC.norm (i := 16) hf16 (JC.norm (i := 17) hf17 (JC.norm (i := 18) hf18 (JC.norm (i := 19) hf19 (JC.norm (i := 20) hf20 (JC.norm (i := 21) hf21 (JC.norm (i := 22) hf22 (JC.norm (i := 23) hf23 ?_))))))))))
                                    refine JC.seq ?_
                                    refine JC.region (by rfl) ?_
                                    intro hQ
                                    refine JL.loadOwn 1 az_34 rfl rfl rfl .none rfl ?_
                                    refine JL.fieldAddr fo_34_2 rfl .none rfl ?_
                                    refine JL.loadOwn 6 az_32 rfl rfl rfl .none rfl ?_
                                    refine JL.lenSL (R := R_Meter) ul_32 (SL.mono R_Meter_mono (HSub.trans hs51 (HSub.trans hs70 (HSub.trans hs72 (HSub.trans hs74 hs77)))) hr_10) .none rfl ?_
                                    obtain ⟨y79, hy79, hF⟩ := bind_some hF
                                    refine JL.callS (c_counts_Right n H77 (Run.mk y50.Canopy y50.Blows l59 y50.Wrong) y50_v0 (SL.mono R_Section_mono (HSub.trans hs70 (HSub.trans hs72 (HSub.trans hs74 hs77))) hy50_0) y50_v1 (SL.mono R_Span_mono (HSub.trans hs70 (HSub.trans hs72 (HSub.trans hs74 hs77))) hy50_1) y50_v2 (SL.mono RInt.mono (HSub.trans hs70 (HSub.trans hs72 (HSub.trans hs74 hs77))) hy50_2) y50_v3 (SL.mono R_Blow_mono (HSub.trans hs74 hs77) hg73) v60 (SL.mono R_Meter_mono hs77 hg75) (r.Meters.length : Int) y79 hy79) rfl en_19 .none rfl ?_
                                    refine JL.move .none rfl ?_
                                    refine JL.extract rfl rfl .none rfl ?_
                                    refine JL.extract rfl rfl .none rfl ?_
                                    refine JL.assign .none rfl ?_
                                    refine JL.assign .none rfl ?_
                                    refine JL.done hQ ?_
                                    refine JQ.go ?_
                                    refine JC.fresh (fun f => f 16 = .int .i64 y64.1 ∧ f 17 = .int .i64 y64.2 ∧ f 18 = .int .i64 y68.1 ∧ f 19 = .int .i64 y68.2 ∧ f 20 = y69a_v0 ∧ f 21 = .int .i64 y69.2 ∧ f 22 = y76a_v0 ∧ f 23 = .int .i64 y76.2 ∧ f 24 = .int .i64 y79.1 ∧ f 25 = .int .i64 y79.2) ⟨rfl, rfl, rfl, rfl, rfl, rfl, rfl, rfl, rfl, rfl⟩ ?_
                                    rintro f ⟨hf16, hf17, hf18, hf19, hf20, hf21, hf22, hf23, hf24, hf25⟩
                                    refine (JC.norm (i := 16) hf16 (JC.norm (i := 17) hf17 (JC.norm (i := 18) hf18 (JC.norm (i := 19) hf19 (JC.norm (i := 20) hf20 (JC.norm (i := 21) hf21 (JC.norm (i := 22) hf22 (JC.norm (i := 23) hf23 (JC.norm (i := 24) hf24 (JC.norm (i := 25) hf25 ?_))))))))))
                                    refine JC.seq ?_
                                    refine JC.region (by rfl) ?_
                                    intro hQ
                                    refine JL.move .none rfl ?_
                                    refine JL.bin rfl rfl rfl .none rfl ?_
                                    refine JL.move .none rfl ?_
                                    refine JL.cut 3 (fun f => f 16 = .int .i64 y64.1 ∧ f 18 = .int .i64 y68.1 ∧ f 20 = y69a_v0 ∧ f 21 = .int .i64 y69.2 ∧ f 22 = y76a_v0 ∧ f 23 = .int .i64 y76.2 ∧ f 24 = .int .i64 y79.1 ∧ f 25 = .int .i64 y79.2 ∧ f 188 = .bool ((y64.2 == 0) && (y68.2 == 0))) ?_ ?_
                                    · intro hJ80
                                      rcases bcases (y64.2 == 0) with hc81 | hc81
                                      · skip
                                        refine JL.move (.some rfl rfl rfl hc81) rfl ?_
                                        refine JL.bin rfl rfl rfl (.some rfl rfl rfl hc81) rfl ?_
                                        refine JL.pick_t (b := (y64.2 == 0)) rfl hc81 .none rfl ?_
                                        exact hJ80 _ ⟨rfl, rfl, rfl, rfl, rfl, rfl, rfl, rfl, and_t hc81 rfl⟩
                                      · skip
                                        refine JL.skip (.bool rfl rfl rfl hc81) rfl ?_
                                        refine JL.skip (.bool rfl rfl rfl hc81) rfl ?_
                                        refine JL.pick_f (b := (y64.2 == 0)) rfl hc81 .none rfl ?_
                                        exact hJ80 _ ⟨rfl, rfl, rfl, rfl, rfl, rfl, rfl, rfl, and_f hc81 rfl⟩
                                    · rintro f ⟨hf16, hf18, hf20, hf21, hf22, hf23, hf24, hf25, hf188⟩
                                      refine (JL.norm (i := 16) hf16 (JL.norm (i := 18) hf18 (JL.norm (i := 20) hf20 (JL.norm (i := 21) hf21 (JL.norm (i := 22) hf22 (JL.norm (i := 23) hf23 (JL.norm (i := 24) hf24 (JL.norm (i := 25) hf25 (JL.norm (i := 188) hf188 ?_)))))))))
                                      refine JL.move .none rfl ?_
                                      refine JL.cut 3 (fun f => f 16 = .int .i64 y64.1 ∧ f 18 = .int .i64 y68.1 ∧ f 20 = y69a_v0 ∧ f 22 = y76a_v0 ∧ f 23 = .int .i64 y76.2 ∧ f 24 = .int .i64 y79.1 ∧ f 25 = .int .i64 y79.2 ∧ f 192 = .bool (((y64.2 == 0) && (y68.2 == 0)) && (y69.2 == 0))) ?_ ?_
                                      · intro hJ82
                                        rcases bcases ((y64.2 == 0) && (y68.2 == 0)) with hc83 | hc83
                                        · skip
                                          refine JL.move (.some rfl rfl rfl hc83) rfl ?_
                                          refine JL.bin rfl rfl rfl (.some rfl rfl rfl hc83) rfl ?_
                                          refine JL.pick_t (b := ((y64.2 == 0) && (y68.2 == 0))) rfl hc83 .none rfl ?_
                                          exact hJ82 _ ⟨rfl, rfl, rfl, rfl, rfl, rfl, rfl, and_t hc83 rfl⟩
                                        · skip
                                          refine JL.skip (.bool rfl rfl rfl hc83) rfl ?_
                                          refine JL.skip (.bool rfl rfl rfl hc83) rfl ?_
                                          refine JL.pick_f (b := ((y64.2 == 0) && (y68.2 == 0))) rfl hc83 .none rfl ?_
                                          exact hJ82 _ ⟨rfl, rfl, rfl, rfl, rfl, rfl, rfl, and_f hc83 rfl⟩
                                      · rintro f ⟨hf16, hf18, hf20, hf22, hf23, hf24, hf25, hf192⟩
                                        refine (JL.norm (i := 16) hf16 (JL.norm (i := 18) hf18 (JL.norm (i := 20) hf20 (JL.norm (i := 22) hf22 (JL.norm (i := 23) hf23 (JL.norm (i := 24) hf24 (JL.norm (i := 25) hf25 (JL.norm (i := 192) hf192 ?_))))))))
                                        refine JL.move .none rfl ?_
                                        refine JL.cut 3 (fun f => f 16 = .int .i64 y64.1 ∧ f 18 = .int .i64 y68.1 ∧ f 20 = y69a_v0 ∧ f 22 = y76a_v0 ∧ f 24 = .int .i64 y79.1 ∧ f 25 = .int .i64 y79.2 ∧ f 196 = .bool ((((y64.2 == 0) && (y68.2 == 0)) && (y69.2 == 0)) && (y76.2 == 0))) ?_ ?_
                                        · intro hJ84
                                          rcases bcases (((y64.2 == 0) && (y68.2 == 0)) && (y69.2 == 0)) with hc85 | hc85
                                          · skip
                                            refine JL.move (.some rfl rfl rfl hc85) rfl ?_
                                            refine JL.bin rfl rfl rfl (.some rfl rfl rfl hc85) rfl ?_
                                            refine JL.pick_t (b := (((y64.2 == 0) && (y68.2 == 0)) && (y69.2 == 0))) rfl hc85 .none rfl ?_
                                            exact hJ84 _ ⟨rfl, rfl, rfl, rfl, rfl, rfl, and_t hc85 rfl⟩
                                          · skip
                                            refine JL.skip (.bool rfl rfl rfl hc85) rfl ?_
                                            refine JL.skip (.bool rfl rfl rfl hc85) rfl ?_
                                            refine JL.pick_f (b := (((y64.2 == 0) && (y68.2 == 0)) && (y69.2 == 0))) rfl hc85 .none rfl ?_
                                            exact hJ84 _ ⟨rfl, rfl, rfl, rfl, rfl, rfl, and_f hc85 rfl⟩
                                        · rintro f ⟨hf16, hf18, hf20, hf22, hf24, hf25, hf196⟩
                                          refine (JL.norm (i := 16) hf16 (JL.norm (i := 18) hf18 (JL.norm (i := 20) hf20 (JL.norm (i := 22) hf22 (JL.norm (i := 24) hf24 (JL.norm (i := 25) hf25 (JL.norm (i := 196) hf196 ?_)))))))
                                          refine JL.move .none rfl ?_
                                          refine JL.cut 3 (fun f => f 16 = .int .i64 y64.1 ∧ f 18 = .int .i64 y68.1 ∧ f 20 = y69a_v0 ∧ f 22 = y76a_v0 ∧ f 24 = .int .i64 y79.1 ∧ f 200 = .bool (((((y64.2 == 0) && (y68.2 == 0)) && (y69.2 == 0)) && (y76.2 == 0)) && (y79.2 == 0))) ?_ ?_
                                          · intro hJ86
                                            rcases bcases ((((y64.2 == 0) && (y68.2 == 0)) && (y69.2 == 0)) && (y76.2 == 0)) with hc87 | hc87
                                            · skip
                                              refine JL.move (.some rfl rfl rfl hc87) rfl ?_
                                              refine JL.bin rfl rfl rfl (.some rfl rfl rfl hc87) rfl ?_
                                              refine JL.pick_t (b := ((((y64.2 == 0) && (y68.2 == 0)) && (y69.2 == 0)) && (y76.2 == 0))) rfl hc87 .none rfl ?_
                                              exact hJ86 _ ⟨rfl, rfl, rfl, rfl, rfl, and_t hc87 rfl⟩
                                            · skip
                                              refine JL.skip (.bool rfl rfl rfl hc87) rfl ?_
                                              refine JL.skip (.bool rfl rfl rfl hc87) rfl ?_
                                              refine JL.pick_f (b := ((((y64.2 == 0) && (y68.2 == 0)) && (y69.2 == 0)) && (y76.2 == 0))) rfl hc87 .none rfl ?_
                                              exact hJ86 _ ⟨rfl, rfl, rfl, rfl, rfl, and_f hc87 rfl⟩
                                          · rintro f ⟨hf16, hf18, hf20, hf22, hf24, hf200⟩
                                            refine (JL.norm (i := 16) hf16 (JL.norm (i := 18) hf18 (JL.norm (i := 20) hf20 (JL.norm (i := 22) hf22 (JL.norm (i := 24) hf24 (JL.norm (i := 200) hf200 ?_))))))
                                            refine JL.move .none rfl ?_
                                            refine JL.cut 4 (fun f => f 20 = y69a_v0 ∧ f 22 = y76a_v0 ∧ f 24 = .int .i64 y79.1 ∧ f 205 = .bool ((((((y64.2 == 0) && (y68.2 == 0)) && (y69.2 == 0)) && (y76.2 == 0)) && (y79.2 == 0)) && (y64.1 == y68.1))) ?_ ?_
                                            · intro hJ88
                                              rcases bcases (((((y64.2 == 0) && (y68.2 == 0)) && (y69.2 == 0)) && (y76.2 == 0)) && (y79.2 == 0)) with hc89 | hc89
                                              · skip
                                                refine JL.move (.some rfl rfl rfl hc89) rfl ?_
                                                refine JL.move (.some rfl rfl rfl hc89) rfl ?_
                                                refine JL.bin rfl rfl rfl (.some rfl rfl rfl hc89) rfl ?_
                                                refine JL.pick_t (b := (((((y64.2 == 0) && (y68.2 == 0)) && (y69.2 == 0)) && (y76.2 == 0)) && (y79.2 == 0))) rfl hc89 .none rfl ?_
                                                exact hJ88 _ ⟨rfl, rfl, rfl, and_t hc89 rfl⟩
                                              · skip
                                                refine JL.skip (.bool rfl rfl rfl hc89) rfl ?_
                                                refine JL.skip (.bool rfl rfl rfl hc89) rfl ?_
                                                refine JL.skip (.bool rfl rfl rfl hc89) rfl ?_
                                                refine JL.pick_f (b := (((((y64.2 == 0) && (y68.2 == 0)) && (y69.2 == 0)) && (y76.2 == 0)) && (y79.2 == 0))) rfl hc89 .none rfl ?_
                                                exact hJ88 _ ⟨rfl, rfl, rfl, and_f hc89 rfl⟩
                                            · rintro f ⟨hf20, hf22, hf24, hf205⟩
                                              refine (JL.norm (i := 20) hf20 (JL.norm (i := 22) hf22 (JL.norm (i := 24) hf24 (JL.norm (i := 205) hf205 ?_))))
                                              refine JL.move .none rfl ?_
                                              obtain ⟨p91, hp91, hF⟩ := bind_some hF
                                              refine JL.cut 4 (fun f => f 24 = .int .i64 y79.1 ∧ f 210 = .bool p91) ?_ ?_
                                              · intro hJ92
                                                rcases ite_some hp91 with ⟨hc93, hF⟩ | ⟨hc93, hF⟩
                                                · skip
                                                  refine JL.move (.some rfl rfl rfl hc93) rfl ?_
                                                  refine JL.move (.some rfl rfl rfl hc93) rfl ?_
                                                  obtain ⟨y94, hy94, hF⟩ := bind_some hF
                                                  refine JL.callS (c_law13_sameInts n H77 y69.1 y69a_v0 (SL.mono RInt.mono (HSub.trans hs72 (HSub.trans hs74 hs77)) hy69a_0) y76.1 y76a_v0 hy76a_0 y94 hy94) rfl en_20 (.some rfl rfl rfl hc93) rfl ?_
                                                  refine JL.pick_t (b := ((((((y64.2 == 0) && (y68.2 == 0)) && (y69.2 == 0)) && (y76.2 == 0)) && (y79.2 == 0)) && (y64.1 == y68.1))) rfl hc93 .none rfl ?_
                                                  obtain rfl := Option.some.inj hF
                                                  exact hJ92 _ ⟨rfl, rfl⟩
                                                · skip
                                                  refine JL.skip (.bool rfl rfl rfl hc93) rfl ?_
                                                  refine JL.skip (.bool rfl rfl rfl hc93) rfl ?_
                                                  refine JL.skip (.bool rfl rfl rfl hc93) rfl ?_
                                                  refine JL.pick_f (b := ((((((y64.2 == 0) && (y68.2 == 0)) && (y69.2 == 0)) && (y76.2 == 0)) && (y79.2 == 0)) && (y64.1 == y68.1))) rfl hc93 .none rfl ?_
                                                  obtain rfl := Option.some.inj hF
                                                  exact hJ92 _ ⟨rfl, rfl⟩
                                              · rintro f ⟨hf24, hf210⟩
                                                refine (JL.norm (i := 24) hf24 (JL.norm (i := 210) hf210 ?_))
                                                refine JL.move .none rfl ?_
                                                refine JL.cut 3 (fun f => f 214 = .bool (p91 && (y79.1 == 1))) ?_ ?_
                                                · intro hJ95
                                                  rcases bcases p91 with hc96 | hc96
                                                  · skip
                                                    refine JL.move (.some rfl rfl rfl hc96) rfl ?_
                                                    refine JL.bin rfl rfl rfl (.some rfl rfl rfl hc96) rfl ?_
                                                    refine JL.pick_t (b := p91) rfl hc96 .none rfl ?_
                                                    exact hJ95 _ (and_t hc96 rfl)
                                                  · skip
                                                    refine JL.skip (.bool rfl rfl rfl hc96) rfl ?_
                                                    refine JL.skip (.bool rfl rfl rfl hc96) rfl ?_
                                                    refine JL.pick_f (b := p91) rfl hc96 .none rfl ?_
                                                    exact hJ95 _ (and_f hc96 rfl)
                                                · rintro f hf214
                                                  refine (JL.norm (i := 214) hf214 ?_)
                                                  refine JL.move .none rfl ?_
                                                  obtain ⟨p98, hp98, hF⟩ := bind_some hF
                                                  refine JL.cut 2 (fun f => f 217 = .bool p98) ?_ ?_
                                                  · intro hJ99
                                                    rcases ite_some hp98 with ⟨hc100, hF⟩ | ⟨hc100, hF⟩
                                                    · skip
                                                      obtain ⟨y101, hy101, hF⟩ := bind_some hF
                                                      refine JL.callS (c_law13_works n H77 y101 hy101) rfl en_9 (.some rfl rfl rfl hc100) rfl ?_
                                                      refine JL.pick_t (b := (p91 && (y79.1 == 1))) rfl hc100 .none rfl ?_
                                                      obtain rfl := Option.some.inj hF
                                                      exact hJ99 _ (rfl)
                                                    · skip
                                                      refine JL.skip (.bool rfl rfl rfl hc100) rfl ?_
                                                      refine JL.pick_f (b := (p91 && (y79.1 == 1))) rfl hc100 .none rfl ?_
                                                      obtain rfl := Option.some.inj hF
                                                      exact hJ99 _ (rfl)
                                                  · rintro f hf217
                                                    refine (JL.norm (i := 217) hf217 ?_)
                                                    refine JL.assign .none rfl ?_
                                                    refine JL.done hQ ?_
                                                    refine JQ.go ?_
                                                    refine JC.ret ?_
                                                    obtain rfl := Option.some.inj hF
                                                    exact JQ.outS rfl (.tmp .nil) rfl

end Go.Proofs.Ytcipdblhopffbaa
end
section
namespace Go.Proofs.Ytcipdblhopffbaa
open Go Go.RowKit Go.Dec
theorem askN_reads {limit : Int} : ∀ {bl : List Blow} {c : List Int}, c.length = bl.length → askN (readsA limit) bl c = aboveS c limit
  | [], [], _ => rfl
  | [], _ :: _, h => by simp at h
  | _ :: _, [], h => by simp at h
  | b :: bl, f :: c, h => by
    have ih := askN_reads (limit := limit) (bl := bl) (c := c) (by simpa using h)
    unfold askN aboveS at ih ⊢
    rw [List.zip_cons_cons, List.countP_cons, List.countP_cons, ih]
    rfl
theorem above_mono {c : List Int} {a b : Int} (h : a ≤ b) : aboveS c b ≤ aboveS c a := by
  unfold aboveS
  exact List.countP_mono_left fun x _ hp => by simp only [decide_eq_true_eq] at hp ⊢; omega
theorem above_len (c : List Int) (a : Int) : aboveS c a ≤ c.length := List.countP_le_length
theorem above_zero {r : Run} (hr : ROk r) {c : List Int} (hc : c ∈ casesS r.Blows) : aboveS c 0 = r.Blows.length := by
  obtain ⟨h1, h2⟩ := mem_cases.1 hc
  rw [← h1]
  unfold aboveS
  rw [List.countP_eq_length]
  intro x hx
  obtain ⟨i, hi, rfl⟩ := List.getElem_of_mem hx
  have hb := hr.b _ (List.getElem_mem (show i < r.Blows.length by omega))
  have := h2 i _ _ (List.getElem?_eq_getElem (show i < r.Blows.length by omega)) (List.getElem?_eq_getElem hi)
  have := hb.lo
  simp only [decide_eq_true_eq]; omega
theorem law_CountsGood (r : Run) (limits : List Int) (blow : Int) (_ : W_Run r) (hl : limits.length = 2 ∧ ∀ z ∈ limits, I64 z) (_ : I64 blow) : ∃ n, F_law13_CountsGood n r limits blow = some true := by
  have hn : 100000000 ≤ 100000000 := Nat.le_refl _
  refine ⟨100000000, ?_⟩
  have hw := works13 hn
  obtain ⟨a, b, rfl⟩ : ∃ a b, limits = [a, b] := by
    match limits, hl.1 with
    | [a, b], _ => exact ⟨a, b, rfl⟩
  have g0 : geti [a, b] 0 = some a := rfl
  have g1 : geti [a, b] 1 = some b := rfl
  simp only [F_law13_CountsGood, g0, g1, Option.bind_some]
  rcases p_ready hn r with h | ⟨h, hr⟩
  · simp [h, hw]
  · simp only [h, Option.bind_some, Bool.not_true, Bool.false_or]
    split
    · rw [hw]; rfl
    · rename_i hC
      simp only [Bool.or_eq_true, decide_eq_true_eq, not_or] at hC
      obtain ⟨⟨⟨⟨c1, c2⟩, c3⟩, c4⟩, c5⟩ := hC
      have hs := hr.small
      simp only [p_Reads hn hs, Option.bind_some]
      rw [reads_in (r := r) (a := a) (by omega) (by omega), reads_in (r := r) (a := b) (by omega) (by omega), reads_in (r := r) (a := 0) (by omega) (by omega)]
      rcases errR_three hr with e | e
      · simp only [e, if_true, bne_self_eq_false, Bool.or_self, Bool.false_and, Bool.false_eq_true, if_false]
        have hlen : ∀ c ∈ truthsC r, c.length = r.Blows.length := fun c hc => casesS_len (truth_case hc)
        have hA : ∀ (x : Int), ∀ c ∈ truthsC r, (askN (readsA x) r.Blows c : Int) = (aboveS c x : Int) := fun x c hc => by rw [askN_reads (hlen c hc)]
        rw [fmin_congr (hA a), fmin_congr (hA b), fmin_congr (hA 0), fmax_congr (hA a), fmax_congr (hA b), fmax_congr (hA 0)]
        have m1 := fmin_le_of (f := fun c => (aboveS c b : Int)) (g := fun c => (aboveS c a : Int)) (l := truthsC r) (m := truthsC r) (fun x hx => ⟨x, hx, by have := above_mono (c := x) (show a ≤ b by omega); omega⟩) r.Blows.length
        have m2 := fmax_le_of (f := fun c => (aboveS c a : Int)) (g := fun c => (aboveS c b : Int)) (l := truthsC r) (m := truthsC r) (fun x hx => ⟨x, hx, by have := above_mono (c := x) (show a ≤ b by omega); omega⟩) 0
        have hne : ∃ c, c ∈ truthsC r := List.exists_mem_of_ne_nil _ (errR_ok e).2.2
        have hz : ∀ c ∈ truthsC r, (aboveS c 0 : Int) = r.Blows.length := fun c hc => by rw [above_zero hr (truth_case hc)]
        have z1 : fmin (fun c => (aboveS c 0 : Int)) (truthsC r) r.Blows.length = r.Blows.length := by
          obtain ⟨⟨a1, _⟩, a3⟩ := fmin_spec (fun c => (aboveS c 0 : Int)) (truthsC r) r.Blows.length
          rcases a3 with h | ⟨x, hx, h⟩
          · exact h
          · rw [h, hz x hx]
        have z2 : fmax (fun c => (aboveS c 0 : Int)) (truthsC r) 0 = r.Blows.length := by
          obtain ⟨⟨a1, a2⟩, a3⟩ := fmax_spec (fun c => (aboveS c 0 : Int)) (truthsC r) 0
          obtain ⟨c, hc⟩ := hne
          have h4 := a2 c hc
          rw [hz c hc] at h4
          rcases a3 with h | ⟨x, hx, h⟩
          · omega
          · rw [h, hz x hx]
        rw [z1, z2]
        obtain ⟨⟨l1, l2⟩, l3⟩ := fmin_spec (fun c => (aboveS c a : Int)) (truthsC r) r.Blows.length
        obtain ⟨⟨u1, u2⟩, u3⟩ := fmax_spec (fun c => (aboveS c a : Int)) (truthsC r) 0
        generalize hLo : fmin (fun c => (aboveS c a : Int)) (truthsC r) r.Blows.length = lo at *
        generalize hHi : fmax (fun c => (aboveS c a : Int)) (truthsC r) 0 = hi at *
        have k1 : 0 ≤ lo := by
          rcases l3 with h | ⟨x, _, h⟩ <;> omega
        have k2 : hi ≤ r.Blows.length := by
          rcases u3 with h | ⟨x, hx, h⟩
          · omega
          · have := above_len x a; rw [hlen x hx] at this; omega
        have d1 : decide (lo < fmin (fun c => (aboveS c b : Int)) (truthsC r) r.Blows.length) = false := decide_eq_false (by omega)
        have d2 : decide (hi < fmax (fun c => (aboveS c b : Int)) (truthsC r) 0) = false := decide_eq_false (by omega)
        have d3 : decide (lo < 0) = false := decide_eq_false (by omega)
        have d4 : decide ((r.Blows.length : Int) < hi) = false := decide_eq_false (by omega)
        simp only [d1, d2, d3, d4, beq_self_eq_true, Bool.and_self, Bool.not_true, Bool.or_self, Bool.false_eq_true, if_false]
        split
        · rw [hw]; rfl
        · rename_i hC
          simp only [Bool.or_eq_true, bne_iff_ne, ne_eq, decide_eq_true_eq, not_or, Decidable.not_not] at hC
          obtain ⟨c6, c7⟩ := hC
          simp only [p_Copy13 hn hs, Option.bind_some]
          rw [lim_ok (by have := hr.nm; simp; omega)]
          simp only [Option.bind_some]
          have hall : ∀ c ∈ truthsC r, (aboveS c a : Int) = lo := fun c hc => by
            have := l2 c hc; have := u2 c hc; omega
          have hlo : lo ≤ 8 := by have := hr.nb; omega
          obtain ⟨o, ho⟩ : ∃ o : Run, o = ⟨r.Canopy, r.Blows, r.Meters ++ [⟨a, lo⟩], r.Wrong⟩ := ⟨_, rfl⟩
          have hro : ROk o := by
            rw [ho]
            refine ⟨hr.d, hr.nb, by simp; omega, hr.b, fun m hm => ?_, hr.w⟩
            rcases List.mem_append.1 hm with hm | hm
            · exact hr.m m hm
            · rw [List.mem_singleton.1 hm]
              exact ⟨by simp only; omega, by simp only; omega⟩
          have ht : truthsC o = truthsC r := by
            unfold truthsC
            rw [ho]
            refine List.filter_congr fun c hc => ?_
            rw [Bool.eq_iff_iff]
            simp only [truthC, decide_eq_true_eq, wrong_snoc]
            constructor
            · intro h; split at h <;> omega
            · intro h
              have hc2 : c ∈ truthsC r := List.mem_filter.2 ⟨hc, by simpa [truthC] using h⟩
              have : rightC ⟨a, lo⟩ c = true := by
                unfold rightC; simp only; rw [hall c hc2]; exact beq_self_eq_true _
              rw [if_pos this]; omega
          have eo : errR o true = 0 := by rw [errR_true hro, ht, ← errR_true hr]; exact e
          have hbl : o.Blows = r.Blows := by rw [ho]
          have hml : ((r.Meters.length : Nat) : Int) < o.Meters.length := by rw [ho]; simp; omega
          have hmt : meterAt o (r.Meters.length : Int) = ⟨a, lo⟩ := by rw [ho]; simp [meterAt]
          rw [← ho]
          simp only [p_Many hn hs, p_Many hn hro.small, p_Forces hn hs, p_Forces hn hro.small, p_Right hn hro.small, Option.bind_some]
          rw [forces_in (r := r) (i := blow) (by omega) (by omega), forces_in (r := o) (i := blow) (by omega) (by rw [hbl]; omega), right_in (r := o) (i := (r.Meters.length : Int)) (by omega) hml]
          have hfe := forces_eq hro hr hbl (i := blow) (by omega) (by rw [hbl]; omega) ht
          have hra : ((truthsC r).all (rightC ⟨a, lo⟩)) = true := List.all_eq_true.2 fun c hc => by
            unfold rightC; simp only; rw [hall c hc]; exact beq_self_eq_true _
          simp only [e, eo, if_true, manyT, ht, hfe, hmt, hra, beq_self_eq_true, Bool.and_self, p_sameI hn (a := forcesL r blow) (by have := forces_len hr (i := blow) (by omega) (by omega); omega), decide_true, Option.bind_some, hw]
      · simp [e, hw]
end Go.Proofs.Ytcipdblhopffbaa
end
section
namespace Go.Proofs.Ytcipdblhopffbaa
open Go Go.RowKit Go.Dec Go.ChangeShapes Go.WideShapes Go.ChangeAt
set_option linter.unusedVariables false
theorem cl_laidOut : laidOutB Try.prog = true := by kernel_rfl
theorem cl_own : ownKnob Try.prog.godebug = none := by kernel_rfl

set_option maxRecDepth 100000 in
set_option maxHeartbeats 1000000 in
theorem countsGood_contract (law : ∀ (x0 : Run) (x1 : List Int) (x2 : Int), W_Run x0 → (x1.length = 2 ∧ ∀ z0 ∈ x1, I64 z0) → I64 x2 → ∃ n, F_law13_CountsGood n x0 x1 x2 = some true)
    (T : Type) (enc : TypeId × Value → T) (W : World) (base : Nat) (args : Array Value) (ds gs : List (DataW T)) (before : List MemPlace)
    (hval : ∀ (j : Nat) t v, Try.f5.params[j]? = some t → args[j]? = some v → Value.okWide Try.prog W .any base t v)
    (hW : DataW.Whole enc Try.prog Try.f5.params.toList Rows.countsGoodSpec.vars false W args.toList ds gs before) :
    Calls Try.prog 5 args W fun e W' => ∃ v, e = .returned v ∧ Rows.countsGoodSpec.post enc Try.prog Try.f5 false true false false W args v W' := by
  have hW' := hW
  obtain ⟨p, q, hA0, hV, rfl, hfz, hnd⟩ := hW
  have hA : DataW.TrodAll enc Try.prog W 0 (fun _ => true) true Try.f5.params.toList args.toList ds p := hA0
  rw [Try.params5] at hA hval
  obtain ⟨v0, vs0, d0, ds0, p0, q0, hargs, rfl, rfl, h0, r0⟩ := trodAll_cons hA
  obtain ⟨v1, vs1, d1, ds1, p1, q1, rfl, rfl, rfl, h1, r1⟩ := trodAll_cons r0
  obtain ⟨v2, vs2, d2, ds2, p2, q2, rfl, rfl, rfl, h2, r2⟩ := trodAll_cons r1
  obtain ⟨rfl, rfl, rfl⟩ := trodAll_nil r2
  obtain rfl : args = #[v0, v1, v2] := by rw [← Array.toArray_toList (xs := args), hargs]
  obtain ⟨rfl, rfl⟩ := trodVars_none hV
  obtain ⟨cs0, rfl, hs0⟩ := okWide_struct Try.underlying34 (hval 0 34 v0 rfl rfl)
  obtain ⟨cs1, rfl, hs1⟩ := okWide_array Try.underlying61 (hval 1 61 v1 rfl rfl)
  obtain ⟨n2, rfl⟩ := okWide_int Try.underlying3 (hval 2 3 v2 rfl rfl)
  have k0 := h0
  obtain ⟨f0, e0⟩ := h0
  have k1 := h1
  obtain ⟨f1, e1⟩ := h1
  have k2 := h2
  obtain ⟨f2, e2⟩ := h2
  obtain ⟨_, x0, r0, w0⟩ := o_Run _ _ _ _ _ _ _ e0
  obtain ⟨_, x1, r1, w1⟩ := (Opens.arr (enc := enc) (P := Try.prog) (t := 61) (e := 3) (n := 2) (by kernel_rfl) (by kernel_rfl) (by kernel_rfl) (by kernel_rfl)) _ _ _ _ _ _ _ e1
  obtain ⟨_, x2, r2, w2⟩ := (Opens.int (by kernel_rfl)) _ _ _ _ _ _ _ e2
  obtain ⟨n, hn⟩ := law x0 x1 x2 w0 w1 w2
  obtain ⟨u0_0, u0_1, u0_2, u0_3, u0_4, q0, s0_0, s0_1, s0_2, s0_3, s0_4⟩ := r0
  have q0 : cs0.toList = _ := q0
  obtain rfl : cs0 = _ := by rw [← Array.toArray_toList (xs := cs0), q0]
  have q1 : cs1.toList = _ := r1
  obtain rfl : cs1 = _ := by rw [← Array.toArray_toList (xs := cs1), q1]
  have q2 : [Value.int .i64 n2] = [Value.int .i64 x2] := r2
  obtain rfl : x2 = n2 := by simpa using q2.symm
  have hlt : ∀ x ∈ p0 ++ (p1 ++ (p2 ++ [])), x.block < W.heap.size := fun x hx => hW'.lt x (by simpa using hx)
  refine ((c_law13_CountsGood n (hw W) x0 u0_0 s0_0 u0_1 s0_1 u0_2 s0_2 u0_3 s0_3 u0_4 s0_4 x1 w1.1 x2 true hn) W (hw_le W)).mono fun e W' ⟨he, hb0⟩ => ?_
  have hb := hb0.plain rfl
  subst he
  refine ⟨_, rfl, _, _, _, [], p0 ++ (p1 ++ (p2 ++ [])), [], hW', trodAll_cons_mk (shut_bool Try.underlying4 _) trodAll_mk0, ?_, rfl, hb.frame _, fun h => by cases h⟩
  exact trodAll_cons_mk (Below.trod cl_laidOut (by kernel_rfl) (of_decide_eq_true (by kernel_rfl)) k0 hb (fun x hx => hlt x (List.mem_append_left _ hx))) (trodAll_cons_mk (Below.trod cl_laidOut (by kernel_rfl) (of_decide_eq_true (by kernel_rfl)) k1 hb (fun x hx => hlt x (List.mem_append_right _ (List.mem_append_left _ hx)))) (trodAll_cons_mk (Below.trod cl_laidOut (by kernel_rfl) (of_decide_eq_true (by kernel_rfl)) k2 hb (fun x hx => hlt x (List.mem_append_right _ (List.mem_append_right _ (List.mem_append_left _ hx))))) trodAll_mk0))

set_option maxRecDepth 100000 in
theorem countsGood_lifted (law : ∀ (x0 : Run) (x1 : List Int) (x2 : Int), W_Run x0 → (x1.length = 2 ∧ ∀ z0 ∈ x1, I64 z0) → I64 x2 → ∃ n, F_law13_CountsGood n x0 x1 x2 = some true)
    (os : Os) (started : os.Started) (H : Type) (enc : TypeId × Value → H) :
    ReturnsInHanded {} Try.checked os 5 .any (Rows.countsGoodSpec.pre6 enc Try.prog Try.f5 Rows.countsGoodRow.domain false) (Rows.countsGoodSpec.post enc Try.prog Try.f5 false true false false) := by
  refine returnsInHanded_of_change (C := Try.checked) cl_own started (by kernel_rfl) Try.func5
    (ChangeSpec.witness6 (enc := enc) (C := Try.checked) false ⟨#[], #[.agg #[.slice none 0 0, .int .i64 0, .int .i64 0, .int .i64 0, .int .i64 0, .int .i64 0, .int .i64 0, .slice none 0 0, .slice none 0 0, .slice none 0 0, .slice none 0 0, .int .i64 0], .agg #[.int .i64 0, .int .i64 0], .int .i64 0], []⟩ 8 (by kernel_rfl) (by kernel_rfl) (by kernel_rfl) (by kernel_rfl)) ?_
  intro W base args ds gs before hval hW _ _
  exact countsGood_contract law H enc W base args ds gs before hval hW

theorem countsGood_holds (law : ∀ (x0 : Run) (x1 : List Int) (x2 : Int), W_Run x0 → (x1.length = 2 ∧ ∀ z0 ∈ x1, I64 z0) → I64 x2 → ∃ n, F_law13_CountsGood n x0 x1 x2 = some true) : Rows.CountsGoodSaid :=
  OpenClaim.holds_of_wide 5 Try.f5 rfl rfl rfl rfl rfl rfl rfl ⟨rfl, rfl, rfl, rfl, rfl⟩ rfl rfl rfl rfl rfl (by kernel_rfl) Try.func5 (by kernel_rfl)
    (of_decide_eq_true (by kernel_rfl)) (by unfold Func.isWrapper; first | (rw [if_pos (by decide +kernel)]; kernel_rfl) | (rw [if_neg (by decide +kernel)]; exact ⟨rfl, rfl⟩))
    (fun os started H enc _ => countsGood_lifted law os started H enc)
theorem countsGood_proved : Rows.CountsGoodSaid := countsGood_holds law_CountsGood
end Go.Proofs.Ytcipdblhopffbaa
end
