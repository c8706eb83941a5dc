/-
  TopMost holds of every input that can be given, without a condition.
-/
import Derived.Test.YteihdclpiekmaaaJMoMost9
import Derived.JoinedCond
section
set_option maxRecDepth 100000
set_option maxHeartbeats 40000000
namespace Go.Proofs.Yteihdclpiekmaaa
open Go Go.RowKit Go.Dec
set_option linter.unusedVariables false
-- 7 ferrule/ferruletop.TopMost
noncomputable def F_top_TopMost_s1 (n : Nat) (r : Run) (y17 : (List Gust) × Bool) : Bool × Int → Option ((Bool × Int) ⊕ (Bool ⊕ Bool))
 | (safe_180, i_181) => if decide (i_181 < (y17.1.length : Int)) = true then ((geti y17.1 i_181).bind fun y192 => (F_gusts_Most n r.Canopy y192.At).bind fun y197 => if (((y197.2 != 0) || (decide (y197.1 < 0))) || (decide (99 < y197.1))) = true then (some (Sum.inr (Sum.inl false))) else ((if safe_180 = true then ((geti y17.1 i_181).bind fun y211 => some (decide (y211.Force ≤ y197.1))) else (some false) : Option Bool).bind fun p208 => some (Sum.inl (p208, (w64 (i_181 + 1)))))) else (some (Sum.inr (Sum.inr safe_180)))
noncomputable def F_top_TopMost (n : Nat) (r : Run) : Option Bool :=
 (F_top_isRun n r).bind fun y2 => if (!y2) = true then ((F_top_tested n).bind fun y4 => some y4) else ((F_counts_Stood n r).bind fun y5 => (F_counts_Harm n r).bind fun y6 => if ((y5.2 != y6.2) || ((y5.2 != 0) && (y5.2 != 3))) = true then (some false) else (if (y5.2 != 0) = true then ((F_top_tested n).bind fun y16 => some y16) else ((F_top_greatest n r).bind fun y17 => if (!y17.2) = true then (some false) else ((loopO n (F_top_TopMost_s1 n r y17) (true, 0)).bind fun r119 => match r119 with | .inl o => some o | .inr safe_117 => (if ((safe_117 == (y5.1 == 1)) && (safe_117 == (y6.1.High == 0))) = true then ((F_top_tested n).bind fun y222 => some y222) else (some false) : Option Bool).bind fun p219 => some p219))))
theorem c_top_TopMost (n : Nat) (H : Hp) (r : Run) (r_v0 : Value) (hr_0 : SL H 7 R_Section r_v0 r.Canopy.Frame.Sections) (r_v7 : Value) (hr_7 : SL H 2 R_Span r_v7 r.Canopy.Ribs) (r_v8 : Value) (hr_8 : SL H 1 RInt r_v8 r.Canopy.Shares) (r_v9 : Value) (hr_9 : SL H 3 R_Blow r_v9 r.Blows) (r_v10 : Value) (hr_10 : SL H 2 R_Meter r_v10 r.Meters) (y : Bool) (hF : F_top_TopMost n r = some y) : SC Try.prog 7 [.agg [r_v0, .int .i64 r.Canopy.Frame.Low, .int .i64 r.Canopy.Frame.High, .int .i64 r.Canopy.Frame.Ease.Num, .int .i64 r.Canopy.Frame.Ease.Den, .int .i64 r.Canopy.Frame.Rod, .int .i64 r.Canopy.Frame.Case, r_v7, r_v8, r_v9, r_v10, .int .i64 r.Wrong].toArray] (.bool y) H := by
 rw [F_top_TopMost] at hF
 refine SC.of (N := 99) Try.func7 rfl rfl rfl fun w => ?_
 refine JC.seq (JC.region (by rfl) ?_)
 intro hQ
 refine JL.box (cs := [r_v0, .int .i64 r.Canopy.Frame.Low, .int .i64 r.Canopy.Frame.High, .int .i64 r.Canopy.Frame.Ease.Num, .int .i64 r.Canopy.Frame.Ease.Den, .int .i64 r.Canopy.Frame.Rod, .int .i64 r.Canopy.Frame.Case, r_v7, r_v8, r_v9, r_v10, .int .i64 r.Wrong]) rfl .none rfl ?_
 intro b1
 refine JL.assign .none rfl ?_
 refine JL.done hQ (JQ.go (JC.seq (JC.seq (JC.region (by rfl) ?_))))
 intro hQ
 refine JL.loadOwn 0 az_90 rfl rfl rfl .none rfl ?_
 obtain ⟨y2, hy2, hF⟩ := bind_some hF
 refine JL.callS (c_top_isRun n H r r_v0 hr_0 r_v7 hr_7 r_v8 hr_8 r_v9 hr_9 r_v10 hr_10 y2 hy2) rfl en_40 .none rfl ?_
 refine JL.not rfl .none rfl ?_
 refine JL.done hQ (JQ.go ?_)
 rcases ite_some hF with ⟨hc3, hF⟩ | ⟨hc3, hF⟩
 ·refine JC.cond_t (b := (!y2)) rfl hc3 ?_
  refine JC.seq (JC.region (by rfl) ?_)
  intro hQ
  obtain ⟨y4, hy4, hF⟩ := bind_some hF
  refine JL.callS (c_top_tested n H y4 hy4) rfl en_42 .none rfl ?_
  refine JL.assign .none rfl ?_
  refine JL.done hQ (JQ.go (JC.ret (JQ.ret_then ?_)))
  obtain rfl := Option.some.inj hF
  exact JQ.outS rfl (.tmp .nil) rfl
 ·refine JC.cond_f (b := (!y2)) rfl hc3 ?_
  refine JC.skip (JQ.go (JC.seq (JC.region (by rfl) ?_)))
  intro hQ
  refine JL.loadOwn 0 az_90 rfl rfl rfl .none rfl ?_
  obtain ⟨y5, hy5, hF⟩ := bind_some hF
  refine JL.callS (c_counts_Stood n H r r_v0 hr_0 r_v7 hr_7 r_v8 hr_8 r_v9 hr_9 r_v10 hr_10 y5 hy5) rfl en_46 .none rfl ?_
  refine JL.move .none rfl ?_
  refine JL.extract rfl rfl .none rfl ?_
  refine JL.extract rfl rfl .none rfl ?_
  refine JL.assign .none rfl ?_
  refine JL.assign .none rfl ?_
  refine JL.done hQ (JQ.go (JC.seq (JC.region (by rfl) ?_)))
  intro hQ
  refine JL.loadOwn 0 az_90 rfl rfl rfl .none rfl ?_
  obtain ⟨y6, hy6, hF⟩ := bind_some hF
  refine JL.callS (c_counts_Harm n H r r_v0 hr_0 r_v7 hr_7 r_v8 hr_8 r_v9 hr_9 r_v10 hr_10 y6 hy6) rfl en_44 .none rfl ?_
  refine JL.move .none rfl ?_
  refine JL.extract rfl rfl .none rfl ?_
  refine JL.extract rfl rfl .none rfl ?_
  refine JL.alloc ze_39 .none rfl ?_
  intro b7
  refine JL.storeOwn 0 (cs := [.int .i64 y6.1.Low, .int .i64 y6.1.High]) az_39 rfl rfl rfl (one_cons rfl (one_cons rfl one_nil)) rfl rfl .none ?_
  refine JL.assign .none rfl ?_
  refine JL.done hQ (JQ.go (JC.fresh (fun f => f 1 = .pointer (some ⟨b1, 0, none⟩) ∧ f 2 = .bool false ∧ f 3 = .int .i64 y5.1 ∧ f 4 = .int .i64 y5.2 ∧ f 5 = .pointer (some ⟨b7, 0, none⟩) ∧ f 6 = .int .i64 y6.2) ⟨rfl, rfl, rfl, rfl, rfl, rfl⟩ ?_))
  rintro f ⟨hf1, hf2, hf3, hf4, hf5, hf6⟩
  refine (JC.norm (i := 1) hf1 (JC.norm (i := 2) hf2 (JC.norm (i := 3) hf3 (JC.norm (i := 4) hf4 (JC.norm (i := 5) hf5 (JC.norm (i := 6) hf6 ?_))))))
  refine JC.seq (JC.seq (JC.region (by rfl) ?_))
  intro hQ
  refine JL.move .none rfl ?_
  refine JL.move .none rfl ?_
  refine JL.bin rfl rfl rfl .none rfl ?_
  refine JL.move .none rfl ?_
  refine JL.cut 7 (fun f => f 1 = .pointer (some ⟨b1, 0, none⟩) ∧ f 3 = .int .i64 y5.1 ∧ f 4 = .int .i64 y5.2 ∧ f 5 = .pointer (some ⟨b7, 0, none⟩) ∧ f 37 = .bool ((y5.2 != y6.2) || ((y5.2 != 0) && (y5.2 != 3)))) ?_ ?_
  ·intro hJ10
   rcases bcases (y5.2 != y6.2) with hc11 | hc11
   ·skip
    refine JL.skip (.bool rfl rfl rfl hc11) rfl ?_
    refine JL.skip (.bool rfl rfl rfl hc11) rfl ?_
    refine JL.skip (.bool rfl rfl rfl hc11) rfl ?_
    refine JL.skip (.no rfl rfl rfl) rfl ?_
    refine JL.skip (.no rfl rfl rfl) rfl ?_
    refine JL.skip (.bool rfl rfl rfl hc11) rfl ?_
    refine JL.pick_t (b := (y5.2 != y6.2)) rfl hc11 .none rfl ?_
    exact hJ10 _ ⟨rfl, rfl, rfl, rfl, or_t hc11 rfl⟩
   ·skip
    refine JL.move (.some rfl rfl rfl hc11) rfl ?_
    refine JL.bin rfl rfl rfl (.some rfl rfl rfl hc11) rfl ?_
    refine JL.move (.some rfl rfl rfl hc11) rfl ?_
    refine JL.cut 3 (fun f => f 1 = .pointer (some ⟨b1, 0, none⟩) ∧ f 3 = .int .i64 y5.1 ∧ f 4 = .int .i64 y5.2 ∧ f 5 = .pointer (some ⟨b7, 0, none⟩) ∧ f 30 = .bool (y5.2 != y6.2) ∧ f 36 = .bool ((y5.2 != 0) && (y5.2 != 3))) ?_ ?_
    ·intro hJ12
     rcases bcases (y5.2 != 0) with hc13 | hc13
     ·skip
      refine JL.move (.some rfl rfl rfl hc13) rfl ?_
      refine JL.bin rfl rfl rfl (.some rfl rfl rfl hc13) rfl ?_
      refine JL.pick_t (b := (y5.2 != 0)) rfl hc13 (.some rfl rfl rfl hc11) rfl ?_
      exact hJ12 _ ⟨rfl, rfl, rfl, rfl, rfl, and_t hc13 rfl⟩
     ·skip
      refine JL.skip (.bool rfl rfl rfl hc13) rfl ?_
      refine JL.skip (.bool rfl rfl rfl hc13) rfl ?_
      refine JL.pick_f (b := (y5.2 != 0)) rfl hc13 (.some rfl rfl rfl hc11) rfl ?_
      exact hJ12 _ ⟨rfl, rfl, rfl, rfl, rfl, and_f hc13 rfl⟩
    ·rintro f ⟨hf1, hf3, hf4, hf5, hf30, hf36⟩
     refine (JL.norm (i := 1) hf1 (JL.norm (i := 3) hf3 (JL.norm (i := 4) hf4 (JL.norm (i := 5) hf5 (JL.norm (i := 30) hf30 (JL.norm (i := 36) hf36 ?_))))))
     refine JL.pick_f (b := (y5.2 != y6.2)) rfl hc11 .none rfl ?_
     exact hJ10 _ ⟨rfl, rfl, rfl, rfl, or_f hc11 rfl⟩
  ·rintro f ⟨hf1, hf3, hf4, hf5, hf37⟩
   refine (JL.norm (i := 1) hf1 (JL.norm (i := 3) hf3 (JL.norm (i := 4) hf4 (JL.norm (i := 5) hf5 (JL.norm (i := 37) hf37 ?_)))))
   refine JL.done hQ (JQ.go ?_)
   rcases ite_some hF with ⟨hc14, hF⟩ | ⟨hc14, hF⟩
   ·refine JC.cond_t (b := ((y5.2 != y6.2) || ((y5.2 != 0) && (y5.2 != 3)))) rfl hc14 ?_
    refine JC.seq (JC.region (by rfl) ?_)
    intro hQ
    refine JL.assign .none rfl ?_
    refine JL.done hQ (JQ.go (JC.ret (JQ.ret_then ?_)))
    obtain rfl := Option.some.inj hF
    exact JQ.outS rfl (.tmp .nil) rfl
   ·refine JC.cond_f (b := ((y5.2 != y6.2) || ((y5.2 != 0) && (y5.2 != 3)))) rfl hc14 ?_
    refine JC.skip (JQ.go (JC.seq (JC.seq (JC.region (by rfl) ?_))))
    intro hQ
    refine JL.move .none rfl ?_
    refine JL.bin rfl rfl rfl .none rfl ?_
    refine JL.done hQ (JQ.go ?_)
    rcases ite_some hF with ⟨hc15, hF⟩ | ⟨hc15, hF⟩
    ·refine JC.cond_t (b := (y5.2 != 0)) rfl hc15 ?_
     refine JC.seq (JC.region (by rfl) ?_)
     intro hQ
     obtain ⟨y16, hy16, hF⟩ := bind_some hF
     refine JL.callS (c_top_tested n H y16 hy16) rfl en_42 .none rfl ?_
     refine JL.assign .none rfl ?_
     refine JL.done hQ (JQ.go (JC.ret (JQ.ret_then ?_)))
     obtain rfl := Option.some.inj hF
     exact JQ.outS rfl (.tmp .nil) rfl
    ·refine JC.cond_f (b := (y5.2 != 0)) rfl hc15 ?_
     refine JC.skip (JQ.go (JC.seq (JC.region (by rfl) ?_)))
     intro hQ
     refine JL.loadOwn 1 az_90 rfl rfl rfl .none rfl ?_
     obtain ⟨y17, hy17, hF⟩ := bind_some hF
     refine JL.callH (c_top_greatest n H r r_v0 hr_0 r_v7 hr_7 r_v8 hr_8 r_v9 hr_9 r_v10 hr_10 y17 hy17) rfl en_47 .none rfl ?_
     rintro H18 vv19 hs18 ⟨y17a_v0, rfl, hy17a_0⟩
     refine JL.move .none rfl ?_
     refine JL.extract rfl rfl .none rfl ?_
     refine JL.extract rfl rfl .none rfl ?_
     refine JL.assign .none rfl ?_
     refine JL.assign .none rfl ?_
     refine JL.done hQ (JQ.go (JC.fresh (fun f => f 1 = .pointer (some ⟨b1, 0, none⟩) ∧ f 3 = .int .i64 y5.1 ∧ f 5 = .pointer (some ⟨b7, 0, none⟩) ∧ f 7 = y17a_v0 ∧ f 8 = .bool y17.2) ⟨rfl, rfl, rfl, rfl, rfl⟩ ?_))
     rintro f ⟨hf1, hf3, hf5, hf7, hf8⟩
     refine (JC.norm (i := 1) hf1 (JC.norm (i := 3) hf3 (JC.norm (i := 5) hf5 (JC.norm (i := 7) hf7 (JC.norm (i := 8) hf8 ?_)))))
     refine JC.seq (JC.seq (JC.region (by rfl) ?_))
     intro hQ
     refine JL.move .none rfl ?_
     refine JL.not rfl .none rfl ?_
     refine JL.done hQ (JQ.go ?_)
     rcases ite_some hF with ⟨hc20, hF⟩ | ⟨hc20, hF⟩
     ·refine JC.cond_t (b := (!y17.2)) rfl hc20 ?_
      refine JC.seq (JC.region (by rfl) ?_)
      intro hQ
      refine JL.assign .none rfl ?_
      refine JL.done hQ (JQ.go (JC.ret (JQ.ret_then ?_)))
      obtain rfl := Option.some.inj hF
      exact JQ.outS rfl (.tmp .nil) rfl
     ·refine JC.cond_f (b := (!y17.2)) rfl hc20 ?_
      refine JC.skip (JQ.go (JC.seq (JC.region (by rfl) ?_)))
      intro hQ
      refine JL.assign .none rfl ?_
      refine JL.done hQ (JQ.go (JC.seq (JC.seq (JC.region (by rfl) ?_))))
      intro hQ
      refine JL.assign .none rfl ?_
      refine JL.done hQ (JQ.go ?_)
      obtain ⟨r119, hlr119, hKr119⟩ := bind_some hF
      refine JC.join (fun (safe_117 : Bool) H118 f bs gs => f 3 = .int .i64 y5.1 ∧ f 5 = .pointer (some ⟨b7, 0, none⟩) ∧ f 9 = .bool safe_117 ∧ bs = [(b7, .cells [.int .i64 y6.1.Low, .int .i64 y6.1.High].toArray 39)] ∧ gs = [] ∧ HSub H18 H118 ∧ Sum.inr safe_117 = r119) ?_ ?_
      ·skip
       refine JC.block (JC.loop hlr119 (fun (x : Bool × Int) H182 f bs gs => match x with | (safe_180, i_181) => f 1 = .pointer (some ⟨b1, 0, none⟩) ∧ f 3 = .int .i64 y5.1 ∧ f 5 = .pointer (some ⟨b7, 0, none⟩) ∧ f 7 = y17a_v0 ∧ f 9 = .bool safe_180 ∧ f 10 = .int .i64 i_181 ∧ bs = [(b7, .cells [.int .i64 y6.1.Low, .int .i64 y6.1.High].toArray 39), (b1, .cells [r_v0, .int .i64 r.Canopy.Frame.Low, .int .i64 r.Canopy.Frame.High, .int .i64 r.Canopy.Frame.Ease.Num, .int .i64 r.Canopy.Frame.Ease.Den, .int .i64 r.Canopy.Frame.Rod, .int .i64 r.Canopy.Frame.Case, r_v7, r_v8, r_v9, r_v10, .int .i64 r.Wrong].toArray 90)] ∧ gs = [] ∧ HSub H18 H182) ⟨rfl, rfl, rfl, rfl, rfl, rfl, rfl, rfl, (HSub.refl _)⟩ ?_)
       rintro ⟨safe_180, i_181⟩ x184 H182 f bs gs ⟨hf1, hf3, hf5, hf7, hf9, hf10, rfl, rfl, hs182⟩ hF hr183
       rw [F_top_TopMost_s1] at hF
       refine (JC.norm (i := 1) hf1 (JC.norm (i := 3) hf3 (JC.norm (i := 5) hf5 (JC.norm (i := 7) hf7 (JC.norm (i := 9) hf9 (JC.norm (i := 10) hf10 ?_))))))
       refine JC.seq (JC.seq (JC.region (by rfl) ?_))
       intro hQ
       refine JL.move .none rfl ?_
       refine JL.move .none rfl ?_
       refine JL.lenSL (R := R_Gust) ul_103 (SL.mono R_Gust_mono hs182 hy17a_0) .none rfl ?_
       refine JL.bin rfl rfl rfl .none rfl ?_
       refine JL.done hQ (JQ.go ?_)
       rcases ite_some hF with ⟨hc185, hF⟩ | ⟨hc185, hF⟩
       ·refine JC.cond_t (b := decide (i_181 < (y17.1.length : Int))) rfl hc185 ?_
        refine JC.skip (JQ.go (JC.seq (JC.block (JC.seq (JC.draw (by rfl) mo_ (by kernel_rfl) ?_)))))
        intro hQ
        refine JL.fieldAddr fo_90_0 rfl .none rfl ?_
        refine JL.loadOwn 1 az_76 rfl rfl rfl .none rfl ?_
        refine JL.move .none rfl ?_
        refine JL.move .none rfl ?_
        obtain ⟨y192, hy192, hF⟩ := bind_some hF
        refine JL.indexSL (R := R_Gust) sl_103 (SL.mono R_Gust_mono hs182 hy17a_0) rfl hy192 .none rfl ?_
        rintro b193 o194 cs195 hc196 - rfl
        refine JL.fieldAddr fo_86_1 rfl .none rfl ?_
        refine JL.loadH 1 az_3 rfl hc196 rfl .none rfl ?_
        obtain ⟨y197, hy197, hF⟩ := bind_some hF
        refine JL.callS (c_gusts_Most n H182 r.Canopy r_v0 (SL.mono R_Section_mono (HSub.trans hs18 hs182) hr_0) r_v7 (SL.mono R_Span_mono (HSub.trans hs18 hs182) hr_7) r_v8 (SL.mono RInt.mono (HSub.trans hs18 hs182) hr_8) y192.At y197 hy197) rfl en_38 .none rfl ?_
        refine JL.move .none rfl ?_
        refine JL.extract rfl rfl .none rfl ?_
        refine JL.extract rfl rfl .none rfl ?_
        refine JL.assign .none rfl ?_
        refine JL.assign .none rfl ?_
        refine JL.doneQ hQ ?_
        refine JQ.go (JC.fresh (fun f => f 1 = .pointer (some ⟨b1, 0, none⟩) ∧ f 3 = .int .i64 y5.1 ∧ f 5 = .pointer (some ⟨b7, 0, none⟩) ∧ f 7 = y17a_v0 ∧ f 9 = .bool safe_180 ∧ f 10 = .int .i64 i_181 ∧ f 11 = .int .i64 y197.1 ∧ f 12 = .int .i64 y197.2) ⟨rfl, rfl, rfl, rfl, rfl, rfl, rfl, rfl⟩ ?_)
        rintro f ⟨hf1, hf3, hf5, hf7, hf9, hf10, hf11, hf12⟩
        refine (JC.norm (i := 1) hf1 (JC.norm (i := 3) hf3 (JC.norm (i := 5) hf5 (JC.norm (i := 7) hf7 (JC.norm (i := 9) hf9 (JC.norm (i := 10) hf10 (JC.norm (i := 11) hf11 (JC.norm (i := 12) hf12 ?_))))))))
        refine JC.seq (JC.seq (JC.region (by rfl) ?_))
        intro hQ
        refine JL.move .none rfl ?_
        refine JL.bin rfl rfl rfl .none rfl ?_
        refine JL.move .none rfl ?_
        refine JL.cut 3 (fun f => f 1 = .pointer (some ⟨b1, 0, none⟩) ∧ f 3 = .int .i64 y5.1 ∧ f 5 = .pointer (some ⟨b7, 0, none⟩) ∧ f 7 = y17a_v0 ∧ f 9 = .bool safe_180 ∧ f 10 = .int .i64 i_181 ∧ f 11 = .int .i64 y197.1 ∧ f 70 = .bool ((y197.2 != 0) || (decide (y197.1 < 0)))) ?_ ?_
        ·intro hJ198
         rcases bcases (y197.2 != 0) with hc199 | hc199
         ·skip
          refine JL.skip (.bool rfl rfl rfl hc199) rfl ?_
          refine JL.skip (.bool rfl rfl rfl hc199) rfl ?_
          refine JL.pick_t (b := (y197.2 != 0)) rfl hc199 .none rfl ?_
          exact hJ198 _ ⟨rfl, rfl, rfl, rfl, rfl, rfl, rfl, or_t hc199 rfl⟩
         ·skip
          refine JL.move (.some rfl rfl rfl hc199) rfl ?_
          refine JL.bin rfl rfl rfl (.some rfl rfl rfl hc199) rfl ?_
          refine JL.pick_f (b := (y197.2 != 0)) rfl hc199 .none rfl ?_
          exact hJ198 _ ⟨rfl, rfl, rfl, rfl, rfl, rfl, rfl, or_f hc199 rfl⟩
        ·rintro f ⟨hf1, hf3, hf5, hf7, hf9, hf10, hf11, hf70⟩
         refine (JL.norm (i := 1) hf1 (JL.norm (i := 3) hf3 (JL.norm (i := 5) hf5 (JL.norm (i := 7) hf7 (JL.norm (i := 9) hf9 (JL.norm (i := 10) hf10 (JL.norm (i := 11) hf11 (JL.norm (i := 70) hf70 ?_))))))))
         refine JL.move .none rfl ?_
         refine JL.cut 3 (fun f => f 1 = .pointer (some ⟨b1, 0, none⟩) ∧ f 3 = .int .i64 y5.1 ∧ f 5 = .pointer (some ⟨b7, 0, none⟩) ∧ f 7 = y17a_v0 ∧ f 9 = .bool safe_180 ∧ f 10 = .int .i64 i_181 ∧ f 11 = .int .i64 y197.1 ∧ f 74 = .bool (((y197.2 != 0) || (decide (y197.1 < 0))) || (decide (99 < y197.1)))) ?_ ?_
         ·intro hJ200
          rcases bcases ((y197.2 != 0) || (decide (y197.1 < 0))) with hc201 | hc201
          ·skip
           refine JL.skip (.bool rfl rfl rfl hc201) rfl ?_
           refine JL.skip (.bool rfl rfl rfl hc201) rfl ?_
           refine JL.pick_t (b := ((y197.2 != 0) || (decide (y197.1 < 0)))) rfl hc201 .none rfl ?_
           exact hJ200 _ ⟨rfl, rfl, rfl, rfl, rfl, rfl, rfl, or_t hc201 rfl⟩
          ·skip
           refine JL.move (.some rfl rfl rfl hc201) rfl ?_
           refine JL.bin rfl rfl rfl (.some rfl rfl rfl hc201) rfl ?_
           refine JL.pick_f (b := ((y197.2 != 0) || (decide (y197.1 < 0)))) rfl hc201 .none rfl ?_
           exact hJ200 _ ⟨rfl, rfl, rfl, rfl, rfl, rfl, rfl, or_f hc201 rfl⟩
         ·rintro f ⟨hf1, hf3, hf5, hf7, hf9, hf10, hf11, hf74⟩
          refine (JL.norm (i := 1) hf1 (JL.norm (i := 3) hf3 (JL.norm (i := 5) hf5 (JL.norm (i := 7) hf7 (JL.norm (i := 9) hf9 (JL.norm (i := 10) hf10 (JL.norm (i := 11) hf11 (JL.norm (i := 74) hf74 ?_))))))))
          refine JL.done hQ (JQ.go ?_)
          rcases ite_some hF with ⟨hc202, hF⟩ | ⟨hc202, hF⟩
          ·refine JC.cond_t (b := (((y197.2 != 0) || (decide (y197.1 < 0))) || (decide (99 < y197.1)))) rfl hc202 ?_
           refine JC.seq (JC.region (by rfl) ?_)
           intro hQ
           refine JL.assign .none rfl ?_
           refine JL.done hQ (JQ.go (JC.ret (JQ.ret_then (JQ.ret_block (JQ.ret_then (JQ.ret_then (JQ.ret_block (JQ.ret_join (JQ.ret_then ?_)))))))))
           obtain rfl := Option.some.inj hF
           have ehr183 := hr183 _ rfl
           subst ehr183
           have hF := hKr119
           try dsimp only at hF
           obtain rfl := Option.some.inj hF
           exact JQ.outS rfl (.tmp .nil) rfl
          ·refine JC.cond_f (b := (((y197.2 != 0) || (decide (y197.1 < 0))) || (decide (99 < y197.1)))) rfl hc202 ?_
           refine JC.skip (JQ.go (JC.region (by rfl) ?_))
           intro hQ
           refine JL.move .none rfl ?_
           refine JL.move .none rfl ?_
           obtain ⟨p208, hp208, hF⟩ := bind_some hF
           refine JL.cut 8 (fun f => f 1 = .pointer (some ⟨b1, 0, none⟩) ∧ f 3 = .int .i64 y5.1 ∧ f 5 = .pointer (some ⟨b7, 0, none⟩) ∧ f 7 = y17a_v0 ∧ f 10 = .int .i64 i_181 ∧ f 84 = .bool p208) ?_ ?_
           ·intro hJ209
            rcases ite_some hp208 with ⟨hc210, hF⟩ | ⟨hc210, hF⟩
            ·skip
             refine JL.move (.some rfl rfl rfl hc210) rfl ?_
             refine JL.move (.some rfl rfl rfl hc210) rfl ?_
             obtain ⟨y211, hy211, hF⟩ := bind_some hF
             refine JL.indexSL (R := R_Gust) sl_103 (SL.mono R_Gust_mono hs182 hy17a_0) rfl hy211 (.some rfl rfl rfl hc210) rfl ?_
             rintro b212 o213 cs214 hc215 - rfl
             refine JL.fieldAddr fo_86_0 rfl (.some rfl rfl rfl hc210) rfl ?_
             refine JL.loadH 0 az_3 rfl hc215 rfl (.some rfl rfl rfl hc210) rfl ?_
             refine JL.move (.some rfl rfl rfl hc210) rfl ?_
             refine JL.bin rfl rfl rfl (.some rfl rfl rfl hc210) rfl ?_
             refine JL.pick_t (b := safe_180) rfl hc210 .none rfl ?_
             obtain rfl := Option.some.inj hF
             exact hJ209 _ ⟨rfl, rfl, rfl, rfl, rfl, rfl⟩
            ·skip
             refine JL.skip (.bool rfl rfl rfl hc210) rfl ?_
             refine JL.skip (.bool rfl rfl rfl hc210) rfl ?_
             refine JL.skip (.bool rfl rfl rfl hc210) rfl ?_
             refine JL.skip (.bool rfl rfl rfl hc210) rfl ?_
             refine JL.skip (.bool rfl rfl rfl hc210) rfl ?_
             refine JL.skip (.bool rfl rfl rfl hc210) rfl ?_
             refine JL.skip (.bool rfl rfl rfl hc210) rfl ?_
             refine JL.pick_f (b := safe_180) rfl hc210 .none rfl ?_
             obtain rfl := Option.some.inj hF
             exact hJ209 _ ⟨rfl, rfl, rfl, rfl, rfl, rfl⟩
           ·rintro f ⟨hf1, hf3, hf5, hf7, hf10, hf84⟩
            refine (JL.norm (i := 1) hf1 (JL.norm (i := 3) hf3 (JL.norm (i := 5) hf5 (JL.norm (i := 7) hf7 (JL.norm (i := 10) hf10 (JL.norm (i := 84) hf84 ?_))))))
            refine JL.assign .none rfl ?_
            refine JL.done hQ (JQ.normal_block (JQ.go (JC.region (by rfl) ?_)))
            intro hQ
            refine JL.move .none rfl ?_
            refine JL.bin rfl rfl rfl .none rfl ?_
            refine JL.assign .none rfl ?_
            refine JL.done hQ ?_
            obtain rfl := Option.some.inj hF
            exact JQ.next rfl ⟨rfl, rfl, rfl, rfl, rfl, rfl, rfl, rfl, hs182⟩
       ·refine JC.cond_f (b := decide (i_181 < (y17.1.length : Int))) rfl hc185 ?_
        refine JC.exit (JQ.exit_then (JQ.exit_then (JQ.exit_block ?_)))
        obtain rfl := Option.some.inj hF
        have ehr183 := hr183 _ rfl
        subst ehr183
        refine JQ.mask [true, false] [] ?_
        exact JQ.join safe_180 ⟨rfl, rfl, rfl, rfl, rfl, hs182, rfl⟩
      ·rintro safe_117 H118 f bs gs ⟨hf3, hf5, hf9, rfl, rfl, hs118, rfl⟩
       have hF := hKr119
       try dsimp only at hF
       refine (JQ.norm (i := 3) hf3 (JQ.norm (i := 5) hf5 (JQ.norm (i := 9) hf9 ?_)))
       refine JQ.go (JC.seq (JC.region (by rfl) ?_))
       intro hQ
       refine JL.move .none rfl ?_
       refine JL.move .none rfl ?_
       refine JL.bin rfl rfl rfl .none rfl ?_
       refine JL.eqBool ub_4 rfl rfl .none rfl ?_
       refine JL.move .none rfl ?_
       refine JL.cut 6 (fun f => f 95 = .bool ((safe_117 == (y5.1 == 1)) && (safe_117 == (y6.1.High == 0)))) ?_ ?_
       ·intro hJ216
        rcases bcases (safe_117 == (y5.1 == 1)) with hc217 | hc217
        ·skip
         refine JL.move (.some rfl rfl rfl hc217) rfl ?_
         refine JL.fieldAddr fo_39_1 rfl (.some rfl rfl rfl hc217) rfl ?_
         refine JL.loadOwn 0 az_3 rfl rfl rfl (.some rfl rfl rfl hc217) rfl ?_
         refine JL.bin rfl rfl rfl (.some rfl rfl rfl hc217) rfl ?_
         refine JL.eqBool ub_4 rfl rfl (.some rfl rfl rfl hc217) rfl ?_
         refine JL.pick_t (b := (safe_117 == (y5.1 == 1))) rfl hc217 .none rfl ?_
         exact hJ216 _ (and_t hc217 rfl)
        ·skip
         refine JL.skip (.bool rfl rfl rfl hc217) rfl ?_
         refine JL.skip (.bool rfl rfl rfl hc217) rfl ?_
         refine JL.skip (.bool rfl rfl rfl hc217) rfl ?_
         refine JL.skip (.bool rfl rfl rfl hc217) rfl ?_
         refine JL.skip (.bool rfl rfl rfl hc217) rfl ?_
         refine JL.pick_f (b := (safe_117 == (y5.1 == 1))) rfl hc217 .none rfl ?_
         exact hJ216 _ (and_f hc217 rfl)
       ·rintro f hf95
        refine (JL.norm (i := 95) hf95 ?_)
        refine JL.move .none rfl ?_
        obtain ⟨p219, hp219, hF⟩ := bind_some hF
        refine JL.cut 2 (fun f => f 98 = .bool p219) ?_ ?_
        ·intro hJ220
         rcases ite_some hp219 with ⟨hc221, hF⟩ | ⟨hc221, hF⟩
         ·skip
          obtain ⟨y222, hy222, hF⟩ := bind_some hF
          refine JL.callS (c_top_tested n H118 y222 hy222) rfl en_42 (.some rfl rfl rfl hc221) rfl ?_
          refine JL.pick_t (b := ((safe_117 == (y5.1 == 1)) && (safe_117 == (y6.1.High == 0)))) rfl hc221 .none rfl ?_
          obtain rfl := Option.some.inj hF
          exact hJ220 _ (rfl)
         ·skip
          refine JL.skip (.bool rfl rfl rfl hc221) rfl ?_
          refine JL.pick_f (b := ((safe_117 == (y5.1 == 1)) && (safe_117 == (y6.1.High == 0)))) rfl hc221 .none rfl ?_
          obtain rfl := Option.some.inj hF
          exact hJ220 _ (rfl)
        ·rintro f hf98
         refine (JL.norm (i := 98) hf98 ?_)
         refine JL.assign .none rfl ?_
         refine JL.done hQ (JQ.go (JC.ret ?_))
         obtain rfl := Option.some.inj hF
         exact JQ.outS rfl (.tmp .nil) rfl
end Go.Proofs.Yteihdclpiekmaaa
end
section
namespace Go.Proofs.Yteihdclpiekmaaa
open Go Go.RowKit Go.Dec
theorem law_TopMost (r : Run) (_ : W_Run r) : ∃ n, F_top_TopMost n r = some true := by
  have hn : 100000000 ≤ 100000000 := Nat.le_refl _
  refine ⟨100000000, ?_⟩
  have hw := tested_any hn
  simp only [F_top_TopMost]
  rcases p_isRun hn r with h | ⟨h, hr⟩
  · simp [h, hw]
  · have hs := hr.small
    have hnb := hr.nb
    have hd := hr.d
    simp only [h, Option.bind_some, Bool.not_true, Bool.false_eq_true, if_false, p_Stood hn hs, p_Harm hn hs, stood_err, harm_err]
    rcases errR_three hr with e | e
    · obtain ⟨_, hz⟩ := high_zero e hr rfl rfl
      have hst := stood_high e
      have hloop := loop_run (step := F_top_TopMost_s1 100000000 r (greatL r, true)) (fun j => (((greatL r).take j).all fun g => decide (standsI r.Canopy [g] = 1), (j : Int))) (r := Sum.inr ((greatL r).all fun g => decide (standsI r.Canopy [g] = 1))) (greatL r).length 0 100000000 (fun j _ hj => by
        have hjl : j < (greatL r).length := by omega
        obtain ⟨g, hg⟩ : ∃ g, (greatL r)[j]? = some g := ⟨_, List.getElem?_eq_getElem hjl⟩
        have hgo := great_ok e (List.mem_of_getElem? hg)
        obtain ⟨m1, m2⟩ := most_spec hd g.At
        have am0 : askG r.Canopy [⟨0, g.At⟩] = 0 := askG_ok.2 ⟨hd, by simp, fun z hz => by rw [List.mem_singleton.1 hz]; exact ⟨by simp, hgo.a⟩⟩
        have hmo : mostT r.Canopy g.At = ((mostS r.Canopy g.At : Int), 0) := by unfold mostT; rw [if_pos am0]
        have d1 : ((((0 : Int) != 0) || decide ((mostS r.Canopy g.At : Int) < 0)) || decide ((99 : Int) < (mostS r.Canopy g.At : Int))) = false := by
          rw [decide_eq_false (by omega), decide_eq_false (by omega)]; rfl
        have hsf : decide (standsI r.Canopy [g] = 1) = decide (g.Force ≤ (mostS r.Canopy g.At : Int)) := by
          have hgf := hgo.f
          have h1 := m2 g.Force.toNat (by omega)
          have e1 : g = ⟨((g.Force.toNat : Nat) : Int), g.At⟩ := by
            have : ((g.Force.toNat : Nat) : Int) = g.Force := by omega
            rw [this]
          have h2 : standsI r.Canopy [g] = 1 ↔ standF r.Canopy g.At g.Force.toNat = true := by
            rw [stands_one]
            conv => lhs; rw [e1]
            simp [standF]
          rw [h1, decide_eq_true_eq] at h2
          rw [decide_eq_decide, h2]
          omega
        have hln := great_len r
        simp only [F_top_TopMost_s1, lt_nat, hjl, decide_true, if_true, geti_nat, hg, Option.bind_some, p_Most hn hs.1, hmo, d1, Bool.false_eq_true, if_false, w64_nat (show j ≤ 4611686018427387904 by omega), List.take_add_one, Option.toList_some, List.all_append, List.all_cons, List.all_nil, Bool.and_true, hsf]
        cases ((greatL r).take j).all fun g => decide (standsI r.Canopy [g] = 1)
        · simp
        · simp) (by
        rw [Nat.zero_add, List.take_length]
        simp [F_top_TopMost_s1]) (by rw [great_len]; omega)
      simp only [List.take_zero, List.all_nil, show ((0 : Nat) : Int) = 0 from rfl] at hloop
      simp only [e, bne_self_eq_false, Bool.or_self, Bool.false_and, Bool.false_eq_true, if_false, p_greatest hn e, Bool.not_true, hloop, Option.bind_some]
      have c1 : ((greatL r).all fun g => decide (standsI r.Canopy [g] = 1)) = ((harmT r).1.High == 0) := by
        rw [Bool.eq_iff_iff, List.all_eq_true, beq_iff_eq, hz]
        simp only [decide_eq_true_eq]
      have c2 : ((stoodT r).1 == 1) = ((harmT r).1.High == 0) := by
        rw [Bool.eq_iff_iff, beq_iff_eq, beq_iff_eq]; exact hst
      simp only [c1, c2, beq_self_eq_true, Bool.and_self, if_true, hw, Option.bind_some]
    · simp [e, hw]
end Go.Proofs.Yteihdclpiekmaaa
end
section
namespace Go.Proofs.Yteihdclpiekmaaa
open Go Go.RowKit Go.Dec Go.ChangeShapes Go.WideShapes Go.ChangeAt
set_option linter.unusedVariables false
theorem cl_laidOut : laidOutB Try.prog = true := by kernel_rfl
theorem cl_own : ownKnob Try.prog.godebug = none := by kernel_rfl
set_option maxRecDepth 100000 in
set_option maxHeartbeats 1000000 in
theorem topMost_contract (law : ∀ (x0 : Run), W_Run x0 → ∃ n, F_top_TopMost n x0 = some true)
    (T : Type) (enc : TypeId × Value → T) (W : World) (base : Nat) (args : Array Value) (ds gs : List (DataW T)) (before : List MemPlace)
    (hval : ∀ (j : Nat) t v, Try.f7.params[j]? = some t → args[j]? = some v → Value.okWide Try.prog W .any base t v)
    (hW : DataW.Whole enc Try.prog Try.f7.params.toList Rows.topMostSpec.vars false W args.toList ds gs before) :
    Calls Try.prog 7 args W fun e W' => ∃ v, e = .returned v ∧ Rows.topMostSpec.post enc Try.prog Try.f7 false true false false W args v W' := by
  have hW' := hW
  obtain ⟨p, q, hA0, hV, rfl, hfz, hnd⟩ := hW
  have hA : DataW.TrodAll enc Try.prog W 0 (fun _ => true) true Try.f7.params.toList args.toList ds p := hA0
  rw [Try.params7] at hA hval
  obtain ⟨v0, vs0, d0, ds0, p0, q0, hargs, rfl, rfl, h0, r0⟩ := trodAll_cons hA
  obtain ⟨rfl, rfl, rfl⟩ := trodAll_nil r0
  obtain rfl : args = #[v0] := by rw [← Array.toArray_toList (xs := args), hargs]
  obtain ⟨rfl, rfl⟩ := trodVars_none hV
  obtain ⟨cs0, rfl, hs0⟩ := okWide_struct Try.underlying90 (hval 0 90 v0 rfl rfl)
  have k0 := h0
  obtain ⟨f0, e0⟩ := h0
  obtain ⟨_, x0, r0, w0⟩ := o_Run _ _ _ _ _ _ _ e0
  obtain ⟨n, hn⟩ := law x0 w0
  obtain ⟨u0_0, u0_1, u0_2, u0_3, u0_4, q0, s0_0, s0_1, s0_2, s0_3, s0_4⟩ := r0
  have q0 : cs0.toList = _ := q0
  obtain rfl : cs0 = _ := by rw [← Array.toArray_toList (xs := cs0), q0]
  have hlt : ∀ x ∈ p0 ++ [], x.block < W.heap.size := fun x hx => hW'.lt x (by simpa using hx)
  refine ((c_top_TopMost n (hw W) x0 u0_0 s0_0 u0_1 s0_1 u0_2 s0_2 u0_3 s0_3 u0_4 s0_4 true hn) W (hw_le W)).mono fun e W' ⟨he, hb0⟩ => ?_
  have hb := hb0.plain rfl
  subst he
  refine ⟨_, rfl, _, _, _, [], p0 ++ [], [], hW', trodAll_cons_mk (shut_bool Try.underlying4 _) trodAll_mk0, ?_, rfl, hb.frame _, fun h => by cases h⟩
  exact trodAll_cons_mk (Below.trod cl_laidOut (by kernel_rfl) (of_decide_eq_true (by kernel_rfl)) k0 hb (fun x hx => hlt x (List.mem_append_left _ hx))) trodAll_mk0
set_option maxRecDepth 100000 in
theorem topMost_lifted (law : ∀ (x0 : Run), W_Run x0 → ∃ n, F_top_TopMost n x0 = some true)
    (os : Os) (started : os.Started) (H : Type) (enc : TypeId × Value → H) :
    ReturnsInHanded {} Try.checked os 7 .any (Rows.topMostSpec.pre6 enc Try.prog Try.f7 Rows.topMostRow.domain false) (Rows.topMostSpec.post enc Try.prog Try.f7 false true false false) := by
  refine returnsInHanded_of_change (C := Try.checked) cl_own started (by kernel_rfl) Try.func7
    (ChangeSpec.witness6 (enc := enc) (C := Try.checked) false ⟨#[], #[.agg #[.slice none 0 0, .int .i64 0, .int .i64 0, .int .i64 0, .int .i64 0, .int .i64 0, .int .i64 0, .slice none 0 0, .slice none 0 0, .slice none 0 0, .slice none 0 0, .int .i64 0]], []⟩ 8 (by kernel_rfl) (by kernel_rfl) (by kernel_rfl) (by kernel_rfl)) ?_
  intro W base args ds gs before hval hW _ _
  exact topMost_contract law H enc W base args ds gs before hval hW
theorem topMost_holds (law : ∀ (x0 : Run), W_Run x0 → ∃ n, F_top_TopMost n x0 = some true) : Rows.TopMostSaid :=
  OpenClaim.holds_of_wide 7 Try.f7 rfl rfl rfl rfl rfl rfl rfl ⟨rfl, rfl, rfl, rfl, rfl⟩ rfl rfl rfl rfl rfl (by kernel_rfl) Try.func7 (by kernel_rfl)
    (of_decide_eq_true (by kernel_rfl)) (by unfold Func.isWrapper; first | (rw [if_pos (by decide +kernel)]; kernel_rfl) | (rw [if_neg (by decide +kernel)]; exact ⟨rfl, rfl⟩))
    (fun os started H enc _ => topMost_lifted law os started H enc)
theorem topMost_proved : Rows.TopMostSaid := topMost_holds law_TopMost
end Go.Proofs.Yteihdclpiekmaaa
end
