/-
  A part of the proof of COrder: the texts GCountsOrder, LawOrder.
-/
import Derived.Test.YtcipdblhopffbaaJCOrder13
section
namespace Go.Proofs.Ytcipdblhopffbaa
open Go Go.RowKit Go.Dec
set_option linter.unusedVariables false
-- 6 ferrule/ferrulelaw13.CountsOrder
noncomputable def F_law13_CountsOrder_s1 (n : Nat) (r : Run) (by_ : Int) : Int × List Blow → Option ((Int × List Blow) ⊕ (List Blow))
 | (i_331, out_332) => if decide (i_331 < (r.Blows.length : Int)) = true then ((nz (r.Blows.length : Int)).bind fun _ => (geti r.Blows ((w64 (i_331 + by_)).tmod (r.Blows.length : Int))).bind fun y347 => (geti out_332 i_331).bind fun y352 => some (Sum.inl ((w64 (i_331 + 1)), (setx out_332 i_331 y347)))) else (some (Sum.inr out_332))
noncomputable def F_law13_CountsOrder_s2 (n : Nat) (r : Run) (by_ : Int) : Int × List Meter → Option ((Int × List Meter) ⊕ (List Meter))
 | (i_698, out_699) => if decide (i_698 < (r.Meters.length : Int)) = true then ((nz (r.Meters.length : Int)).bind fun _ => (geti r.Meters ((w64 (i_698 + by_)).tmod (r.Meters.length : Int))).bind fun y714 => (geti out_699 i_698).bind fun y719 => some (Sum.inl ((w64 (i_698 + 1)), (setx out_699 i_698 y714)))) else (some (Sum.inr out_699))
noncomputable def F_law13_CountsOrder (n : Nat) (r : Run) (by_ : Int) (x_ : law13_Ask) : Option Bool :=
 (F_law13_ready n r).bind fun y3 => if (((((((!y3) || (decide (by_ < 0))) || (decide (100 < by_))) || (decide (x_.Blow < 0))) || (decide ((r.Blows.length : Int) ≤ x_.Blow))) || (decide (x_.Meter < 0))) || (decide ((r.Meters.length : Int) ≤ x_.Meter))) = true then ((F_law13_works n).bind fun y17 => some y17) else ((F_ref13_Copy n r).bind fun y18 => (loopO n (F_law13_CountsOrder_s1 n r by_) (0, y18.Blows)).bind fun out_208 => (loopO n (F_law13_CountsOrder_s2 n r by_) (0, y18.Meters)).bind fun out_575 => (F_counts_Many n r).bind fun y760 => (F_counts_Many n (Run.mk y18.Canopy out_208 out_575 y18.Wrong)).bind fun y764 => (F_counts_Reads n r x_.Limit).bind fun y765 => (F_counts_Reads n (Run.mk y18.Canopy out_208 out_575 y18.Wrong) x_.Limit).bind fun y770 => (F_counts_Harm n r).bind fun y772 => (F_counts_Harm n (Run.mk y18.Canopy out_208 out_575 y18.Wrong)).bind fun y777 => (F_counts_Forces n (Run.mk y18.Canopy out_208 out_575 y18.Wrong) x_.Blow).bind fun y783 => (nz (r.Blows.length : Int)).bind fun _ => (F_counts_Forces n r ((w64 (x_.Blow + by_)).tmod (r.Blows.length : Int))).bind fun y789 => (F_counts_Right n (Run.mk y18.Canopy out_208 out_575 y18.Wrong) x_.Meter).bind fun y796 => (nz (r.Meters.length : Int)).bind fun _ => (F_counts_Right n r ((w64 (x_.Meter + by_)).tmod (r.Meters.length : Int))).bind fun y800 => (if ((((((y760.1 == y764.1) && (y760.2 == y764.2)) && ((y765.1.Low == y770.1.Low) && (y765.1.High == y770.1.High))) && (y765.2 == y770.2)) && ((y772.1.Low == y777.1.Low) && (y772.1.High == y777.1.High))) && (y772.2 == y777.2)) = true then ((F_law13_sameInts n y783.1 y789.1).bind fun y815 => some y815) else (some false) : Option Bool).bind fun p812 => (if (((p812 && (y783.2 == y789.2)) && (y796.1 == y800.1)) && (y796.2 == y800.2)) = true then ((F_law13_works n).bind fun y826 => some y826) else (some false) : Option Bool).bind fun p823 => some p823)
set_option maxRecDepth 100000 in
set_option maxHeartbeats 40000000 in
theorem c_law13_CountsOrder (n : Nat) (H : Hp) (r : Run) (r_v0 : Value) (hr_0 : SL H 7 R_Section r_v0 r.Canopy.Frame.Sections) (r_v7 : Value) (hr_7 : SL H 2 R_Span r_v7 r.Canopy.Ribs) (r_v8 : Value) (hr_8 : SL H 1 RInt r_v8 r.Canopy.Shares) (r_v9 : Value) (hr_9 : SL H 3 R_Blow r_v9 r.Blows) (r_v10 : Value) (hr_10 : SL H 2 R_Meter r_v10 r.Meters) (by_ : Int) (x_ : law13_Ask) (y : Bool) (hF : F_law13_CountsOrder n r by_ x_ = some y) : SC Try.prog 6 [.agg [r_v0, .int .i64 r.Canopy.Frame.Low, .int .i64 r.Canopy.Frame.High, .int .i64 r.Canopy.Frame.Ease.Num, .int .i64 r.Canopy.Frame.Ease.Den, .int .i64 r.Canopy.Frame.Rod, .int .i64 r.Canopy.Frame.Case, r_v7, r_v8, r_v9, r_v10, .int .i64 r.Wrong].toArray, .int .i64 by_, .agg [.int .i64 x_.Blow, .int .i64 x_.Meter, .int .i64 x_.Limit].toArray] (.bool y) H := by
 rw [F_law13_CountsOrder] at hF
 refine SC.of (N := 239) Try.func6 rfl rfl rfl fun w => ?_
 refine JC.seq ?_
 refine JC.region (by rfl) ?_
 intro hQ
 refine JL.box (cs := [r_v0, .int .i64 r.Canopy.Frame.Low, .int .i64 r.Canopy.Frame.High, .int .i64 r.Canopy.Frame.Ease.Num, .int .i64 r.Canopy.Frame.Ease.Den, .int .i64 r.Canopy.Frame.Rod, .int .i64 r.Canopy.Frame.Case, r_v7, r_v8, r_v9, r_v10, .int .i64 r.Wrong]) rfl .none rfl ?_
 intro b1
 refine JL.box (cs := [.int .i64 x_.Blow, .int .i64 x_.Meter, .int .i64 x_.Limit]) rfl .none rfl ?_
 intro b2
 refine JL.assign .none rfl ?_
 refine JL.done hQ ?_
 refine JQ.go ?_
 refine JC.seq ?_
 refine JC.seq ?_
 refine JC.region (by rfl) ?_
 intro hQ
 refine JL.loadOwn 1 az_34 rfl rfl rfl .none rfl ?_
 obtain ⟨y3, hy3, hF⟩ := bind_some hF
 refine JL.callS (c_law13_ready n H r r_v0 hr_0 r_v7 hr_7 r_v8 hr_8 r_v9 hr_9 r_v10 hr_10 y3 hy3) rfl en_8 .none rfl ?_
 refine JL.not rfl .none rfl ?_
 refine JL.move .none rfl ?_
 refine JL.cut 3 (fun f => f 1 = .int .i64 by_ ∧ f 3 = .pointer (some ⟨b1, 0, none⟩) ∧ f 5 = .pointer (some ⟨b2, 0, none⟩) ∧ f 36 = .bool ((!y3) || (decide (by_ < 0)))) ?_ ?_
 ·intro hJ4
  rcases bcases (!y3) with hc5 | hc5
  ·skip
   refine JL.skip (.bool rfl rfl rfl hc5) rfl ?_
   refine JL.skip (.bool rfl rfl rfl hc5) rfl ?_
   refine JL.pick_t (b := (!y3)) rfl hc5 .none rfl ?_
   exact hJ4 _ ⟨rfl, rfl, rfl, or_t hc5 rfl⟩
  ·skip
   refine JL.move (.some rfl rfl rfl hc5) rfl ?_
   refine JL.bin rfl rfl rfl (.some rfl rfl rfl hc5) rfl ?_
   refine JL.pick_f (b := (!y3)) rfl hc5 .none rfl ?_
   exact hJ4 _ ⟨rfl, rfl, rfl, or_f hc5 rfl⟩
 ·rintro f ⟨hf1, hf3, hf5, hf36⟩
  refine (JL.norm (i := 1) hf1 (JL.norm (i := 3) hf3 (JL.norm (i := 5) hf5 (JL.norm (i := 36) hf36 ?_))))
  refine JL.move .none rfl ?_
  refine JL.cut 3 (fun f => f 1 = .int .i64 by_ ∧ f 3 = .pointer (some ⟨b1, 0, none⟩) ∧ f 5 = .pointer (some ⟨b2, 0, none⟩) ∧ f 40 = .bool (((!y3) || (decide (by_ < 0))) || (decide (100 < by_)))) ?_ ?_
  ·intro hJ6
   rcases bcases ((!y3) || (decide (by_ < 0))) with hc7 | hc7
   ·skip
    refine JL.skip (.bool rfl rfl rfl hc7) rfl ?_
    refine JL.skip (.bool rfl rfl rfl hc7) rfl ?_
    refine JL.pick_t (b := ((!y3) || (decide (by_ < 0)))) rfl hc7 .none rfl ?_
    exact hJ6 _ ⟨rfl, rfl, rfl, or_t hc7 rfl⟩
   ·skip
    refine JL.move (.some rfl rfl rfl hc7) rfl ?_
    refine JL.bin rfl rfl rfl (.some rfl rfl rfl hc7) rfl ?_
    refine JL.pick_f (b := ((!y3) || (decide (by_ < 0)))) rfl hc7 .none rfl ?_
    exact hJ6 _ ⟨rfl, rfl, rfl, or_f hc7 rfl⟩
  ·rintro f ⟨hf1, hf3, hf5, hf40⟩
   refine (JL.norm (i := 1) hf1 (JL.norm (i := 3) hf3 (JL.norm (i := 5) hf5 (JL.norm (i := 40) hf40 ?_))))
   refine JL.move .none rfl ?_
   refine JL.cut 4 (fun f => f 1 = .int .i64 by_ ∧ f 3 = .pointer (some ⟨b1, 0, none⟩) ∧ f 5 = .pointer (some ⟨b2, 0, none⟩) ∧ f 45 = .bool ((((!y3) || (decide (by_ < 0))) || (decide (100 < by_))) || (decide (x_.Blow < 0)))) ?_ ?_
   ·intro hJ8
    rcases bcases (((!y3) || (decide (by_ < 0))) || (decide (100 < by_))) with hc9 | hc9
    ·skip
     refine JL.skip (.bool rfl rfl rfl hc9) rfl ?_
     refine JL.skip (.bool rfl rfl rfl hc9) rfl ?_
     refine JL.skip (.bool rfl rfl rfl hc9) rfl ?_
     refine JL.pick_t (b := (((!y3) || (decide (by_ < 0))) || (decide (100 < by_)))) rfl hc9 .none rfl ?_
     exact hJ8 _ ⟨rfl, rfl, rfl, or_t hc9 rfl⟩
    ·skip
     refine JL.fieldAddr fo_67_0 rfl (.some rfl rfl rfl hc9) rfl ?_
     refine JL.loadOwn 0 az_3 rfl rfl rfl (.some rfl rfl rfl hc9) rfl ?_
     refine JL.bin rfl rfl rfl (.some rfl rfl rfl hc9) rfl ?_
     refine JL.pick_f (b := (((!y3) || (decide (by_ < 0))) || (decide (100 < by_)))) rfl hc9 .none rfl ?_
     exact hJ8 _ ⟨rfl, rfl, rfl, or_f hc9 rfl⟩
   ·rintro f ⟨hf1, hf3, hf5, hf45⟩
    refine (JL.norm (i := 1) hf1 (JL.norm (i := 3) hf3 (JL.norm (i := 5) hf5 (JL.norm (i := 45) hf45 ?_))))
    refine JL.move .none rfl ?_
    refine JL.cut 7 (fun f => f 1 = .int .i64 by_ ∧ f 3 = .pointer (some ⟨b1, 0, none⟩) ∧ f 5 = .pointer (some ⟨b2, 0, none⟩) ∧ f 53 = .bool (((((!y3) || (decide (by_ < 0))) || (decide (100 < by_))) || (decide (x_.Blow < 0))) || (decide ((r.Blows.length : Int) ≤ x_.Blow)))) ?_ ?_
    ·intro hJ10
     rcases bcases ((((!y3) || (decide (by_ < 0))) || (decide (100 < by_))) || (decide (x_.Blow < 0))) with hc11 | hc11
     ·skip
      refine JL.skip (.bool rfl rfl rfl hc11) rfl ?_
      refine JL.skip (.bool rfl rfl rfl hc11) rfl ?_
      refine JL.skip (.bool rfl rfl rfl hc11) rfl ?_
      refine JL.skip (.bool rfl rfl rfl hc11) rfl ?_
      refine JL.skip (.bool rfl rfl rfl hc11) rfl ?_
      refine JL.skip (.bool rfl rfl rfl hc11) rfl ?_
      refine JL.pick_t (b := ((((!y3) || (decide (by_ < 0))) || (decide (100 < by_))) || (decide (x_.Blow < 0)))) rfl hc11 .none rfl ?_
      exact hJ10 _ ⟨rfl, rfl, rfl, or_t hc11 rfl⟩
     ·skip
      refine JL.fieldAddr fo_67_0 rfl (.some rfl rfl rfl hc11) rfl ?_
      refine JL.loadOwn 0 az_3 rfl rfl rfl (.some rfl rfl rfl hc11) rfl ?_
      refine JL.fieldAddr fo_34_1 rfl (.some rfl rfl rfl hc11) rfl ?_
      refine JL.loadOwn 1 az_31 rfl rfl rfl (.some rfl rfl rfl hc11) rfl ?_
      refine JL.lenSL (R := R_Blow) ul_31 hr_9 (.some rfl rfl rfl hc11) rfl ?_
      refine JL.bin rfl rfl rfl (.some rfl rfl rfl hc11) rfl ?_
      refine JL.pick_f (b := ((((!y3) || (decide (by_ < 0))) || (decide (100 < by_))) || (decide (x_.Blow < 0)))) rfl hc11 .none rfl ?_
      exact hJ10 _ ⟨rfl, rfl, rfl, or_f hc11 rfl⟩
    ·rintro f ⟨hf1, hf3, hf5, hf53⟩
     refine (JL.norm (i := 1) hf1 (JL.norm (i := 3) hf3 (JL.norm (i := 5) hf5 (JL.norm (i := 53) hf53 ?_))))
     refine JL.move .none rfl ?_
     refine JL.cut 4 (fun f => f 1 = .int .i64 by_ ∧ f 3 = .pointer (some ⟨b1, 0, none⟩) ∧ f 5 = .pointer (some ⟨b2, 0, none⟩) ∧ f 58 = .bool ((((((!y3) || (decide (by_ < 0))) || (decide (100 < by_))) || (decide (x_.Blow < 0))) || (decide ((r.Blows.length : Int) ≤ x_.Blow))) || (decide (x_.Meter < 0)))) ?_ ?_
     ·intro hJ12
      rcases bcases (((((!y3) || (decide (by_ < 0))) || (decide (100 < by_))) || (decide (x_.Blow < 0))) || (decide ((r.Blows.length : Int) ≤ x_.Blow))) with hc13 | hc13
      ·skip
       refine JL.skip (.bool rfl rfl rfl hc13) rfl ?_
       refine JL.skip (.bool rfl rfl rfl hc13) rfl ?_
       refine JL.skip (.bool rfl rfl rfl hc13) rfl ?_
       refine JL.pick_t (b := (((((!y3) || (decide (by_ < 0))) || (decide (100 < by_))) || (decide (x_.Blow < 0))) || (decide ((r.Blows.length : Int) ≤ x_.Blow)))) rfl hc13 .none rfl ?_
       exact hJ12 _ ⟨rfl, rfl, rfl, or_t hc13 rfl⟩
      ·skip
       refine JL.fieldAddr fo_67_1 rfl (.some rfl rfl rfl hc13) rfl ?_
       refine JL.loadOwn 0 az_3 rfl rfl rfl (.some rfl rfl rfl hc13) rfl ?_
       refine JL.bin rfl rfl rfl (.some rfl rfl rfl hc13) rfl ?_
       refine JL.pick_f (b := (((((!y3) || (decide (by_ < 0))) || (decide (100 < by_))) || (decide (x_.Blow < 0))) || (decide ((r.Blows.length : Int) ≤ x_.Blow)))) rfl hc13 .none rfl ?_
       exact hJ12 _ ⟨rfl, rfl, rfl, or_f hc13 rfl⟩
     ·rintro f ⟨hf1, hf3, hf5, hf58⟩
      refine (JL.norm (i := 1) hf1 (JL.norm (i := 3) hf3 (JL.norm (i := 5) hf5 (JL.norm (i := 58) hf58 ?_))))
      refine JL.move .none rfl ?_
      refine JL.cut 7 (fun f => f 1 = .int .i64 by_ ∧ f 3 = .pointer (some ⟨b1, 0, none⟩) ∧ f 5 = .pointer (some ⟨b2, 0, none⟩) ∧ f 66 = .bool (((((((!y3) || (decide (by_ < 0))) || (decide (100 < by_))) || (decide (x_.Blow < 0))) || (decide ((r.Blows.length : Int) ≤ x_.Blow))) || (decide (x_.Meter < 0))) || (decide ((r.Meters.length : Int) ≤ x_.Meter)))) ?_ ?_
      ·intro hJ14
       rcases bcases ((((((!y3) || (decide (by_ < 0))) || (decide (100 < by_))) || (decide (x_.Blow < 0))) || (decide ((r.Blows.length : Int) ≤ x_.Blow))) || (decide (x_.Meter < 0))) with hc15 | hc15
       ·skip
        refine JL.skip (.bool rfl rfl rfl hc15) rfl ?_
        refine JL.skip (.bool rfl rfl rfl hc15) rfl ?_
        refine JL.skip (.bool rfl rfl rfl hc15) rfl ?_
        refine JL.skip (.bool rfl rfl rfl hc15) rfl ?_
        refine JL.skip (.bool rfl rfl rfl hc15) rfl ?_
        refine JL.skip (.bool rfl rfl rfl hc15) rfl ?_
        refine JL.pick_t (b := ((((((!y3) || (decide (by_ < 0))) || (decide (100 < by_))) || (decide (x_.Blow < 0))) || (decide ((r.Blows.length : Int) ≤ x_.Blow))) || (decide (x_.Meter < 0)))) rfl hc15 .none rfl ?_
        exact hJ14 _ ⟨rfl, rfl, rfl, or_t hc15 rfl⟩
       ·skip
        refine JL.fieldAddr fo_67_1 rfl (.some rfl rfl rfl hc15) rfl ?_
        refine JL.loadOwn 0 az_3 rfl rfl rfl (.some rfl rfl rfl hc15) rfl ?_
        refine JL.fieldAddr fo_34_2 rfl (.some rfl rfl rfl hc15) rfl ?_
        refine JL.loadOwn 1 az_32 rfl rfl rfl (.some rfl rfl rfl hc15) rfl ?_
        refine JL.lenSL (R := R_Meter) ul_32 hr_10 (.some rfl rfl rfl hc15) rfl ?_
        refine JL.bin rfl rfl rfl (.some rfl rfl rfl hc15) rfl ?_
        refine JL.pick_f (b := ((((((!y3) || (decide (by_ < 0))) || (decide (100 < by_))) || (decide (x_.Blow < 0))) || (decide ((r.Blows.length : Int) ≤ x_.Blow))) || (decide (x_.Meter < 0)))) rfl hc15 .none rfl ?_
        exact hJ14 _ ⟨rfl, rfl, rfl, or_f hc15 rfl⟩
      ·rintro f ⟨hf1, hf3, hf5, hf66⟩
       refine (JL.norm (i := 1) hf1 (JL.norm (i := 3) hf3 (JL.norm (i := 5) hf5 (JL.norm (i := 66) hf66 ?_))))
       refine JL.done hQ ?_
       refine JQ.go ?_
       rcases ite_some hF with ⟨hc16, hF⟩ | ⟨hc16, hF⟩
       ·refine JC.cond_t (b := (((((((!y3) || (decide (by_ < 0))) || (decide (100 < by_))) || (decide (x_.Blow < 0))) || (decide ((r.Blows.length : Int) ≤ x_.Blow))) || (decide (x_.Meter < 0))) || (decide ((r.Meters.length : Int) ≤ x_.Meter)))) rfl hc16 ?_
        refine JC.seq ?_
        refine JC.region (by rfl) ?_
        intro hQ
        obtain ⟨y17, hy17, hF⟩ := bind_some hF
        refine JL.callS (c_law13_works n H y17 hy17) rfl en_9 .none rfl ?_
        refine JL.assign .none rfl ?_
        refine JL.done hQ ?_
        refine JQ.go ?_
        refine JC.ret ?_
        refine JQ.ret_then ?_
        obtain rfl := Option.some.inj hF
        exact JQ.outS rfl (.tmp .nil) rfl
       ·refine JC.cond_f (b := (((((((!y3) || (decide (by_ < 0))) || (decide (100 < by_))) || (decide (x_.Blow < 0))) || (decide ((r.Blows.length : Int) ≤ x_.Blow))) || (decide (x_.Meter < 0))) || (decide ((r.Meters.length : Int) ≤ x_.Meter)))) rfl hc16 ?_
        refine JC.skip ?_
        refine JQ.go ?_
        refine JC.seq ?_
        refine JC.region (by rfl) ?_
        intro hQ
        refine JL.loadOwn 1 az_34 rfl rfl rfl .none rfl ?_
        obtain ⟨y18, hy18, hF⟩ := bind_some hF
        refine JL.callXC (x_ref13_Copy n H r r_v0 hr_0 r_v7 hr_7 r_v8 hr_8 r_v9 hr_9 r_v10 hr_10 y18 hy18) rfl en_10 .none rfl ?_
        rintro H19 vv20 _ hs19 ⟨y18_v0, y18_v1, y18_v2, y18_v3, y18_xs3, y18_v4, y18_xs4, rfl, rfl, hy18_0, hy18_1, hy18_2, hy18_3, hy18_4⟩
        refine JL.alloc ze_34 .none rfl ?_
        intro b23
        refine JL.oneG 1 rfl (fun ho24 => ?_)
        refine JL.oneG 0 rfl (fun ho25 => ?_)
        refine JL.storeOwn 0 (cs := [y18_v0, .int .i64 y18.Canopy.Frame.Low, .int .i64 y18.Canopy.Frame.High, .int .i64 y18.Canopy.Frame.Ease.Num, .int .i64 y18.Canopy.Frame.Ease.Den, .int .i64 y18.Canopy.Frame.Rod, .int .i64 y18.Canopy.Frame.Case, y18_v1, y18_v2, y18_v3, y18_v4, .int .i64 y18.Wrong]) az_34 rfl rfl rfl (one_cons (SL.one hy18_0) (one_cons rfl (one_cons rfl (one_cons rfl (one_cons rfl (one_cons rfl (one_cons rfl (one_cons (SL.one hy18_1) (one_cons (SL.one hy18_2) (one_cons ho24.1 (one_cons ho25.1 (one_cons rfl one_nil)))))))))))) rfl rfl .none ?_
        refine JL.done hQ ?_
        refine JQ.go ?_
        refine JC.seq ?_
        refine JC.seq ?_
        refine JC.region (by rfl) ?_
        intro hQ
        refine JL.assign .none rfl ?_
        refine JL.done hQ ?_
        refine JQ.go ?_
        obtain ⟨r210, hlr210, hKr210⟩ := bind_some hF
        refine JC.join (fun (out_208 : List Blow) H209 f bs gs => ∃ (vout_208 : Value) (xsout_208 : List Value), f 1 = .int .i64 by_ ∧ f 3 = .pointer (some ⟨b1, 0, none⟩) ∧ f 5 = .pointer (some ⟨b2, 0, none⟩) ∧ f 7 = .pointer (some ⟨b23, 0, none⟩) ∧ bs = [(b23, .cells [y18_v0, .int .i64 y18.Canopy.Frame.Low, .int .i64 y18.Canopy.Frame.High, .int .i64 y18.Canopy.Frame.Ease.Num, .int .i64 y18.Canopy.Frame.Ease.Den, .int .i64 y18.Canopy.Frame.Rod, .int .i64 y18.Canopy.Frame.Case, y18_v1, y18_v2, vout_208, y18_v4, .int .i64 y18.Wrong].toArray 34), (b2, .cells [.int .i64 x_.Blow, .int .i64 x_.Meter, .int .i64 x_.Limit].toArray 67), (b1, .cells [r_v0, .int .i64 r.Canopy.Frame.Low, .int .i64 r.Canopy.Frame.High, .int .i64 r.Canopy.Frame.Ease.Num, .int .i64 r.Canopy.Frame.Ease.Den, .int .i64 r.Canopy.Frame.Rod, .int .i64 r.Canopy.Frame.Case, r_v7, r_v8, r_v9, r_v10, .int .i64 r.Wrong].toArray 34)] ∧ gs = [⟨y18_v4, 36, 2, y18.Meters.length, y18_xs4⟩, ⟨vout_208, 56, 3, out_208.length, xsout_208⟩] ∧ CH H209 3 R_Blow xsout_208 out_208 ∧ HSub H19 H209 ∧ out_208 = r210) ?_ ?_
        ·skip
         refine JC.block ?_
         refine JC.loop hlr210 (fun (x : Int × List Blow) H333 f bs gs => match x with | (i_331, out_332) => ∃ (vout_332 : Value) (xsout_332 : List Value), f 1 = .int .i64 by_ ∧ f 3 = .pointer (some ⟨b1, 0, none⟩) ∧ f 5 = .pointer (some ⟨b2, 0, none⟩) ∧ f 7 = .pointer (some ⟨b23, 0, none⟩) ∧ f 8 = .int .i64 i_331 ∧ bs = [(b23, .cells [y18_v0, .int .i64 y18.Canopy.Frame.Low, .int .i64 y18.Canopy.Frame.High, .int .i64 y18.Canopy.Frame.Ease.Num, .int .i64 y18.Canopy.Frame.Ease.Den, .int .i64 y18.Canopy.Frame.Rod, .int .i64 y18.Canopy.Frame.Case, y18_v1, y18_v2, vout_332, y18_v4, .int .i64 y18.Wrong].toArray 34), (b2, .cells [.int .i64 x_.Blow, .int .i64 x_.Meter, .int .i64 x_.Limit].toArray 67), (b1, .cells [r_v0, .int .i64 r.Canopy.Frame.Low, .int .i64 r.Canopy.Frame.High, .int .i64 r.Canopy.Frame.Ease.Num, .int .i64 r.Canopy.Frame.Ease.Den, .int .i64 r.Canopy.Frame.Rod, .int .i64 r.Canopy.Frame.Case, r_v7, r_v8, r_v9, r_v10, .int .i64 r.Wrong].toArray 34)] ∧ gs = [⟨y18_v4, 36, 2, y18.Meters.length, y18_xs4⟩, ⟨vout_332, 56, 3, out_332.length, xsout_332⟩] ∧ CH H333 3 R_Blow xsout_332 out_332 ∧ HSub H19 H333) ⟨y18_v3, y18_xs3, rfl, rfl, rfl, rfl, rfl, rfl, rfl, hy18_3, (HSub.refl _)⟩ ?_
         rintro ⟨i_331, out_332⟩ x335 H333 f bs gs ⟨vout_332, xsout_332, hf1, hf3, hf5, hf7, hf8, rfl, rfl, hout_332, hs333⟩ hF hr334
         rw [F_law13_CountsOrder_s1] at hF
         refine (JC.norm (i := 1) hf1 (JC.norm (i := 3) hf3 (JC.norm (i := 5) hf5 (JC.norm (i := 7) hf7 (JC.norm (i := 8) hf8 ?_)))))
         refine JC.seq ?_
         refine JC.seq ?_
         refine JC.region (by rfl) ?_
         intro hQ
         refine JL.move .none rfl ?_
         refine JL.fieldAddr fo_34_1 rfl .none rfl ?_
         refine JL.loadOwn 2 az_31 rfl rfl rfl .none rfl ?_
         refine JL.lenSL (R := R_Blow) ul_31 (SL.mono R_Blow_mono (HSub.trans hs19 hs333) hr_9) .none rfl ?_
         refine JL.bin rfl rfl rfl .none rfl ?_
         refine JL.done hQ ?_
         refine JQ.go ?_
         rcases ite_some hF with ⟨hc336, hF⟩ | ⟨hc336, hF⟩
         ·refine JC.cond_t (b := decide (i_331 < (r.Blows.length : Int))) rfl hc336 ?_
          refine JC.skip ?_
          refine JQ.go ?_
          refine JC.seq ?_
          refine JC.block ?_
          obtain ⟨u346, hu346, hF⟩ := bind_some hF
          obtain ⟨y347, hy347, hF⟩ := bind_some hF
          obtain ⟨y352, hy352, hF⟩ := bind_some hF
          refine JC.mixed 15 16 #[false, false, false, false, false, false, false, false, false, false, false, false, false, false, false, false] [(b23, .cells [y18_v0, .int .i64 y18.Canopy.Frame.Low, .int .i64 y18.Canopy.Frame.High, .int .i64 y18.Canopy.Frame.Ease.Num, .int .i64 y18.Canopy.Frame.Ease.Den, .int .i64 y18.Canopy.Frame.Rod, .int .i64 y18.Canopy.Frame.Case, y18_v1, y18_v2, vout_332, y18_v4, .int .i64 y18.Wrong].toArray 34), (b2, .cells [.int .i64 x_.Blow, .int .i64 x_.Meter, .int .i64 x_.Limit].toArray 67), (b1, .cells [r_v0, .int .i64 r.Canopy.Frame.Low, .int .i64 r.Canopy.Frame.High, .int .i64 r.Canopy.Frame.Ease.Num, .int .i64 r.Canopy.Frame.Ease.Den, .int .i64 r.Canopy.Frame.Rod, .int .i64 r.Canopy.Frame.Case, r_v7, r_v8, r_v9, r_v10, .int .i64 r.Wrong].toArray 34)] (by rfl) mo_ (by kernel_rfl) (by kernel_rfl) ?_
          intro hQ hE
          refine JA.take 0 (listed' := #[true, false, false, false, false, false, false, false, false, false, false, false, false, false, false, false]) hQ rfl (by kernel_rfl) (by kernel_rfl) (by kernel_rfl) (by kernel_rfl) (by kernel_rfl) hE (HSub.refl _) (.cons_cons _ (.cons_cons _ (.cons_cons _ (List.nil_sublist _)))) ?_
          refine JL.fieldAddr fo_34_1 rfl .none rfl ?_
          refine JA.cont ?_
          refine JA.take 1 (listed' := #[true, true, false, false, false, false, false, false, false, false, false, false, false, false, false, false]) hQ rfl (by kernel_rfl) (by kernel_rfl) (by kernel_rfl) (by kernel_rfl) (by kernel_rfl) hE (HSub.refl _) (.cons_cons _ (.cons_cons _ (.cons_cons _ (List.nil_sublist _)))) ?_
          refine JL.loadOwn 0 az_31 rfl rfl rfl .none rfl ?_
          refine JA.cont ?_
          refine JA.take 2 (listed' := #[true, true, true, false, false, false, false, false, false, false, false, false, false, false, false, false]) hQ rfl (by kernel_rfl) (by kernel_rfl) (by kernel_rfl) (by kernel_rfl) (by kernel_rfl) hE (HSub.refl _) (.cons_cons _ (.cons_cons _ (.cons_cons _ (List.nil_sublist _)))) ?_
          refine JL.move .none rfl ?_
          refine JA.cont ?_
          refine JA.take 3 (listed' := #[true, true, true, true, false, false, false, false, false, false, false, false, false, false, false, false]) hQ rfl (by kernel_rfl) (by kernel_rfl) (by kernel_rfl) (by kernel_rfl) (by kernel_rfl) hE (HSub.refl _) (.cons_cons _ (.cons_cons _ (.cons_cons _ (List.nil_sublist _)))) ?_
          refine JL.fieldAddr fo_34_1 rfl .none rfl ?_
          refine JA.cont ?_
          refine JA.take 4 (listed' := #[true, true, true, true, true, false, false, false, false, false, false, false, false, false, false, false]) hQ rfl (by kernel_rfl) (by kernel_rfl) (by kernel_rfl) (by kernel_rfl) (by kernel_rfl) hE (HSub.refl _) (.cons_cons _ (.cons_cons _ (.cons_cons _ (List.nil_sublist _)))) ?_
          refine JL.loadOwn 2 az_31 rfl rfl rfl .none rfl ?_
          refine JA.cont ?_
          refine JA.take 5 (listed' := #[true, true, true, true, true, true, false, false, false, false, false, false, false, false, false, false]) hQ rfl (by kernel_rfl) (by kernel_rfl) (by kernel_rfl) (by kernel_rfl) (by kernel_rfl) hE (HSub.refl _) (.cons_cons _ (.cons_cons _ (.cons_cons _ (List.nil_sublist _)))) ?_
          refine JL.move .none rfl ?_
          refine JA.cont ?_
          refine JA.take 6 (listed' := #[true, true, true, true, true, true, true, false, false, false, false, false, false, false, false, false]) hQ rfl (by kernel_rfl) (by kernel_rfl) (by kernel_rfl) (by kernel_rfl) (by kernel_rfl) hE (HSub.refl _) (.cons_cons _ (.cons_cons _ (.cons_cons _ (List.nil_sublist _)))) ?_
          refine JL.move .none rfl ?_
          refine JA.cont ?_
          refine JA.take 7 (listed' := #[true, true, true, true, true, true, true, true, false, false, false, false, false, false, false, false]) hQ rfl (by kernel_rfl) (by kernel_rfl) (by kernel_rfl) (by kernel_rfl) (by kernel_rfl) hE (HSub.refl _) (.cons_cons _ (.cons_cons _ (.cons_cons _ (List.nil_sublist _)))) ?_
          refine JL.bin rfl rfl rfl .none rfl ?_
          refine JA.cont ?_
          refine JA.take 8 (listed' := #[true, true, true, true, true, true, true, true, true, false, false, false, false, false, false, false]) hQ rfl (by kernel_rfl) (by kernel_rfl) (by kernel_rfl) (by kernel_rfl) (by kernel_rfl) hE (HSub.refl _) (.cons_cons _ (.cons_cons _ (.cons_cons _ (List.nil_sublist _)))) ?_
          refine JL.fieldAddr fo_34_1 rfl .none rfl ?_
          refine JA.cont ?_
          refine JA.take 9 (listed' := #[true, true, true, true, true, true, true, true, true, true, false, false, false, false, false, false]) hQ rfl (by kernel_rfl) (by kernel_rfl) (by kernel_rfl) (by kernel_rfl) (by kernel_rfl) hE (HSub.refl _) (.cons_cons _ (.cons_cons _ (.cons_cons _ (List.nil_sublist _)))) ?_
          refine JL.loadOwn 2 az_31 rfl rfl rfl .none rfl ?_
          refine JA.cont ?_
          refine JA.take 10 (listed' := #[true, true, true, true, true, true, true, true, true, true, true, false, false, false, false, false]) hQ rfl (by kernel_rfl) (by kernel_rfl) (by kernel_rfl) (by kernel_rfl) (by kernel_rfl) hE (HSub.refl _) (.cons_cons _ (.cons_cons _ (.cons_cons _ (List.nil_sublist _)))) ?_
          refine JL.lenSL (R := R_Blow) ul_31 (SL.mono R_Blow_mono (HSub.trans hs19 hs333) hr_9) .none rfl ?_
          refine JA.cont ?_
          refine JA.take 11 (listed' := #[true, true, true, true, true, true, true, true, true, true, true, true, false, false, false, false]) hQ rfl (by kernel_rfl) (by kernel_rfl) (by kernel_rfl) (by kernel_rfl) (by kernel_rfl) hE (HSub.refl _) (.cons_cons _ (.cons_cons _ (.cons_cons _ (List.nil_sublist _)))) ?_
          refine JL.div rfl rfl (nz_some hu346) rfl .none rfl ?_
          refine JA.cont ?_
          refine JA.take 12 (listed' := #[true, true, true, true, true, true, true, true, true, true, true, true, true, false, false, false]) hQ rfl (by kernel_rfl) (by kernel_rfl) (by kernel_rfl) (by kernel_rfl) (by kernel_rfl) hE (HSub.refl _) (.cons_cons _ (.cons_cons _ (.cons_cons _ (List.nil_sublist _)))) ?_
          refine JL.indexSL (R := R_Blow) sl_31 (SL.mono R_Blow_mono (HSub.trans hs19 hs333) hr_9) rfl hy347 .none rfl ?_
          rintro b385 o386 cs387 hc388 - rfl
          refine JA.cont ?_
          refine JA.take 13 (listed' := #[true, true, true, true, true, true, true, true, true, true, true, true, true, true, false, false]) hQ rfl (by kernel_rfl) (by kernel_rfl) (by kernel_rfl) (by kernel_rfl) (by kernel_rfl) hE (HSub.refl _) (.cons_cons _ (.cons_cons _ (.cons_cons _ (List.nil_sublist _)))) ?_
          refine JL.loadH 0 az_56 rfl hc388 rfl .none rfl ?_
          refine JA.cont ?_
          refine JA.many [14] (by kernel_rfl) (by simp) (all_one ⟨_, #[true, true, true, true, true, true, true, true, true, true, true, true, true, true, true, false], rfl, (by kernel_rfl), ?_⟩)
          refine JL.indexG 1 (l := out_332) sl_31 rfl rfl rfl rfl hy352 .none rfl ?_
          intro b389 hb390
          refine JA.after hE (HSub.refl _) (.cons_cons _ (.cons_cons _ (.cons_cons _ (List.nil_sublist _)))) ?_
          refine JA.many [15] (by kernel_rfl) (by simp) (all_one ⟨_, #[true, true, true, true, true, true, true, true, true, true, true, true, true, true, true, true], rfl, (by kernel_rfl), ?_⟩)
          refine JL.storeG (R := R_Blow) 1 (i := i_331) (l := out_332) (y := y352) (y' := y347) (off := 0) az_56 rfl rfl rfl rfl (one_cons rfl (one_cons rfl (one_cons rfl one_nil))) rfl hb390 hout_332 rfl hy352 rfl (by rintro cs rfl; rfl) .none ?_
          intro xs391 hch392
          refine JA.sink (by kernel_rfl) ?_
          refine JA.done hQ (by kernel_rfl) ?_
          refine JQ.normal_block ?_
          refine JQ.go ?_
          refine JC.fresh (fun f => f 1 = .int .i64 by_ ∧ f 3 = .pointer (some ⟨b1, 0, none⟩) ∧ f 5 = .pointer (some ⟨b2, 0, none⟩) ∧ f 7 = .pointer (some ⟨b23, 0, none⟩) ∧ f 8 = .int .i64 i_331) ⟨rfl, rfl, rfl, rfl, rfl⟩ ?_
          rintro f ⟨hf1, hf3, hf5, hf7, hf8⟩
          refine (JC.norm (i := 1) hf1 (JC.norm (i := 3) hf3 (JC.norm (i := 5) hf5 (JC.norm (i := 7) hf7 (JC.norm (i := 8) hf8 ?_)))))
          refine JC.region (by rfl) ?_
          intro hQ
          refine JL.move .none rfl ?_
          refine JL.bin rfl rfl rfl .none rfl ?_
          refine JL.assign .none rfl ?_
          refine JL.done hQ ?_
          obtain rfl := Option.some.inj hF
          exact JQ.next rfl ⟨vout_332, xs391, rfl, rfl, rfl, rfl, rfl, rfl, rfl, hch392, hs333⟩
         ·refine JC.cond_f (b := decide (i_331 < (r.Blows.length : Int))) rfl hc336 ?_
          refine JC.exit ?_
          refine JQ.exit_then ?_
          refine JQ.exit_then ?_
          refine JQ.exit_block ?_
          obtain rfl := Option.some.inj hF
          have ehr334 := hr334 _ rfl
          subst ehr334
          exact JQ.join out_332 ⟨vout_332, xsout_332, rfl, rfl, rfl, rfl, rfl, rfl, hout_332, hs333, rfl⟩
        ·rintro out_208 H209 f bs gs ⟨vout_208, xsout_208, hf1, hf3, hf5, hf7, rfl, rfl, hout_208, hs209, rfl⟩
         have hF := hKr210
         try dsimp only at hF
         refine (JQ.norm (i := 1) hf1 (JQ.norm (i := 3) hf3 (JQ.norm (i := 5) hf5 (JQ.norm (i := 7) hf7 ?_))))
         refine JQ.go ?_
         refine JC.seq ?_
         refine JC.seq ?_
         refine JC.region (by rfl) ?_
         intro hQ
         refine JL.assign .none rfl ?_
         refine JL.done hQ ?_
         refine JQ.go ?_
         obtain ⟨r577, hlr577, hKr577⟩ := bind_some hF
         refine JC.join (fun (out_575 : List Meter) H576 f bs gs => ∃ (vout_575 : Value) (xsout_575 : List Value), f 1 = .int .i64 by_ ∧ f 3 = .pointer (some ⟨b1, 0, none⟩) ∧ f 5 = .pointer (some ⟨b2, 0, none⟩) ∧ f 7 = .pointer (some ⟨b23, 0, none⟩) ∧ bs = [(b23, .cells [y18_v0, .int .i64 y18.Canopy.Frame.Low, .int .i64 y18.Canopy.Frame.High, .int .i64 y18.Canopy.Frame.Ease.Num, .int .i64 y18.Canopy.Frame.Ease.Den, .int .i64 y18.Canopy.Frame.Rod, .int .i64 y18.Canopy.Frame.Case, y18_v1, y18_v2, vout_208, vout_575, .int .i64 y18.Wrong].toArray 34), (b2, .cells [.int .i64 x_.Blow, .int .i64 x_.Meter, .int .i64 x_.Limit].toArray 67), (b1, .cells [r_v0, .int .i64 r.Canopy.Frame.Low, .int .i64 r.Canopy.Frame.High, .int .i64 r.Canopy.Frame.Ease.Num, .int .i64 r.Canopy.Frame.Ease.Den, .int .i64 r.Canopy.Frame.Rod, .int .i64 r.Canopy.Frame.Case, r_v7, r_v8, r_v9, r_v10, .int .i64 r.Wrong].toArray 34)] ∧ gs = [⟨vout_575, 36, 2, out_575.length, xsout_575⟩, ⟨vout_208, 56, 3, out_208.length, xsout_208⟩] ∧ CH H576 2 R_Meter xsout_575 out_575 ∧ HSub H209 H576 ∧ out_575 = r577) ?_ ?_
         ·skip
          refine JC.block ?_
          refine JC.loop hlr577 (fun (x : Int × List Meter) H700 f bs gs => match x with | (i_698, out_699) => ∃ (vout_699 : Value) (xsout_699 : List Value), f 1 = .int .i64 by_ ∧ f 3 = .pointer (some ⟨b1, 0, none⟩) ∧ f 5 = .pointer (some ⟨b2, 0, none⟩) ∧ f 7 = .pointer (some ⟨b23, 0, none⟩) ∧ f 9 = .int .i64 i_698 ∧ bs = [(b23, .cells [y18_v0, .int .i64 y18.Canopy.Frame.Low, .int .i64 y18.Canopy.Frame.High, .int .i64 y18.Canopy.Frame.Ease.Num, .int .i64 y18.Canopy.Frame.Ease.Den, .int .i64 y18.Canopy.Frame.Rod, .int .i64 y18.Canopy.Frame.Case, y18_v1, y18_v2, vout_208, vout_699, .int .i64 y18.Wrong].toArray 34), (b2, .cells [.int .i64 x_.Blow, .int .i64 x_.Meter, .int .i64 x_.Limit].toArray 67), (b1, .cells [r_v0, .int .i64 r.Canopy.Frame.Low, .int .i64 r.Canopy.Frame.High, .int .i64 r.Canopy.Frame.Ease.Num, .int .i64 r.Canopy.Frame.Ease.Den, .int .i64 r.Canopy.Frame.Rod, .int .i64 r.Canopy.Frame.Case, r_v7, r_v8, r_v9, r_v10, .int .i64 r.Wrong].toArray 34)] ∧ gs = [⟨vout_699, 36, 2, out_699.length, xsout_699⟩, ⟨vout_208, 56, 3, out_208.length, xsout_208⟩] ∧ CH H700 2 R_Meter xsout_699 out_699 ∧ HSub H209 H700) ⟨y18_v4, y18_xs4, rfl, rfl, rfl, rfl, rfl, rfl, rfl, (CH.mono R_Meter_mono hs209 hy18_4), (HSub.refl _)⟩ ?_
          rintro ⟨i_698, out_699⟩ x702 H700 f bs gs ⟨vout_699, xsout_699, hf1, hf3, hf5, hf7, hf9, rfl, rfl, hout_699, hs700⟩ hF hr701
          rw [F_law13_CountsOrder_s2] at hF
          refine (JC.norm (i := 1) hf1 (JC.norm (i := 3) hf3 (JC.norm (i := 5) hf5 (JC.norm (i := 7) hf7 (JC.norm (i := 9) hf9 ?_)))))
          refine JC.seq ?_
          refine JC.seq ?_
          refine JC.region (by rfl) ?_
          intro hQ
          refine JL.move .none rfl ?_
          refine JL.fieldAddr fo_34_2 rfl .none rfl ?_
          refine JL.loadOwn 2 az_32 rfl rfl rfl .none rfl ?_
          refine JL.lenSL (R := R_Meter) ul_32 (SL.mono R_Meter_mono (HSub.trans hs19 (HSub.trans hs209 hs700)) hr_10) .none rfl ?_
          refine JL.bin rfl rfl rfl .none rfl ?_
          refine JL.done hQ ?_
          refine JQ.go ?_
          rcases ite_some hF with ⟨hc703, hF⟩ | ⟨hc703, hF⟩
          ·refine JC.cond_t (b := decide (i_698 < (r.Meters.length : Int))) rfl hc703 ?_
           refine JC.skip ?_
           refine JQ.go ?_
           refine JC.seq ?_
           refine JC.block ?_
           obtain ⟨u713, hu713, hF⟩ := bind_some hF
           obtain ⟨y714, hy714, hF⟩ := bind_some hF
           obtain ⟨y719, hy719, hF⟩ := bind_some hF
           refine JC.mixed 15 16 #[false, false, false, false, false, false, false, false, false, false, false, false, false, false, false, false] [(b23, .cells [y18_v0, .int .i64 y18.Canopy.Frame.Low, .int .i64 y18.Canopy.Frame.High, .int .i64 y18.Canopy.Frame.Ease.Num, .int .i64 y18.Canopy.Frame.Ease.Den, .int .i64 y18.Canopy.Frame.Rod, .int .i64 y18.Canopy.Frame.Case, y18_v1, y18_v2, vout_208, vout_699, .int .i64 y18.Wrong].toArray 34), (b2, .cells [.int .i64 x_.Blow, .int .i64 x_.Meter, .int .i64 x_.Limit].toArray 67), (b1, .cells [r_v0, .int .i64 r.Canopy.Frame.Low, .int .i64 r.Canopy.Frame.High, .int .i64 r.Canopy.Frame.Ease.Num, .int .i64 r.Canopy.Frame.Ease.Den, .int .i64 r.Canopy.Frame.Rod, .int .i64 r.Canopy.Frame.Case, r_v7, r_v8, r_v9, r_v10, .int .i64 r.Wrong].toArray 34)] (by rfl) mo_ (by kernel_rfl) (by kernel_rfl) ?_
           intro hQ hE
           refine JA.take 0 (listed' := #[true, false, false, false, false, false, false, false, false, false, false, false, false, false, false, false]) hQ rfl (by kernel_rfl) (by kernel_rfl) (by kernel_rfl) (by kernel_rfl) (by kernel_rfl) hE (HSub.refl _) (.cons_cons _ (.cons_cons _ (.cons_cons _ (List.nil_sublist _)))) ?_
           refine JL.fieldAddr fo_34_2 rfl .none rfl ?_
           refine JA.cont ?_
           refine JA.take 1 (listed' := #[true, true, false, false, false, false, false, false, false, false, false, false, false, false, false, false]) hQ rfl (by kernel_rfl) (by kernel_rfl) (by kernel_rfl) (by kernel_rfl) (by kernel_rfl) hE (HSub.refl _) (.cons_cons _ (.cons_cons _ (.cons_cons _ (List.nil_sublist _)))) ?_
           refine JL.loadOwn 0 az_32 rfl rfl rfl .none rfl ?_
           refine JA.cont ?_
           refine JA.take 2 (listed' := #[true, true, true, false, false, false, false, false, false, false, false, false, false, false, false, false]) hQ rfl (by kernel_rfl) (by kernel_rfl) (by kernel_rfl) (by kernel_rfl) (by kernel_rfl) hE (HSub.refl _) (.cons_cons _ (.cons_cons _ (.cons_cons _ (List.nil_sublist _)))) ?_
           refine JL.move .none rfl ?_
           refine JA.cont ?_
           refine JA.take 3 (listed' := #[true, true, true, true, false, false, false, false, false, false, false, false, false, false, false, false]) hQ rfl (by kernel_rfl) (by kernel_rfl) (by kernel_rfl) (by kernel_rfl) (by kernel_rfl) hE (HSub.refl _) (.cons_cons _ (.cons_cons _ (.cons_cons _ (List.nil_sublist _)))) ?_
           refine JL.fieldAddr fo_34_2 rfl .none rfl ?_
           refine JA.cont ?_
           refine JA.take 4 (listed' := #[true, true, true, true, true, false, false, false, false, false, false, false, false, false, false, false]) hQ rfl (by kernel_rfl) (by kernel_rfl) (by kernel_rfl) (by kernel_rfl) (by kernel_rfl) hE (HSub.refl _) (.cons_cons _ (.cons_cons _ (.cons_cons _ (List.nil_sublist _)))) ?_
           refine JL.loadOwn 2 az_32 rfl rfl rfl .none rfl ?_
           refine JA.cont ?_
           refine JA.take 5 (listed' := #[true, true, true, true, true, true, false, false, false, false, false, false, false, false, false, false]) hQ rfl (by kernel_rfl) (by kernel_rfl) (by kernel_rfl) (by kernel_rfl) (by kernel_rfl) hE (HSub.refl _) (.cons_cons _ (.cons_cons _ (.cons_cons _ (List.nil_sublist _)))) ?_
           refine JL.move .none rfl ?_
           refine JA.cont ?_
           refine JA.take 6 (listed' := #[true, true, true, true, true, true, true, false, false, false, false, false, false, false, false, false]) hQ rfl (by kernel_rfl) (by kernel_rfl) (by kernel_rfl) (by kernel_rfl) (by kernel_rfl) hE (HSub.refl _) (.cons_cons _ (.cons_cons _ (.cons_cons _ (List.nil_sublist _)))) ?_
           refine JL.move .none rfl ?_
           refine JA.cont ?_
           refine JA.take 7 (listed' := #[true, true, true, true, true, true, true, true, false, false, false, false, false, false, false, false]) hQ rfl (by kernel_rfl) (by kernel_rfl) (by kernel_rfl) (by kernel_rfl) (by kernel_rfl) hE (HSub.refl _) (.cons_cons _ (.cons_cons _ (.cons_cons _ (List.nil_sublist _)))) ?_
           refine JL.bin rfl rfl rfl .none rfl ?_
           refine JA.cont ?_
           refine JA.take 8 (listed' := #[true, true, true, true, true, true, true, true, true, false, false, false, false, false, false, false]) hQ rfl (by kernel_rfl) (by kernel_rfl) (by kernel_rfl) (by kernel_rfl) (by kernel_rfl) hE (HSub.refl _) (.cons_cons _ (.cons_cons _ (.cons_cons _ (List.nil_sublist _)))) ?_
           refine JL.fieldAddr fo_34_2 rfl .none rfl ?_
           refine JA.cont ?_
           refine JA.take 9 (listed' := #[true, true, true, true, true, true, true, true, true, true, false, false, false, false, false, false]) hQ rfl (by kernel_rfl) (by kernel_rfl) (by kernel_rfl) (by kernel_rfl) (by kernel_rfl) hE (HSub.refl _) (.cons_cons _ (.cons_cons _ (.cons_cons _ (List.nil_sublist _)))) ?_
           refine JL.loadOwn 2 az_32 rfl rfl rfl .none rfl ?_
           refine JA.cont ?_
           refine JA.take 10 (listed' := #[true, true, true, true, true, true, true, true, true, true, true, false, false, false, false, false]) hQ rfl (by kernel_rfl) (by kernel_rfl) (by kernel_rfl) (by kernel_rfl) (by kernel_rfl) hE (HSub.refl _) (.cons_cons _ (.cons_cons _ (.cons_cons _ (List.nil_sublist _)))) ?_
           refine JL.lenSL (R := R_Meter) ul_32 (SL.mono R_Meter_mono (HSub.trans hs19 (HSub.trans hs209 hs700)) hr_10) .none rfl ?_
           refine JA.cont ?_
           refine JA.take 11 (listed' := #[true, true, true, true, true, true, true, true, true, true, true, true, false, false, false, false]) hQ rfl (by kernel_rfl) (by kernel_rfl) (by kernel_rfl) (by kernel_rfl) (by kernel_rfl) hE (HSub.refl _) (.cons_cons _ (.cons_cons _ (.cons_cons _ (List.nil_sublist _)))) ?_
           refine JL.div rfl rfl (nz_some hu713) rfl .none rfl ?_
           refine JA.cont ?_
           refine JA.take 12 (listed' := #[true, true, true, true, true, true, true, true, true, true, true, true, true, false, false, false]) hQ rfl (by kernel_rfl) (by kernel_rfl) (by kernel_rfl) (by kernel_rfl) (by kernel_rfl) hE (HSub.refl _) (.cons_cons _ (.cons_cons _ (.cons_cons _ (List.nil_sublist _)))) ?_
           refine JL.indexSL (R := R_Meter) sl_32 (SL.mono R_Meter_mono (HSub.trans hs19 (HSub.trans hs209 hs700)) hr_10) rfl hy714 .none rfl ?_
           rintro b752 o753 cs754 hc755 - rfl
           refine JA.cont ?_
           refine JA.take 13 (listed' := #[true, true, true, true, true, true, true, true, true, true, true, true, true, true, false, false]) hQ rfl (by kernel_rfl) (by kernel_rfl) (by kernel_rfl) (by kernel_rfl) (by kernel_rfl) hE (HSub.refl _) (.cons_cons _ (.cons_cons _ (.cons_cons _ (List.nil_sublist _)))) ?_
           refine JL.loadH 0 az_36 rfl hc755 rfl .none rfl ?_
           refine JA.cont ?_
           refine JA.many [14] (by kernel_rfl) (by simp) (all_one ⟨_, #[true, true, true, true, true, true, true, true, true, true, true, true, true, true, true, false], rfl, (by kernel_rfl), ?_⟩)
           refine JL.indexG 0 (l := out_699) sl_32 rfl rfl rfl rfl hy719 .none rfl ?_
           intro b756 hb757
           refine JA.after hE (HSub.refl _) (.cons_cons _ (.cons_cons _ (.cons_cons _ (List.nil_sublist _)))) ?_
           refine JA.many [15] (by kernel_rfl) (by simp) (all_one ⟨_, #[true, true, true, true, true, true, true, true, true, true, true, true, true, true, true, true], rfl, (by kernel_rfl), ?_⟩)
           refine JL.storeG (R := R_Meter) 0 (i := i_698) (l := out_699) (y := y719) (y' := y714) (off := 0) az_36 rfl rfl rfl rfl (one_cons rfl (one_cons rfl one_nil)) rfl hb757 hout_699 rfl hy719 rfl (by rintro cs rfl; rfl) .none ?_
           intro xs758 hch759
           refine JA.sink (by kernel_rfl) ?_
           refine JA.done hQ (by kernel_rfl) ?_
           refine JQ.normal_block ?_
           refine JQ.go ?_
           refine JC.fresh (fun f => f 1 = .int .i64 by_ ∧ f 3 = .pointer (some ⟨b1, 0, none⟩) ∧ f 5 = .pointer (some ⟨b2, 0, none⟩) ∧ f 7 = .pointer (some ⟨b23, 0, none⟩) ∧ f 9 = .int .i64 i_698) ⟨rfl, rfl, rfl, rfl, rfl⟩ ?_
           rintro f ⟨hf1, hf3, hf5, hf7, hf9⟩
           refine (JC.norm (i := 1) hf1 (JC.norm (i := 3) hf3 (JC.norm (i := 5) hf5 (JC.norm (i := 7) hf7 (JC.norm (i := 9) hf9 ?_)))))
           refine JC.region (by rfl) ?_
           intro hQ
           refine JL.move .none rfl ?_
           refine JL.bin rfl rfl rfl .none rfl ?_
           refine JL.assign .none rfl ?_
           refine JL.done hQ ?_
           obtain rfl := Option.some.inj hF
           exact JQ.next rfl ⟨vout_699, xs758, rfl, rfl, rfl, rfl, rfl, rfl, rfl, hch759, hs700⟩
          ·refine JC.cond_f (b := decide (i_698 < (r.Meters.length : Int))) rfl hc703 ?_
           refine JC.exit ?_
           refine JQ.exit_then ?_
           refine JQ.exit_then ?_
           refine JQ.exit_block ?_
           obtain rfl := Option.some.inj hF
           have ehr701 := hr701 _ rfl
           subst ehr701
           exact JQ.join out_699 ⟨vout_699, xsout_699, rfl, rfl, rfl, rfl, rfl, rfl, hout_699, hs700, rfl⟩
         ·rintro out_575 H576 f bs gs ⟨vout_575, xsout_575, hf1, hf3, hf5, hf7, rfl, rfl, hout_575, hs576, rfl⟩
          have hF := hKr577
          try dsimp only at hF
          refine (JQ.norm (i := 1) hf1 (JQ.norm (i := 3) hf3 (JQ.norm (i := 5) hf5 (JQ.norm (i := 7) hf7 ?_))))
          refine JQ.go ?_
          refine JC.seq ?_
          refine JC.region (by rfl) ?_
          intro hQ
          refine JL.loadOwn 2 az_34 rfl rfl rfl .none rfl ?_
          obtain ⟨y760, hy760, hF⟩ := bind_some hF
          refine JL.callS (c_counts_Many n H576 r r_v0 (SL.mono R_Section_mono (HSub.trans hs19 (HSub.trans hs209 hs576)) hr_0) r_v7 (SL.mono R_Span_mono (HSub.trans hs19 (HSub.trans hs209 hs576)) hr_7) r_v8 (SL.mono RInt.mono (HSub.trans hs19 (HSub.trans hs209 hs576)) hr_8) r_v9 (SL.mono R_Blow_mono (HSub.trans hs19 (HSub.trans hs209 hs576)) hr_9) r_v10 (SL.mono R_Meter_mono (HSub.trans hs19 (HSub.trans hs209 hs576)) hr_10) y760 hy760) rfl en_18 .none rfl ?_
          refine JL.move .none rfl ?_
          refine JL.extract rfl rfl .none rfl ?_
          refine JL.extract rfl rfl .none rfl ?_
          refine JL.assign .none rfl ?_
          refine JL.assign .none rfl ?_
          refine JL.done hQ ?_
          refine JQ.go ?_
          refine JC.seq ?_
          refine JC.region (by rfl) ?_
          intro hQ
          refine JL.loadOwn 0 az_34 rfl rfl rfl .none rfl ?_
          obtain ⟨y764, hy764, hF⟩ := bind_some hF
          refine JL.callLG2 (R := R_Blow) (S := R_Meter) 1 0 rfl R_Blow_mono (CH.mono R_Blow_mono hs576 hout_208) rfl rfl R_Meter_mono hout_575 rfl (fun H761 hs761 hg762 hg763 => c_counts_Many n H761 (Run.mk y18.Canopy out_208 out_575 y18.Wrong) y18_v0 (SL.mono R_Section_mono (HSub.trans hs209 (HSub.trans hs576 hs761)) hy18_0) y18_v1 (SL.mono R_Span_mono (HSub.trans hs209 (HSub.trans hs576 hs761)) hy18_1) y18_v2 (SL.mono RInt.mono (HSub.trans hs209 (HSub.trans hs576 hs761)) hy18_2) vout_208 hg762 vout_575 hg763 y764 hy764) rfl en_18 .none rfl ?_
          refine JL.move .none rfl ?_
          refine JL.extract rfl rfl .none rfl ?_
          refine JL.extract rfl rfl .none rfl ?_
          refine JL.assign .none rfl ?_
          refine JL.assign .none rfl ?_
          refine JL.done hQ ?_
          refine JQ.go ?_
          refine JC.fresh (fun f => f 1 = .int .i64 by_ ∧ f 3 = .pointer (some ⟨b1, 0, none⟩) ∧ f 5 = .pointer (some ⟨b2, 0, none⟩) ∧ f 7 = .pointer (some ⟨b23, 0, none⟩) ∧ f 10 = .int .i64 y760.1 ∧ f 11 = .int .i64 y760.2 ∧ f 12 = .int .i64 y764.1 ∧ f 13 = .int .i64 y764.2) ⟨rfl, rfl, rfl, rfl, rfl, rfl, rfl, rfl⟩ ?_
          rintro f ⟨hf1, hf3, hf5, hf7, hf10, hf11, hf12, hf13⟩
          refine (JC.norm (i := 1) hf1 (JC.norm (i := 3) hf3 (JC.norm (i := 5) hf5 (JC.norm (i := 7) hf7 (JC.norm (i := 10) hf10 (JC.norm (i := 11) hf11 (JC.norm (i := 12) hf12 (JC.norm (i := 13) hf13 ?_))))))))
          refine JC.seq ?_
          refine JC.region (by rfl) ?_
          intro hQ
          refine JL.loadOwn 2 az_34 rfl rfl rfl .none rfl ?_
          refine JL.fieldAddr fo_67_2 rfl .none rfl ?_
          refine JL.loadOwn 1 az_3 rfl rfl rfl .none rfl ?_
          obtain ⟨y765, hy765, hF⟩ := bind_some hF
          refine JL.callS (c_counts_Reads n H576 r r_v0 (SL.mono R_Section_mono (HSub.trans hs19 (HSub.trans hs209 hs576)) hr_0) r_v7 (SL.mono R_Span_mono (HSub.trans hs19 (HSub.trans hs209 hs576)) hr_7) r_v8 (SL.mono RInt.mono (HSub.trans hs19 (HSub.trans hs209 hs576)) hr_8) r_v9 (SL.mono R_Blow_mono (HSub.trans hs19 (HSub.trans hs209 hs576)) hr_9) r_v10 (SL.mono R_Meter_mono (HSub.trans hs19 (HSub.trans hs209 hs576)) hr_10) x_.Limit y765 hy765) rfl en_17 .none rfl ?_
          refine JL.move .none rfl ?_
          refine JL.extract rfl rfl .none rfl ?_
          refine JL.extract rfl rfl .none rfl ?_
          refine JL.alloc ze_49 .none rfl ?_
          intro b766
          refine JL.storeOwn 0 (cs := [.int .i64 y765.1.Low, .int .i64 y765.1.High]) az_49 rfl rfl rfl (one_cons rfl (one_cons rfl one_nil)) rfl rfl .none ?_
          refine JL.assign .none rfl ?_
          refine JL.done hQ ?_
          refine JQ.go ?_
          refine JC.seq ?_
          refine JC.region (by rfl) ?_
          intro hQ
          refine JL.loadOwn 1 az_34 rfl rfl rfl .none rfl ?_
          refine JL.fieldAddr fo_67_2 rfl .none rfl ?_
          refine JL.loadOwn 2 az_3 rfl rfl rfl .none rfl ?_
          obtain ⟨y770, hy770, hF⟩ := bind_some hF
          refine JL.callLG2 (R := R_Blow) (S := R_Meter) 1 0 rfl R_Blow_mono (CH.mono R_Blow_mono hs576 hout_208) rfl rfl R_Meter_mono hout_575 rfl (fun H767 hs767 hg768 hg769 => c_counts_Reads n H767 (Run.mk y18.Canopy out_208 out_575 y18.Wrong) y18_v0 (SL.mono R_Section_mono (HSub.trans hs209 (HSub.trans hs576 hs767)) hy18_0) y18_v1 (SL.mono R_Span_mono (HSub.trans hs209 (HSub.trans hs576 hs767)) hy18_1) y18_v2 (SL.mono RInt.mono (HSub.trans hs209 (HSub.trans hs576 hs767)) hy18_2) vout_208 hg768 vout_575 hg769 x_.Limit y770 hy770) rfl en_17 .none rfl ?_
          refine JL.move .none rfl ?_
          refine JL.extract rfl rfl .none rfl ?_
          refine JL.extract rfl rfl .none rfl ?_
          refine JL.alloc ze_49 .none rfl ?_
          intro b771
          refine JL.storeOwn 0 (cs := [.int .i64 y770.1.Low, .int .i64 y770.1.High]) az_49 rfl rfl rfl (one_cons rfl (one_cons rfl one_nil)) rfl rfl .none ?_
          refine JL.assign .none rfl ?_
          refine JL.done hQ ?_
          refine JQ.go ?_
          refine JC.fresh (fun f => f 1 = .int .i64 by_ ∧ f 3 = .pointer (some ⟨b1, 0, none⟩) ∧ f 5 = .pointer (some ⟨b2, 0, none⟩) ∧ f 7 = .pointer (some ⟨b23, 0, none⟩) ∧ f 10 = .int .i64 y760.1 ∧ f 11 = .int .i64 y760.2 ∧ f 12 = .int .i64 y764.1 ∧ f 13 = .int .i64 y764.2 ∧ f 14 = .pointer (some ⟨b766, 0, none⟩) ∧ f 15 = .int .i64 y765.2 ∧ f 16 = .pointer (some ⟨b771, 0, none⟩) ∧ f 17 = .int .i64 y770.2) ⟨rfl, rfl, rfl, rfl, rfl, rfl, rfl, rfl, rfl, rfl, rfl, rfl⟩ ?_
          rintro f ⟨hf1, hf3, hf5, hf7, hf10, hf11, hf12, hf13, hf14, hf15, hf16, hf17⟩
          refine (JC.norm (i := 1) hf1 (JC.norm (i := 3) hf3 (JC.norm (i := 5) hf5 (JC.norm (i := 7) hf7 (JC.norm (i := 10) hf10 (JC.norm (i := 11) hf11 (JC.norm (i := 12) hf12 (JC.norm (i := 13) hf13 (JC.norm (i := 14) hf14 (JC.norm (i := 15) hf15 (JC.norm (i := 16) hf16 (JC.norm (i := 17) hf17 ?_))))))))))))
          refine JC.seq ?_
          refine JC.region (by rfl) ?_
          intro hQ
          refine JL.loadOwn 4 az_34 rfl rfl rfl .none rfl ?_
          obtain ⟨y772, hy772, hF⟩ := bind_some hF
          refine JL.callS (c_counts_Harm n H576 r r_v0 (SL.mono R_Section_mono (HSub.trans hs19 (HSub.trans hs209 hs576)) hr_0) r_v7 (SL.mono R_Span_mono (HSub.trans hs19 (HSub.trans hs209 hs576)) hr_7) r_v8 (SL.mono RInt.mono (HSub.trans hs19 (HSub.trans hs209 hs576)) hr_8) r_v9 (SL.mono R_Blow_mono (HSub.trans hs19 (HSub.trans hs209 hs576)) hr_9) r_v10 (SL.mono R_Meter_mono (HSub.trans hs19 (HSub.trans hs209 hs576)) hr_10) y772 hy772) rfl en_14 .none rfl ?_
          refine JL.move .none rfl ?_
          refine JL.extract rfl rfl .none rfl ?_
          refine JL.extract rfl rfl .none rfl ?_
          refine JL.alloc ze_49 .none rfl ?_
          intro b773
          refine JL.storeOwn 0 (cs := [.int .i64 y772.1.Low, .int .i64 y772.1.High]) az_49 rfl rfl rfl (one_cons rfl (one_cons rfl one_nil)) rfl rfl .none ?_
          refine JL.assign .none rfl ?_
          refine JL.done hQ ?_
          refine JQ.go ?_
          refine JC.seq ?_
          refine JC.region (by rfl) ?_
          intro hQ
          refine JL.loadOwn 3 az_34 rfl rfl rfl .none rfl ?_
          obtain ⟨y777, hy777, hF⟩ := bind_some hF
          refine JL.callLG2 (R := R_Blow) (S := R_Meter) 1 0 rfl R_Blow_mono (CH.mono R_Blow_mono hs576 hout_208) rfl rfl R_Meter_mono hout_575 rfl (fun H774 hs774 hg775 hg776 => c_counts_Harm n H774 (Run.mk y18.Canopy out_208 out_575 y18.Wrong) y18_v0 (SL.mono R_Section_mono (HSub.trans hs209 (HSub.trans hs576 hs774)) hy18_0) y18_v1 (SL.mono R_Span_mono (HSub.trans hs209 (HSub.trans hs576 hs774)) hy18_1) y18_v2 (SL.mono RInt.mono (HSub.trans hs209 (HSub.trans hs576 hs774)) hy18_2) vout_208 hg775 vout_575 hg776 y777 hy777) rfl en_14 .none rfl ?_
          refine JL.move .none rfl ?_
          refine JL.extract rfl rfl .none rfl ?_
          refine JL.extract rfl rfl .none rfl ?_
          refine JL.alloc ze_49 .none rfl ?_
          intro b778
          refine JL.storeOwn 0 (cs := [.int .i64 y777.1.Low, .int .i64 y777.1.High]) az_49 rfl rfl rfl (one_cons rfl (one_cons rfl one_nil)) rfl rfl .none ?_
          refine JL.assign .none rfl ?_
          refine JL.done hQ ?_
          refine JQ.go ?_
          refine JC.fresh (fun f => f 1 = .int .i64 by_ ∧ f 3 = .pointer (some ⟨b1, 0, none⟩) ∧ f 5 = .pointer (some ⟨b2, 0, none⟩) ∧ f 7 = .pointer (some ⟨b23, 0, none⟩) ∧ f 10 = .int .i64 y760.1 ∧ f 11 = .int .i64 y760.2 ∧ f 12 = .int .i64 y764.1 ∧ f 13 = .int .i64 y764.2 ∧ f 14 = .pointer (some ⟨b766, 0, none⟩) ∧ f 15 = .int .i64 y765.2 ∧ f 16 = .pointer (some ⟨b771, 0, none⟩) ∧ f 17 = .int .i64 y770.2 ∧ f 18 = .pointer (some ⟨b773, 0, none⟩) ∧ f 19 = .int .i64 y772.2 ∧ f 20 = .pointer (some ⟨b778, 0, none⟩) ∧ f 21 = .int .i64 y777.2) ⟨rfl, rfl, rfl, rfl, rfl, rfl, rfl, rfl, rfl, rfl, rfl, rfl, rfl, rfl, rfl, rfl⟩ ?_
          rintro f ⟨hf1, hf3, hf5, hf7, hf10, hf11, hf12, hf13, hf14, hf15, hf16, hf17, hf18, hf19, hf20, hf21⟩
          refine (JC.norm (i := 1) hf1 (JC.norm (i := 3) hf3 (JC.norm (i := 5) hf5 (JC.norm (i := 7) hf7 (JC.norm (i := 10) hf10 (JC.norm (i := 11) hf11 (JC.norm (i := 12) hf12 (JC.norm (i := 13) hf13 (JC.norm (i := 14) hf14 (JC.norm (i := 15) hf15 (JC.norm (i := 16) hf16 (JC.norm (i := 17) hf17 (JC.norm (i := 18) hf18 (JC.norm (i := 19) hf19 (JC.norm (i := 20) hf20 (JC.norm (i := 21) hf21 ?_))))))))))))))))
          refine JC.seq ?_
          refine JC.region (by rfl) ?_
          intro hQ
          refine JL.loadOwn 4 az_34 rfl rfl rfl .none rfl ?_
          refine JL.fieldAddr fo_67_0 rfl .none rfl ?_
          refine JL.loadOwn 5 az_3 rfl rfl rfl .none rfl ?_
          refine JL.freezeG 1 (R := R_Blow) rfl R_Blow_mono (CH.mono R_Blow_mono hs576 hout_208) rfl ?_
          intro H779 hs779 hg780
          refine JL.freezeG 0 (R := R_Meter) rfl R_Meter_mono (CH.mono R_Meter_mono hs779 hout_575) rfl ?_
          intro H781 hs781 hg782
          obtain ⟨y783, hy783, hF⟩ := bind_some hF
          refine JL.callH (c_counts_Forces n H781 (Run.mk y18.Canopy out_208 out_575 y18.Wrong) y18_v0 (SL.mono R_Section_mono (HSub.trans hs209 (HSub.trans hs576 (HSub.trans hs779 hs781))) hy18_0) y18_v1 (SL.mono R_Span_mono (HSub.trans hs209 (HSub.trans hs576 (HSub.trans hs779 hs781))) hy18_1) y18_v2 (SL.mono RInt.mono (HSub.trans hs209 (HSub.trans hs576 (HSub.trans hs779 hs781))) hy18_2) vout_208 (SL.mono R_Blow_mono hs781 hg780) vout_575 hg782 x_.Blow y783 hy783) rfl en_15 .none rfl ?_
          rintro H784 vv785 hs784 ⟨y783a_v0, rfl, hy783a_0⟩
          refine JL.move .none rfl ?_
          refine JL.extract rfl rfl .none rfl ?_
          refine JL.extract rfl rfl .none rfl ?_
          refine JL.assign .none rfl ?_
          refine JL.assign .none rfl ?_
          refine JL.done hQ ?_
          refine JQ.go ?_
          refine JC.seq ?_
          obtain ⟨u788, hu788, hF⟩ := bind_some hF
          obtain ⟨y789, hy789, hF⟩ := bind_some hF
          refine JC.mixed 15 15 #[false, false, false, false, false, false, false, false, false, false, false, false, false, false, false] [(b778, .cells [.int .i64 y777.1.Low, .int .i64 y777.1.High].toArray 49), (b773, .cells [.int .i64 y772.1.Low, .int .i64 y772.1.High].toArray 49), (b771, .cells [.int .i64 y770.1.Low, .int .i64 y770.1.High].toArray 49), (b766, .cells [.int .i64 y765.1.Low, .int .i64 y765.1.High].toArray 49), (b23, .cells [y18_v0, .int .i64 y18.Canopy.Frame.Low, .int .i64 y18.Canopy.Frame.High, .int .i64 y18.Canopy.Frame.Ease.Num, .int .i64 y18.Canopy.Frame.Ease.Den, .int .i64 y18.Canopy.Frame.Rod, .int .i64 y18.Canopy.Frame.Case, y18_v1, y18_v2, vout_208, vout_575, .int .i64 y18.Wrong].toArray 34), (b2, .cells [.int .i64 x_.Blow, .int .i64 x_.Meter, .int .i64 x_.Limit].toArray 67), (b1, .cells [r_v0, .int .i64 r.Canopy.Frame.Low, .int .i64 r.Canopy.Frame.High, .int .i64 r.Canopy.Frame.Ease.Num, .int .i64 r.Canopy.Frame.Ease.Den, .int .i64 r.Canopy.Frame.Rod, .int .i64 r.Canopy.Frame.Case, r_v7, r_v8, r_v9, r_v10, .int .i64 r.Wrong].toArray 34)] (by rfl) mo_ (by kernel_rfl) (by kernel_rfl) ?_
          intro hQ hE
          refine JA.take 0 (listed' := #[true, false, false, false, false, false, false, false, false, false, false, false, false, false, false]) hQ rfl (by kernel_rfl) (by kernel_rfl) (by kernel_rfl) (by kernel_rfl) (by kernel_rfl) hE (HSub.refl _) (.cons_cons _ (.cons_cons _ (.cons_cons _ (.cons_cons _ (.cons_cons _ (.cons_cons _ (.cons_cons _ (List.nil_sublist _)))))))) ?_
          refine JL.loadOwn 6 az_34 rfl rfl rfl .none rfl ?_
          refine JA.cont ?_
          refine JA.take 1 (listed' := #[true, true, false, false, false, false, false, false, false, false, false, false, false, false, false]) hQ rfl (by kernel_rfl) (by kernel_rfl) (by kernel_rfl) (by kernel_rfl) (by kernel_rfl) hE (HSub.refl _) (.cons_cons _ (.cons_cons _ (.cons_cons _ (.cons_cons _ (.cons_cons _ (.cons_cons _ (.cons_cons _ (List.nil_sublist _)))))))) ?_
          refine JL.fieldAddr fo_67_0 rfl .none rfl ?_
          refine JA.cont ?_
          refine JA.take 2 (listed' := #[true, true, true, false, false, false, false, false, false, false, false, false, false, false, false]) hQ rfl (by kernel_rfl) (by kernel_rfl) (by kernel_rfl) (by kernel_rfl) (by kernel_rfl) hE (HSub.refl _) (.cons_cons _ (.cons_cons _ (.cons_cons _ (.cons_cons _ (.cons_cons _ (.cons_cons _ (.cons_cons _ (List.nil_sublist _)))))))) ?_
          refine JL.loadOwn 5 az_3 rfl rfl rfl .none rfl ?_
          refine JA.cont ?_
          refine JA.take 3 (listed' := #[true, true, true, true, false, false, false, false, false, false, false, false, false, false, false]) hQ rfl (by kernel_rfl) (by kernel_rfl) (by kernel_rfl) (by kernel_rfl) (by kernel_rfl) hE (HSub.refl _) (.cons_cons _ (.cons_cons _ (.cons_cons _ (.cons_cons _ (.cons_cons _ (.cons_cons _ (.cons_cons _ (List.nil_sublist _)))))))) ?_
          refine JL.move .none rfl ?_
          refine JA.cont ?_
          refine JA.take 4 (listed' := #[true, true, true, true, true, false, false, false, false, false, false, false, false, false, false]) hQ rfl (by kernel_rfl) (by kernel_rfl) (by kernel_rfl) (by kernel_rfl) (by kernel_rfl) hE (HSub.refl _) (.cons_cons _ (.cons_cons _ (.cons_cons _ (.cons_cons _ (.cons_cons _ (.cons_cons _ (.cons_cons _ (List.nil_sublist _)))))))) ?_
          refine JL.bin rfl rfl rfl .none rfl ?_
          refine JA.cont ?_
          refine JA.take 5 (listed' := #[true, true, true, true, true, true, false, false, false, false, false, false, false, false, false]) hQ rfl (by kernel_rfl) (by kernel_rfl) (by kernel_rfl) (by kernel_rfl) (by kernel_rfl) hE (HSub.refl _) (.cons_cons _ (.cons_cons _ (.cons_cons _ (.cons_cons _ (.cons_cons _ (.cons_cons _ (.cons_cons _ (List.nil_sublist _)))))))) ?_
          refine JL.fieldAddr fo_34_1 rfl .none rfl ?_
          refine JA.cont ?_
          refine JA.take 6 (listed' := #[true, true, true, true, true, true, true, false, false, false, false, false, false, false, false]) hQ rfl (by kernel_rfl) (by kernel_rfl) (by kernel_rfl) (by kernel_rfl) (by kernel_rfl) hE (HSub.refl _) (.cons_cons _ (.cons_cons _ (.cons_cons _ (.cons_cons _ (.cons_cons _ (.cons_cons _ (.cons_cons _ (List.nil_sublist _)))))))) ?_
          refine JL.loadOwn 6 az_31 rfl rfl rfl .none rfl ?_
          refine JA.cont ?_
          refine JA.take 7 (listed' := #[true, true, true, true, true, true, true, true, false, false, false, false, false, false, false]) hQ rfl (by kernel_rfl) (by kernel_rfl) (by kernel_rfl) (by kernel_rfl) (by kernel_rfl) hE (HSub.refl _) (.cons_cons _ (.cons_cons _ (.cons_cons _ (.cons_cons _ (.cons_cons _ (.cons_cons _ (.cons_cons _ (List.nil_sublist _)))))))) ?_
          refine JL.lenSL (R := R_Blow) ul_31 (SL.mono R_Blow_mono (HSub.trans hs19 (HSub.trans hs209 (HSub.trans hs576 (HSub.trans hs779 (HSub.trans hs781 hs784))))) hr_9) .none rfl ?_
          refine JA.cont ?_
          refine JA.take 8 (listed' := #[true, true, true, true, true, true, true, true, true, false, false, false, false, false, false]) hQ rfl (by kernel_rfl) (by kernel_rfl) (by kernel_rfl) (by kernel_rfl) (by kernel_rfl) hE (HSub.refl _) (.cons_cons _ (.cons_cons _ (.cons_cons _ (.cons_cons _ (.cons_cons _ (.cons_cons _ (.cons_cons _ (List.nil_sublist _)))))))) ?_
          refine JL.div rfl rfl (nz_some hu788) rfl .none rfl ?_
          refine JA.cont ?_
          refine JA.many [9] (by kernel_rfl) (by simp) (all_one ⟨_, #[true, true, true, true, true, true, true, true, true, true, false, false, false, false, false], rfl, (by kernel_rfl), ?_⟩)
          refine JL.callH (c_counts_Forces n H784 r r_v0 (SL.mono R_Section_mono (HSub.trans hs19 (HSub.trans hs209 (HSub.trans hs576 (HSub.trans hs779 (HSub.trans hs781 hs784))))) hr_0) r_v7 (SL.mono R_Span_mono (HSub.trans hs19 (HSub.trans hs209 (HSub.trans hs576 (HSub.trans hs779 (HSub.trans hs781 hs784))))) hr_7) r_v8 (SL.mono RInt.mono (HSub.trans hs19 (HSub.trans hs209 (HSub.trans hs576 (HSub.trans hs779 (HSub.trans hs781 hs784))))) hr_8) r_v9 (SL.mono R_Blow_mono (HSub.trans hs19 (HSub.trans hs209 (HSub.trans hs576 (HSub.trans hs779 (HSub.trans hs781 hs784))))) hr_9) r_v10 (SL.mono R_Meter_mono (HSub.trans hs19 (HSub.trans hs209 (HSub.trans hs576 (HSub.trans hs779 (HSub.trans hs781 hs784))))) hr_10) ((w64 (x_.Blow + by_)).tmod (r.Blows.length : Int)) y789 hy789) rfl en_15 .none rfl ?_
          rintro H794 vv795 hs794 ⟨y789a_v0, rfl, hy789a_0⟩
          refine JA.after hE hs794 (.cons_cons _ (.cons_cons _ (.cons_cons _ (.cons_cons _ (.cons_cons _ (.cons_cons _ (.cons_cons _ (List.nil_sublist _)))))))) ?_
          refine JA.take 10 (listed' := #[true, true, true, true, true, true, true, true, true, true, true, false, false, false, false]) hQ rfl (by kernel_rfl) (by kernel_rfl) (by kernel_rfl) (by kernel_rfl) (by kernel_rfl) hE hs794 (.cons_cons _ (.cons_cons _ (.cons_cons _ (.cons_cons _ (.cons_cons _ (.cons_cons _ (.cons_cons _ (List.nil_sublist _)))))))) ?_
          refine JL.move .none rfl ?_
          refine JA.cont ?_
          refine JA.take 11 (listed' := #[true, true, true, true, true, true, true, true, true, true, true, true, false, false, false]) hQ rfl (by kernel_rfl) (by kernel_rfl) (by kernel_rfl) (by kernel_rfl) (by kernel_rfl) hE hs794 (.cons_cons _ (.cons_cons _ (.cons_cons _ (.cons_cons _ (.cons_cons _ (.cons_cons _ (.cons_cons _ (List.nil_sublist _)))))))) ?_
          refine JL.extract rfl rfl .none rfl ?_
          refine JA.cont ?_
          refine JA.take 12 (listed' := #[true, true, true, true, true, true, true, true, true, true, true, true, true, false, false]) hQ rfl (by kernel_rfl) (by kernel_rfl) (by kernel_rfl) (by kernel_rfl) (by kernel_rfl) hE hs794 (.cons_cons _ (.cons_cons _ (.cons_cons _ (.cons_cons _ (.cons_cons _ (.cons_cons _ (.cons_cons _ (List.nil_sublist _)))))))) ?_
          refine JL.extract rfl rfl .none rfl ?_
          refine JA.cont ?_
          refine JA.take 13 (listed' := #[true, true, true, true, true, true, true, true, true, true, true, true, true, true, false]) hQ rfl (by kernel_rfl) (by kernel_rfl) (by kernel_rfl) (by kernel_rfl) (by kernel_rfl) hE hs794 (.cons_cons _ (.cons_cons _ (.cons_cons _ (.cons_cons _ (.cons_cons _ (.cons_cons _ (.cons_cons _ (List.nil_sublist _)))))))) ?_
          refine JL.assign .none rfl ?_
          refine JA.cont ?_
          refine JA.take 14 (listed' := #[true, true, true, true, true, true, true, true, true, true, true, true, true, true, true]) hQ rfl (by kernel_rfl) (by kernel_rfl) (by kernel_rfl) (by kernel_rfl) (by kernel_rfl) hE hs794 (.cons_cons _ (.cons_cons _ (.cons_cons _ (.cons_cons _ (.cons_cons _ (.cons_cons _ (.cons_cons _ (List.nil_sublist _)))))))) ?_
          refine JL.assign .none rfl ?_
          refine JA.cont ?_
          refine JA.done hQ (by kernel_rfl) ?_
          refine JQ.go ?_
          refine JC.fresh (fun f => f 1 = .int .i64 by_ ∧ f 3 = .pointer (some ⟨b1, 0, none⟩) ∧ f 5 = .pointer (some ⟨b2, 0, none⟩) ∧ f 7 = .pointer (some ⟨b23, 0, none⟩) ∧ f 10 = .int .i64 y760.1 ∧ f 11 = .int .i64 y760.2 ∧ f 12 = .int .i64 y764.1 ∧ f 13 = .int .i64 y764.2 ∧ f 14 = .pointer (some ⟨b766, 0, none⟩) ∧ f 15 = .int .i64 y765.2 ∧ f 16 = .pointer (some ⟨b771, 0, none⟩) ∧ f 17 = .int .i64 y770.2 ∧ f 18 = .pointer (some ⟨b773, 0, none⟩) ∧ f 19 = .int .i64 y772.2 ∧ f 20 = .pointer (some ⟨b778, 0, none⟩) ∧ f 21 = .int .i64 y777.2 ∧ f 22 = y783a_v0 ∧ f 23 = .int .i64 y783.2 ∧ f 24 = y789a_v0 ∧ f 25 = .int .i64 y789.2) ⟨rfl, rfl, rfl, rfl, rfl, rfl, rfl, rfl, rfl, rfl, rfl, rfl, rfl, rfl, rfl, rfl, rfl, rfl, rfl, rfl⟩ ?_
          rintro f ⟨hf1, hf3, hf5, hf7, hf10, hf11, hf12, hf13, hf14, hf15, hf16, hf17, hf18, hf19, hf20, hf21, hf22, hf23, hf24, hf25⟩
          refine (JC.norm (i := 1) hf1 (JC.norm (i := 3) hf3 (JC.norm (i := 5) hf5 (JC.norm (i := 7) hf7 (JC.norm (i := 10) hf10 (JC.norm (i := 11) hf11 (JC.norm (i := 12) hf12 (JC.norm (i := 13) hf13 (JC.norm (i := 14) hf14 (JC.norm (i := 15) hf15 (JC.norm (i := 16) hf16 (JC.norm (i := 17) hf17 (JC.norm (i := 18) hf18 (JC.norm (i := 19) hf19 (JC.norm (i := 20) hf20 (JC.norm (i := 21) hf21 (JC.norm (i := 22) hf22 (JC.norm (i := 23) hf23 (JC.norm (i := 24) hf24 (JC.norm (i := 25) hf25 ?_))))))))))))))))))))
          refine JC.seq ?_
          refine JC.region (by rfl) ?_
          intro hQ
          refine JL.loadOwn 4 az_34 rfl rfl rfl .none rfl ?_
          refine JL.fieldAddr fo_67_1 rfl .none rfl ?_
          refine JL.loadOwn 5 az_3 rfl rfl rfl .none rfl ?_
          obtain ⟨y796, hy796, hF⟩ := bind_some hF
          refine JL.callS (c_counts_Right n H794 (Run.mk y18.Canopy out_208 out_575 y18.Wrong) y18_v0 (SL.mono R_Section_mono (HSub.trans hs209 (HSub.trans hs576 (HSub.trans hs779 (HSub.trans hs781 (HSub.trans hs784 hs794))))) hy18_0) y18_v1 (SL.mono R_Span_mono (HSub.trans hs209 (HSub.trans hs576 (HSub.trans hs779 (HSub.trans hs781 (HSub.trans hs784 hs794))))) hy18_1) y18_v2 (SL.mono RInt.mono (HSub.trans hs209 (HSub.trans hs576 (HSub.trans hs779 (HSub.trans hs781 (HSub.trans hs784 hs794))))) hy18_2) vout_208 (SL.mono R_Blow_mono (HSub.trans hs781 (HSub.trans hs784 hs794)) hg780) vout_575 (SL.mono R_Meter_mono (HSub.trans hs784 hs794) hg782) x_.Meter y796 hy796) rfl en_19 .none rfl ?_
          refine JL.move .none rfl ?_
          refine JL.extract rfl rfl .none rfl ?_
          refine JL.extract rfl rfl .none rfl ?_
          refine JL.assign .none rfl ?_
          refine JL.assign .none rfl ?_
          refine JL.done hQ ?_
          refine JQ.go ?_
          refine JC.fresh (fun f => f 1 = .int .i64 by_ ∧ f 3 = .pointer (some ⟨b1, 0, none⟩) ∧ f 5 = .pointer (some ⟨b2, 0, none⟩) ∧ f 10 = .int .i64 y760.1 ∧ f 11 = .int .i64 y760.2 ∧ f 12 = .int .i64 y764.1 ∧ f 13 = .int .i64 y764.2 ∧ f 14 = .pointer (some ⟨b766, 0, none⟩) ∧ f 15 = .int .i64 y765.2 ∧ f 16 = .pointer (some ⟨b771, 0, none⟩) ∧ f 17 = .int .i64 y770.2 ∧ f 18 = .pointer (some ⟨b773, 0, none⟩) ∧ f 19 = .int .i64 y772.2 ∧ f 20 = .pointer (some ⟨b778, 0, none⟩) ∧ f 21 = .int .i64 y777.2 ∧ f 22 = y783a_v0 ∧ f 23 = .int .i64 y783.2 ∧ f 24 = y789a_v0 ∧ f 25 = .int .i64 y789.2 ∧ f 26 = .int .i64 y796.1 ∧ f 27 = .int .i64 y796.2) ⟨rfl, rfl, rfl, rfl, rfl, rfl, rfl, rfl, rfl, rfl, rfl, rfl, rfl, rfl, rfl, rfl, rfl, rfl, rfl, rfl, rfl⟩ ?_
          rintro f ⟨hf1, hf3, hf5, hf10, hf11, hf12, hf13, hf14, hf15, hf16, hf17, hf18, hf19, hf20, hf21, hf22, hf23, hf24, hf25, hf26, hf27⟩
          refine (JC.norm (i := 1) hf1 (JC.norm (i := 3) hf3 (JC.norm (i := 5) hf5 (JC.norm (i := 10) hf10 (JC.norm (i := 11) hf11 (JC.norm (i := 12) hf12 (JC.norm (i := 13) hf13 (JC.norm (i := 14) hf14 (JC.norm (i := 15) hf15 (JC.norm (i := 16) hf16 (JC.norm (i := 17) hf17 (JC.norm (i := 18) hf18 (JC.norm (i := 19) hf19 (JC.norm (i := 20) hf20 (JC.norm (i := 21) hf21 (JC.norm (i := 22) hf22 (JC.norm (i := 23) hf23 (JC.norm (i := 24) hf24 (JC.norm (i := 25) hf25 (JC.norm (i := 26) hf26 (JC.norm (i := 27) hf27 ?_)))))))))))))))))))))
          refine JC.seq ?_
          refine JC.draw (by rfl) mo_ (by kernel_rfl) ?_
          intro hQ
          refine JL.loadOwn 6 az_34 rfl rfl rfl .none rfl ?_
          refine JL.fieldAddr fo_67_1 rfl .none rfl ?_
          refine JL.loadOwn 5 az_3 rfl rfl rfl .none rfl ?_
          refine JL.move .none rfl ?_
          refine JL.bin rfl rfl rfl .none rfl ?_
          refine JL.fieldAddr fo_34_2 rfl .none rfl ?_
          refine JL.loadOwn 6 az_32 rfl rfl rfl .none rfl ?_
          refine JL.lenSL (R := R_Meter) ul_32 (SL.mono R_Meter_mono (HSub.trans hs19 (HSub.trans hs209 (HSub.trans hs576 (HSub.trans hs779 (HSub.trans hs781 (HSub.trans hs784 hs794)))))) hr_10) .none rfl ?_
          obtain ⟨u799, hu799, hF⟩ := bind_some hF
          refine JL.div rfl rfl (nz_some hu799) rfl .none rfl ?_
          obtain ⟨y800, hy800, hF⟩ := bind_some hF
          refine JL.callS (c_counts_Right n H794 r r_v0 (SL.mono R_Section_mono (HSub.trans hs19 (HSub.trans hs209 (HSub.trans hs576 (HSub.trans hs779 (HSub.trans hs781 (HSub.trans hs784 hs794)))))) hr_0) r_v7 (SL.mono R_Span_mono (HSub.trans hs19 (HSub.trans hs209 (HSub.trans hs576 (HSub.trans hs779 (HSub.trans hs781 (HSub.trans hs784 hs794)))))) hr_7) r_v8 (SL.mono RInt.mono (HSub.trans hs19 (HSub.trans hs209 (HSub.trans hs576 (HSub.trans hs779 (HSub.trans hs781 (HSub.trans hs784 hs794)))))) hr_8) r_v9 (SL.mono R_Blow_mono (HSub.trans hs19 (HSub.trans hs209 (HSub.trans hs576 (HSub.trans hs779 (HSub.trans hs781 (HSub.trans hs784 hs794)))))) hr_9) r_v10 (SL.mono R_Meter_mono (HSub.trans hs19 (HSub.trans hs209 (HSub.trans hs576 (HSub.trans hs779 (HSub.trans hs781 (HSub.trans hs784 hs794)))))) hr_10) ((w64 (x_.Meter + by_)).tmod (r.Meters.length : Int)) y800 hy800) rfl en_19 .none rfl ?_
          refine JL.move .none rfl ?_
          refine JL.extract rfl rfl .none rfl ?_
          refine JL.extract rfl rfl .none rfl ?_
          refine JL.assign .none rfl ?_
          refine JL.assign .none rfl ?_
          refine JL.doneQ hQ ?_
          refine JQ.go ?_
          refine JC.fresh (fun f => f 10 = .int .i64 y760.1 ∧ f 11 = .int .i64 y760.2 ∧ f 12 = .int .i64 y764.1 ∧ f 13 = .int .i64 y764.2 ∧ f 14 = .pointer (some ⟨b766, 0, none⟩) ∧ f 15 = .int .i64 y765.2 ∧ f 16 = .pointer (some ⟨b771, 0, none⟩) ∧ f 17 = .int .i64 y770.2 ∧ f 18 = .pointer (some ⟨b773, 0, none⟩) ∧ f 19 = .int .i64 y772.2 ∧ f 20 = .pointer (some ⟨b778, 0, none⟩) ∧ f 21 = .int .i64 y777.2 ∧ f 22 = y783a_v0 ∧ f 23 = .int .i64 y783.2 ∧ f 24 = y789a_v0 ∧ f 25 = .int .i64 y789.2 ∧ f 26 = .int .i64 y796.1 ∧ f 27 = .int .i64 y796.2 ∧ f 28 = .int .i64 y800.1 ∧ f 29 = .int .i64 y800.2) ⟨rfl, rfl, rfl, rfl, rfl, rfl, rfl, rfl, rfl, rfl, rfl, rfl, rfl, rfl, rfl, rfl, rfl, rfl, rfl, rfl⟩ ?_
          rintro f ⟨hf10, hf11, hf12, hf13, hf14, hf15, hf16, hf17, hf18, hf19, hf20, hf21, hf22, hf23, hf24, hf25, hf26, hf27, hf28, hf29⟩
          refine (JC.norm (i := 10) hf10 (JC.norm (i := 11) hf11 (JC.norm (i := 12) hf12 (JC.norm (i := 13) hf13 (JC.norm (i := 14) hf14 (JC.norm (i := 15) hf15 (JC.norm (i := 16) hf16 (JC.norm (i := 17) hf17 (JC.norm (i := 18) hf18 (JC.norm (i := 19) hf19 (JC.norm (i := 20) hf20 (JC.norm (i := 21) hf21 (JC.norm (i := 22) hf22 (JC.norm (i := 23) hf23 (JC.norm (i := 24) hf24 (JC.norm (i := 25) hf25 (JC.norm (i := 26) hf26 (JC.norm (i := 27) hf27 (JC.norm (i := 28) hf28 (JC.norm (i := 29) hf29 ?_))))))))))))))))))))
          refine JC.seq ?_
          refine JC.region (by rfl) ?_
          intro hQ
          refine JL.move .none rfl ?_
          refine JL.move .none rfl ?_
          refine JL.bin rfl rfl rfl .none rfl ?_
          refine JL.move .none rfl ?_
          refine JL.cut 4 (fun f => f 14 = .pointer (some ⟨b766, 0, none⟩) ∧ f 15 = .int .i64 y765.2 ∧ f 16 = .pointer (some ⟨b771, 0, none⟩) ∧ f 17 = .int .i64 y770.2 ∧ f 18 = .pointer (some ⟨b773, 0, none⟩) ∧ f 19 = .int .i64 y772.2 ∧ f 20 = .pointer (some ⟨b778, 0, none⟩) ∧ f 21 = .int .i64 y777.2 ∧ f 22 = y783a_v0 ∧ f 23 = .int .i64 y783.2 ∧ f 24 = y789a_v0 ∧ f 25 = .int .i64 y789.2 ∧ f 26 = .int .i64 y796.1 ∧ f 27 = .int .i64 y796.2 ∧ f 28 = .int .i64 y800.1 ∧ f 29 = .int .i64 y800.2 ∧ f 195 = .bool ((y760.1 == y764.1) && (y760.2 == y764.2))) ?_ ?_
          ·intro hJ801
           rcases bcases (y760.1 == y764.1) with hc802 | hc802
           ·skip
            refine JL.move (.some rfl rfl rfl hc802) rfl ?_
            refine JL.move (.some rfl rfl rfl hc802) rfl ?_
            refine JL.bin rfl rfl rfl (.some rfl rfl rfl hc802) rfl ?_
            refine JL.pick_t (b := (y760.1 == y764.1)) rfl hc802 .none rfl ?_
            exact hJ801 _ ⟨rfl, rfl, rfl, rfl, rfl, rfl, rfl, rfl, rfl, rfl, rfl, rfl, rfl, rfl, rfl, rfl, and_t hc802 rfl⟩
           ·skip
            refine JL.skip (.bool rfl rfl rfl hc802) rfl ?_
            refine JL.skip (.bool rfl rfl rfl hc802) rfl ?_
            refine JL.skip (.bool rfl rfl rfl hc802) rfl ?_
            refine JL.pick_f (b := (y760.1 == y764.1)) rfl hc802 .none rfl ?_
            exact hJ801 _ ⟨rfl, rfl, rfl, rfl, rfl, rfl, rfl, rfl, rfl, rfl, rfl, rfl, rfl, rfl, rfl, rfl, and_f hc802 rfl⟩
          ·rintro f ⟨hf14, hf15, hf16, hf17, hf18, hf19, hf20, hf21, hf22, hf23, hf24, hf25, hf26, hf27, hf28, hf29, hf195⟩
           refine (JL.norm (i := 14) hf14 (JL.norm (i := 15) hf15 (JL.norm (i := 16) hf16 (JL.norm (i := 17) hf17 (JL.norm (i := 18) hf18 (JL.norm (i := 19) hf19 (JL.norm (i := 20) hf20 (JL.norm (i := 21) hf21 (JL.norm (i := 22) hf22 (JL.norm (i := 23) hf23 (JL.norm (i := 24) hf24 (JL.norm (i := 25) hf25 (JL.norm (i := 26) hf26 (JL.norm (i := 27) hf27 (JL.norm (i := 28) hf28 (JL.norm (i := 29) hf29 (JL.norm (i := 195) hf195 ?_)))))))))))))))))
           refine JL.move .none rfl ?_
           refine JL.cut 4 (fun f => f 15 = .int .i64 y765.2 ∧ f 17 = .int .i64 y770.2 ∧ f 18 = .pointer (some ⟨b773, 0, none⟩) ∧ f 19 = .int .i64 y772.2 ∧ f 20 = .pointer (some ⟨b778, 0, none⟩) ∧ f 21 = .int .i64 y777.2 ∧ f 22 = y783a_v0 ∧ f 23 = .int .i64 y783.2 ∧ f 24 = y789a_v0 ∧ f 25 = .int .i64 y789.2 ∧ f 26 = .int .i64 y796.1 ∧ f 27 = .int .i64 y796.2 ∧ f 28 = .int .i64 y800.1 ∧ f 29 = .int .i64 y800.2 ∧ f 200 = .bool (((y760.1 == y764.1) && (y760.2 == y764.2)) && ((y765.1.Low == y770.1.Low) && (y765.1.High == y770.1.High)))) ?_ ?_
           ·intro hJ803
            rcases bcases ((y760.1 == y764.1) && (y760.2 == y764.2)) with hc804 | hc804
            ·skip
             refine JL.loadOwn 3 az_49 rfl rfl rfl (.some rfl rfl rfl hc804) rfl ?_
             refine JL.loadOwn 2 az_49 rfl rfl rfl (.some rfl rfl rfl hc804) rfl ?_
             refine JL.eqAgg eqg_49 rfl rfl (fun w => eqa_49 y765.1.Low y765.1.High y770.1.Low y770.1.High w) (.some rfl rfl rfl hc804) rfl ?_
             refine JL.pick_t (b := ((y760.1 == y764.1) && (y760.2 == y764.2))) rfl hc804 .none rfl ?_
             exact hJ803 _ ⟨rfl, rfl, rfl, rfl, rfl, rfl, rfl, rfl, rfl, rfl, rfl, rfl, rfl, rfl, and_t hc804 rfl⟩
            ·skip
             refine JL.skip (.bool rfl rfl rfl hc804) rfl ?_
             refine JL.skip (.bool rfl rfl rfl hc804) rfl ?_
             refine JL.skip (.bool rfl rfl rfl hc804) rfl ?_
             refine JL.pick_f (b := ((y760.1 == y764.1) && (y760.2 == y764.2))) rfl hc804 .none rfl ?_
             exact hJ803 _ ⟨rfl, rfl, rfl, rfl, rfl, rfl, rfl, rfl, rfl, rfl, rfl, rfl, rfl, rfl, and_f hc804 rfl⟩
           ·rintro f ⟨hf15, hf17, hf18, hf19, hf20, hf21, hf22, hf23, hf24, hf25, hf26, hf27, hf28, hf29, hf200⟩
            refine (JL.norm (i := 15) hf15 (JL.norm (i := 17) hf17 (JL.norm (i := 18) hf18 (JL.norm (i := 19) hf19 (JL.norm (i := 20) hf20 (JL.norm (i := 21) hf21 (JL.norm (i := 22) hf22 (JL.norm (i := 23) hf23 (JL.norm (i := 24) hf24 (JL.norm (i := 25) hf25 (JL.norm (i := 26) hf26 (JL.norm (i := 27) hf27 (JL.norm (i := 28) hf28 (JL.norm (i := 29) hf29 (JL.norm (i := 200) hf200 ?_)))))))))))))))
            refine JL.move .none rfl ?_
            refine JL.cut 4 (fun f => f 18 = .pointer (some ⟨b773, 0, none⟩) ∧ f 19 = .int .i64 y772.2 ∧ f 20 = .pointer (some ⟨b778, 0, none⟩) ∧ f 21 = .int .i64 y777.2 ∧ f 22 = y783a_v0 ∧ f 23 = .int .i64 y783.2 ∧ f 24 = y789a_v0 ∧ f 25 = .int .i64 y789.2 ∧ f 26 = .int .i64 y796.1 ∧ f 27 = .int .i64 y796.2 ∧ f 28 = .int .i64 y800.1 ∧ f 29 = .int .i64 y800.2 ∧ f 205 = .bool ((((y760.1 == y764.1) && (y760.2 == y764.2)) && ((y765.1.Low == y770.1.Low) && (y765.1.High == y770.1.High))) && (y765.2 == y770.2))) ?_ ?_
            ·intro hJ805
             rcases bcases (((y760.1 == y764.1) && (y760.2 == y764.2)) && ((y765.1.Low == y770.1.Low) && (y765.1.High == y770.1.High))) with hc806 | hc806
             ·skip
              refine JL.move (.some rfl rfl rfl hc806) rfl ?_
              refine JL.move (.some rfl rfl rfl hc806) rfl ?_
              refine JL.bin rfl rfl rfl (.some rfl rfl rfl hc806) rfl ?_
              refine JL.pick_t (b := (((y760.1 == y764.1) && (y760.2 == y764.2)) && ((y765.1.Low == y770.1.Low) && (y765.1.High == y770.1.High)))) rfl hc806 .none rfl ?_
              exact hJ805 _ ⟨rfl, rfl, rfl, rfl, rfl, rfl, rfl, rfl, rfl, rfl, rfl, rfl, and_t hc806 rfl⟩
             ·skip
              refine JL.skip (.bool rfl rfl rfl hc806) rfl ?_
              refine JL.skip (.bool rfl rfl rfl hc806) rfl ?_
              refine JL.skip (.bool rfl rfl rfl hc806) rfl ?_
              refine JL.pick_f (b := (((y760.1 == y764.1) && (y760.2 == y764.2)) && ((y765.1.Low == y770.1.Low) && (y765.1.High == y770.1.High)))) rfl hc806 .none rfl ?_
              exact hJ805 _ ⟨rfl, rfl, rfl, rfl, rfl, rfl, rfl, rfl, rfl, rfl, rfl, rfl, and_f hc806 rfl⟩
            ·rintro f ⟨hf18, hf19, hf20, hf21, hf22, hf23, hf24, hf25, hf26, hf27, hf28, hf29, hf205⟩
             refine (JL.norm (i := 18) hf18 (JL.norm (i := 19) hf19 (JL.norm (i := 20) hf20 (JL.norm (i := 21) hf21 (JL.norm (i := 22) hf22 (JL.norm (i := 23) hf23 (JL.norm (i := 24) hf24 (JL.norm (i := 25) hf25 (JL.norm (i := 26) hf26 (JL.norm (i := 27) hf27 (JL.norm (i := 28) hf28 (JL.norm (i := 29) hf29 (JL.norm (i := 205) hf205 ?_)))))))))))))
             refine JL.move .none rfl ?_
             refine JL.cut 4 (fun f => f 19 = .int .i64 y772.2 ∧ f 21 = .int .i64 y777.2 ∧ f 22 = y783a_v0 ∧ f 23 = .int .i64 y783.2 ∧ f 24 = y789a_v0 ∧ f 25 = .int .i64 y789.2 ∧ f 26 = .int .i64 y796.1 ∧ f 27 = .int .i64 y796.2 ∧ f 28 = .int .i64 y800.1 ∧ f 29 = .int .i64 y800.2 ∧ f 210 = .bool (((((y760.1 == y764.1) && (y760.2 == y764.2)) && ((y765.1.Low == y770.1.Low) && (y765.1.High == y770.1.High))) && (y765.2 == y770.2)) && ((y772.1.Low == y777.1.Low) && (y772.1.High == y777.1.High)))) ?_ ?_
             ·intro hJ807
              rcases bcases ((((y760.1 == y764.1) && (y760.2 == y764.2)) && ((y765.1.Low == y770.1.Low) && (y765.1.High == y770.1.High))) && (y765.2 == y770.2)) with hc808 | hc808
              ·skip
               refine JL.loadOwn 1 az_49 rfl rfl rfl (.some rfl rfl rfl hc808) rfl ?_
               refine JL.loadOwn 0 az_49 rfl rfl rfl (.some rfl rfl rfl hc808) rfl ?_
               refine JL.eqAgg eqg_49 rfl rfl (fun w => eqa_49 y772.1.Low y772.1.High y777.1.Low y777.1.High w) (.some rfl rfl rfl hc808) rfl ?_
               refine JL.pick_t (b := ((((y760.1 == y764.1) && (y760.2 == y764.2)) && ((y765.1.Low == y770.1.Low) && (y765.1.High == y770.1.High))) && (y765.2 == y770.2))) rfl hc808 .none rfl ?_
               exact hJ807 _ ⟨rfl, rfl, rfl, rfl, rfl, rfl, rfl, rfl, rfl, rfl, and_t hc808 rfl⟩
              ·skip
               refine JL.skip (.bool rfl rfl rfl hc808) rfl ?_
               refine JL.skip (.bool rfl rfl rfl hc808) rfl ?_
               refine JL.skip (.bool rfl rfl rfl hc808) rfl ?_
               refine JL.pick_f (b := ((((y760.1 == y764.1) && (y760.2 == y764.2)) && ((y765.1.Low == y770.1.Low) && (y765.1.High == y770.1.High))) && (y765.2 == y770.2))) rfl hc808 .none rfl ?_
               exact hJ807 _ ⟨rfl, rfl, rfl, rfl, rfl, rfl, rfl, rfl, rfl, rfl, and_f hc808 rfl⟩
             ·rintro f ⟨hf19, hf21, hf22, hf23, hf24, hf25, hf26, hf27, hf28, hf29, hf210⟩
              refine (JL.norm (i := 19) hf19 (JL.norm (i := 21) hf21 (JL.norm (i := 22) hf22 (JL.norm (i := 23) hf23 (JL.norm (i := 24) hf24 (JL.norm (i := 25) hf25 (JL.norm (i := 26) hf26 (JL.norm (i := 27) hf27 (JL.norm (i := 28) hf28 (JL.norm (i := 29) hf29 (JL.norm (i := 210) hf210 ?_)))))))))))
              refine JL.move .none rfl ?_
              refine JL.cut 4 (fun f => f 22 = y783a_v0 ∧ f 23 = .int .i64 y783.2 ∧ f 24 = y789a_v0 ∧ f 25 = .int .i64 y789.2 ∧ f 26 = .int .i64 y796.1 ∧ f 27 = .int .i64 y796.2 ∧ f 28 = .int .i64 y800.1 ∧ f 29 = .int .i64 y800.2 ∧ f 215 = .bool ((((((y760.1 == y764.1) && (y760.2 == y764.2)) && ((y765.1.Low == y770.1.Low) && (y765.1.High == y770.1.High))) && (y765.2 == y770.2)) && ((y772.1.Low == y777.1.Low) && (y772.1.High == y777.1.High))) && (y772.2 == y777.2))) ?_ ?_
              ·intro hJ809
               rcases bcases (((((y760.1 == y764.1) && (y760.2 == y764.2)) && ((y765.1.Low == y770.1.Low) && (y765.1.High == y770.1.High))) && (y765.2 == y770.2)) && ((y772.1.Low == y777.1.Low) && (y772.1.High == y777.1.High))) with hc810 | hc810
               ·skip
                refine JL.move (.some rfl rfl rfl hc810) rfl ?_
                refine JL.move (.some rfl rfl rfl hc810) rfl ?_
                refine JL.bin rfl rfl rfl (.some rfl rfl rfl hc810) rfl ?_
                refine JL.pick_t (b := (((((y760.1 == y764.1) && (y760.2 == y764.2)) && ((y765.1.Low == y770.1.Low) && (y765.1.High == y770.1.High))) && (y765.2 == y770.2)) && ((y772.1.Low == y777.1.Low) && (y772.1.High == y777.1.High)))) rfl hc810 .none rfl ?_
                exact hJ809 _ ⟨rfl, rfl, rfl, rfl, rfl, rfl, rfl, rfl, and_t hc810 rfl⟩
               ·skip
                refine JL.skip (.bool rfl rfl rfl hc810) rfl ?_
                refine JL.skip (.bool rfl rfl rfl hc810) rfl ?_
                refine JL.skip (.bool rfl rfl rfl hc810) rfl ?_
                refine JL.pick_f (b := (((((y760.1 == y764.1) && (y760.2 == y764.2)) && ((y765.1.Low == y770.1.Low) && (y765.1.High == y770.1.High))) && (y765.2 == y770.2)) && ((y772.1.Low == y777.1.Low) && (y772.1.High == y777.1.High)))) rfl hc810 .none rfl ?_
                exact hJ809 _ ⟨rfl, rfl, rfl, rfl, rfl, rfl, rfl, rfl, and_f hc810 rfl⟩
              ·rintro f ⟨hf22, hf23, hf24, hf25, hf26, hf27, hf28, hf29, hf215⟩
               refine (JL.norm (i := 22) hf22 (JL.norm (i := 23) hf23 (JL.norm (i := 24) hf24 (JL.norm (i := 25) hf25 (JL.norm (i := 26) hf26 (JL.norm (i := 27) hf27 (JL.norm (i := 28) hf28 (JL.norm (i := 29) hf29 (JL.norm (i := 215) hf215 ?_)))))))))
               refine JL.move .none rfl ?_
               obtain ⟨p812, hp812, hF⟩ := bind_some hF
               refine JL.cut 4 (fun f => f 23 = .int .i64 y783.2 ∧ f 25 = .int .i64 y789.2 ∧ f 26 = .int .i64 y796.1 ∧ f 27 = .int .i64 y796.2 ∧ f 28 = .int .i64 y800.1 ∧ f 29 = .int .i64 y800.2 ∧ f 220 = .bool p812) ?_ ?_
               ·intro hJ813
                rcases ite_some hp812 with ⟨hc814, hF⟩ | ⟨hc814, hF⟩
                ·skip
                 refine JL.move (.some rfl rfl rfl hc814) rfl ?_
                 refine JL.move (.some rfl rfl rfl hc814) rfl ?_
                 obtain ⟨y815, hy815, hF⟩ := bind_some hF
                 refine JL.callS (c_law13_sameInts n H794 y783.1 y783a_v0 (SL.mono RInt.mono hs794 hy783a_0) y789.1 y789a_v0 hy789a_0 y815 hy815) rfl en_20 (.some rfl rfl rfl hc814) rfl ?_
                 refine JL.pick_t (b := ((((((y760.1 == y764.1) && (y760.2 == y764.2)) && ((y765.1.Low == y770.1.Low) && (y765.1.High == y770.1.High))) && (y765.2 == y770.2)) && ((y772.1.Low == y777.1.Low) && (y772.1.High == y777.1.High))) && (y772.2 == y777.2))) rfl hc814 .none rfl ?_
                 obtain rfl := Option.some.inj hF
                 exact hJ813 _ ⟨rfl, rfl, rfl, rfl, rfl, rfl, rfl⟩
                ·skip
                 refine JL.skip (.bool rfl rfl rfl hc814) rfl ?_
                 refine JL.skip (.bool rfl rfl rfl hc814) rfl ?_
                 refine JL.skip (.bool rfl rfl rfl hc814) rfl ?_
                 refine JL.pick_f (b := ((((((y760.1 == y764.1) && (y760.2 == y764.2)) && ((y765.1.Low == y770.1.Low) && (y765.1.High == y770.1.High))) && (y765.2 == y770.2)) && ((y772.1.Low == y777.1.Low) && (y772.1.High == y777.1.High))) && (y772.2 == y777.2))) rfl hc814 .none rfl ?_
                 obtain rfl := Option.some.inj hF
                 exact hJ813 _ ⟨rfl, rfl, rfl, rfl, rfl, rfl, rfl⟩
               ·rintro f ⟨hf23, hf25, hf26, hf27, hf28, hf29, hf220⟩
                refine (JL.norm (i := 23) hf23 (JL.norm (i := 25) hf25 (JL.norm (i := 26) hf26 (JL.norm (i := 27) hf27 (JL.norm (i := 28) hf28 (JL.norm (i := 29) hf29 (JL.norm (i := 220) hf220 ?_)))))))
                refine JL.move .none rfl ?_
                refine JL.cut 4 (fun f => f 26 = .int .i64 y796.1 ∧ f 27 = .int .i64 y796.2 ∧ f 28 = .int .i64 y800.1 ∧ f 29 = .int .i64 y800.2 ∧ f 225 = .bool (p812 && (y783.2 == y789.2))) ?_ ?_
                ·intro hJ816
                 rcases bcases p812 with hc817 | hc817
                 ·skip
                  refine JL.move (.some rfl rfl rfl hc817) rfl ?_
                  refine JL.move (.some rfl rfl rfl hc817) rfl ?_
                  refine JL.bin rfl rfl rfl (.some rfl rfl rfl hc817) rfl ?_
                  refine JL.pick_t (b := p812) rfl hc817 .none rfl ?_
                  exact hJ816 _ ⟨rfl, rfl, rfl, rfl, and_t hc817 rfl⟩
                 ·skip
                  refine JL.skip (.bool rfl rfl rfl hc817) rfl ?_
                  refine JL.skip (.bool rfl rfl rfl hc817) rfl ?_
                  refine JL.skip (.bool rfl rfl rfl hc817) rfl ?_
                  refine JL.pick_f (b := p812) rfl hc817 .none rfl ?_
                  exact hJ816 _ ⟨rfl, rfl, rfl, rfl, and_f hc817 rfl⟩
                ·rintro f ⟨hf26, hf27, hf28, hf29, hf225⟩
                 refine (JL.norm (i := 26) hf26 (JL.norm (i := 27) hf27 (JL.norm (i := 28) hf28 (JL.norm (i := 29) hf29 (JL.norm (i := 225) hf225 ?_)))))
                 refine JL.move .none rfl ?_
                 refine JL.cut 4 (fun f => f 27 = .int .i64 y796.2 ∧ f 29 = .int .i64 y800.2 ∧ f 230 = .bool ((p812 && (y783.2 == y789.2)) && (y796.1 == y800.1))) ?_ ?_
                 ·intro hJ818
                  rcases bcases (p812 && (y783.2 == y789.2)) with hc819 | hc819
                  ·skip
                   refine JL.move (.some rfl rfl rfl hc819) rfl ?_
                   refine JL.move (.some rfl rfl rfl hc819) rfl ?_
                   refine JL.bin rfl rfl rfl (.some rfl rfl rfl hc819) rfl ?_
                   refine JL.pick_t (b := (p812 && (y783.2 == y789.2))) rfl hc819 .none rfl ?_
                   exact hJ818 _ ⟨rfl, rfl, and_t hc819 rfl⟩
                  ·skip
                   refine JL.skip (.bool rfl rfl rfl hc819) rfl ?_
                   refine JL.skip (.bool rfl rfl rfl hc819) rfl ?_
                   refine JL.skip (.bool rfl rfl rfl hc819) rfl ?_
                   refine JL.pick_f (b := (p812 && (y783.2 == y789.2))) rfl hc819 .none rfl ?_
                   exact hJ818 _ ⟨rfl, rfl, and_f hc819 rfl⟩
                 ·rintro f ⟨hf27, hf29, hf230⟩
                  refine (JL.norm (i := 27) hf27 (JL.norm (i := 29) hf29 (JL.norm (i := 230) hf230 ?_)))
                  refine JL.move .none rfl ?_
                  refine JL.cut 4 (fun f => f 235 = .bool (((p812 && (y783.2 == y789.2)) && (y796.1 == y800.1)) && (y796.2 == y800.2))) ?_ ?_
                  ·intro hJ820
                   rcases bcases ((p812 && (y783.2 == y789.2)) && (y796.1 == y800.1)) with hc821 | hc821
                   ·skip
                    refine JL.move (.some rfl rfl rfl hc821) rfl ?_
                    refine JL.move (.some rfl rfl rfl hc821) rfl ?_
                    refine JL.bin rfl rfl rfl (.some rfl rfl rfl hc821) rfl ?_
                    refine JL.pick_t (b := ((p812 && (y783.2 == y789.2)) && (y796.1 == y800.1))) rfl hc821 .none rfl ?_
                    exact hJ820 _ (and_t hc821 rfl)
                   ·skip
                    refine JL.skip (.bool rfl rfl rfl hc821) rfl ?_
                    refine JL.skip (.bool rfl rfl rfl hc821) rfl ?_
                    refine JL.skip (.bool rfl rfl rfl hc821) rfl ?_
                    refine JL.pick_f (b := ((p812 && (y783.2 == y789.2)) && (y796.1 == y800.1))) rfl hc821 .none rfl ?_
                    exact hJ820 _ (and_f hc821 rfl)
                  ·rintro f hf235
                   refine (JL.norm (i := 235) hf235 ?_)
                   refine JL.move .none rfl ?_
                   obtain ⟨p823, hp823, hF⟩ := bind_some hF
                   refine JL.cut 2 (fun f => f 238 = .bool p823) ?_ ?_
                   ·intro hJ824
                    rcases ite_some hp823 with ⟨hc825, hF⟩ | ⟨hc825, hF⟩
                    ·skip
                     obtain ⟨y826, hy826, hF⟩ := bind_some hF
                     refine JL.callS (c_law13_works n H794 y826 hy826) rfl en_9 (.some rfl rfl rfl hc825) rfl ?_
                     refine JL.pick_t (b := (((p812 && (y783.2 == y789.2)) && (y796.1 == y800.1)) && (y796.2 == y800.2))) rfl hc825 .none rfl ?_
                     obtain rfl := Option.some.inj hF
                     exact hJ824 _ (rfl)
                    ·skip
                     refine JL.skip (.bool rfl rfl rfl hc825) rfl ?_
                     refine JL.pick_f (b := (((p812 && (y783.2 == y789.2)) && (y796.1 == y800.1)) && (y796.2 == y800.2))) rfl hc825 .none rfl ?_
                     obtain rfl := Option.some.inj hF
                     exact hJ824 _ (rfl)
                   ·rintro f hf238
                    refine (JL.norm (i := 238) hf238 ?_)
                    refine JL.assign .none rfl ?_
                    refine JL.done hQ ?_
                    refine JQ.go ?_
                    refine JC.ret ?_
                    obtain rfl := Option.some.inj hF
                    exact JQ.outS rfl (.tmp .nil) rfl

end Go.Proofs.Ytcipdblhopffbaa
end
section
namespace Go.Proofs.Ytcipdblhopffbaa
open Go Go.RowKit Go.Dec
/-- from another one on -/
def rotL {α : Type} (l : List α) (k : Nat) : List α := l.drop k ++ l.take k
theorem rotL_len {α : Type} (l : List α) (k : Nat) : (rotL l k).length = l.length := by simp [rotL]; omega
theorem rotL_count {α : Type} (p : α → Bool) (l : List α) (k : Nat) : (rotL l k).countP p = l.countP p := by
  unfold rotL
  rw [List.countP_append, Nat.add_comm, ← List.countP_append, List.take_append_drop]
theorem rotL_mem {α : Type} {x : α} {l : List α} {k : Nat} : x ∈ rotL l k ↔ x ∈ l := by
  unfold rotL
  rw [List.mem_append, Or.comm, ← List.mem_append, List.take_append_drop]
theorem rotL_get {α : Type} {l : List α} {b i : Nat} (hi : i < l.length) : (rotL l (b % l.length))[i]? = l[(i + b) % l.length]? := by
  have hk : b % l.length < l.length := Nat.mod_lt _ (by omega)
  have e : (i + b) % l.length = (i + b % l.length) % l.length := by rw [Nat.add_mod_mod]
  rw [e]
  unfold rotL
  by_cases h : i + b % l.length < l.length
  · rw [Nat.mod_eq_of_lt h, List.getElem?_append_left (by rw [List.length_drop]; omega), List.getElem?_drop]
    congr 1; omega
  · have e2 : (i + b % l.length) % l.length = i + b % l.length - l.length := by
      rw [Nat.mod_eq_sub_mod (by omega), Nat.mod_eq_of_lt (by omega)]
    rw [e2, List.getElem?_append_right (by rw [List.length_drop]; omega), List.length_drop, List.getElem?_take, if_pos (by omega)]
    congr 1; omega
theorem rotL_back {α : Type} (l : List α) {k : Nat} (hk : k ≤ l.length) : rotL (rotL l k) (l.length - k) = l := by
  unfold rotL
  have e : (l.drop k).length = l.length - k := List.length_drop
  rw [← e, List.drop_left, List.take_left, List.take_append_drop]
theorem loop_map {α : Type} (l : List α) (g : Nat → α → α) {step : Int × List α → Option ((Int × List α) ⊕ List α)} {n : Nat}
    (h : ∀ (i : Nat) (out : List α) x, out.length = l.length → out[i]? = some x → l[i]? = some x → step ((i : Int), out) = some (.inl (((i + 1 : Nat) : Int), setx out i (g i x))))
    (hd : ∀ out : List α, out.length = l.length → step ((l.length : Int), out) = some (.inr out)) (hn : l.length < n) : loopO n step (0, l) = some (l.zipIdx.map fun p => g p.2 p.1) := by
  have key := loop_run (step := step) (fun j => ((j : Int), ((l.zipIdx.take j).map fun p => g p.2 p.1) ++ l.drop j)) (r := l.zipIdx.map fun p => g p.2 p.1) l.length 0 n (fun j _ hj => by
    have hjl : j < l.length := by omega
    have e1 : ((l.zipIdx.take j).map fun p => g p.2 p.1).length = j := by simp; omega
    have hlen : (((l.zipIdx.take j).map fun p => g p.2 p.1) ++ l.drop j).length = l.length := by rw [List.length_append, e1, List.length_drop]; omega
    have hget : (((l.zipIdx.take j).map fun p => g p.2 p.1) ++ l.drop j)[j]? = some l[j] := by
      rw [List.getElem?_append_right (by omega), e1, List.getElem?_drop]
      simp [hjl]
    rw [h j _ l[j] hlen hget (List.getElem?_eq_getElem hjl)]
    congr 3
    unfold setx
    rw [Int.toNat_natCast, List.set_append_right _ _ (by omega), e1, Nat.sub_self, List.drop_eq_getElem_cons hjl, List.set_cons_zero]
    have hz : l.zipIdx[j]? = some (l[j], j) := by rw [List.getElem?_zipIdx, List.getElem?_eq_getElem hjl]; simp
    rw [List.take_add_one, hz]
    simp) (by
    simp only [Nat.zero_add]
    have e : ((l.zipIdx.take l.length).map fun p => g p.2 p.1) ++ l.drop l.length = l.zipIdx.map fun p => g p.2 p.1 := by
      rw [List.drop_length, List.append_nil, List.take_of_length_le (by simp)]
    rw [e]
    exact hd _ (by simp)) hn
  simpa using key
theorem rot_loop {α : Type} (l : List α) {step : Int × List α → Option ((Int × List α) ⊕ List α)} {n B : Nat} (hB : B ≤ 100) (hl : l.length ≤ 1000) (hn : 100000000 ≤ n)
    (h : ∀ s, step s = if decide (s.1 < (l.length : Int)) = true then (nz (l.length : Int)).bind fun _ => (geti l ((w64 (s.1 + (B : Int))).tmod (l.length : Int))).bind fun y => (geti s.2 s.1).bind fun _ => some (.inl (w64 (s.1 + 1), setx s.2 s.1 y)) else some (.inr s.2)) :
    loopO n step (0, l) = some (rotL l (B % l.length)) := by
  have hloop := loop_map l (fun i x => (l[(i + B) % l.length]?).getD x) (step := step) (n := n) (fun i out x hlen hx hlx => by
    have hi : i < l.length := (List.getElem?_eq_some_iff.1 hlx).1
    have hm : (i + B) % l.length < l.length := Nat.mod_lt _ (by omega)
    have em : (w64 ((i : Int) + (B : Int))).tmod (l.length : Int) = (((i + B) % l.length : Nat) : Int) := by
      rw [w64_id (by omega) (by omega), ← Int.natCast_add, ← Int.ofNat_tmod]
    simp only [h, lt_nat, hi, decide_true, if_true, nz_nat (show 0 < l.length by omega), Option.bind_some, em, geti_nat, hx, List.getElem?_eq_getElem hm, w64_nat (show i ≤ 4611686018427387904 by omega)]
    rfl) (fun out hlen => by simp [h]) (by omega)
  rw [hloop]
  congr 1
  apply List.ext_getElem?
  intro i
  rw [List.getElem?_map, List.getElem?_zipIdx]
  rcases Nat.lt_or_ge i l.length with hi | hi
  · have hm : (i + B) % l.length < l.length := Nat.mod_lt _ (by omega)
    rw [rotL_get hi, List.getElem?_eq_getElem hi, List.getElem?_eq_getElem hm]
    simp [List.getElem?_eq_getElem hm]
  · rw [List.getElem?_eq_none hi, List.getElem?_eq_none (by rw [rotL_len]; exact hi)]
    rfl
/-! ### the run from another one on -/
def rotR (r : Run) (B : Nat) : Run := ⟨r.Canopy, rotL r.Blows (B % r.Blows.length), rotL r.Meters (B % r.Meters.length), r.Wrong⟩
theorem rot_ok {r : Run} (h : ROk r) (B : Nat) : ROk (rotR r B) :=
  ⟨h.d, by show (rotL _ _).length ≤ 8; rw [rotL_len]; exact h.nb, by show (rotL _ _).length ≤ 5; rw [rotL_len]; exact h.nm, fun b hb => h.b b (rotL_mem.1 hb), fun m hm => h.m m (rotL_mem.1 hm), h.w⟩
theorem rot_above (c : List Int) (k : Nat) (x : Int) : aboveS (rotL c k) x = aboveS c x := rotL_count _ _ _
theorem rot_right (m : Meter) (c : List Int) (k : Nat) : rightC m (rotL c k) = rightC m c := by unfold rightC; rw [rot_above]
theorem rot_wrong (ms : List Meter) (c : List Int) (j k : Nat) : wrongC (rotL ms j) (rotL c k) = wrongC ms c := by
  unfold wrongC
  rw [rotL_count]
  congr 1
  funext m
  rw [rot_right]
theorem rotL_nil {α : Type} {l : List α} (h : l.length = 0) (k : Nat) : rotL l k = l := by
  have : l = [] := List.length_eq_zero_iff.1 h
  subst this; simp [rotL]
theorem rot_case {bl : List Blow} {B : Nat} {c : List Int} (h : c ∈ casesS bl) : rotL c (B % bl.length) ∈ casesS (rotL bl (B % bl.length)) := by
  obtain ⟨h1, h2⟩ := mem_cases.1 h
  refine mem_cases.2 ⟨by rw [rotL_len, rotL_len, h1], fun i b x hb hx => ?_⟩
  have hi : i < bl.length := by have := (List.getElem?_eq_some_iff.1 hb).1; rw [rotL_len] at this; exact this
  rw [rotL_get hi] at hb
  rw [← h1, rotL_get (by omega), h1] at hx
  exact h2 _ b x hb hx
theorem rot_case' {bl : List Blow} {B : Nat} {c : List Int} (h : c ∈ casesS (rotL bl (B % bl.length))) : ∃ d ∈ casesS bl, rotL d (B % bl.length) = c := by
  have hl := casesS_len h
  rw [rotL_len] at hl
  rcases Nat.eq_zero_or_pos bl.length with h0 | h0
  · rw [rotL_nil h0] at h
    exact ⟨c, h, rotL_nil (by omega) _⟩
  · have hk := Nat.mod_lt B h0
    refine ⟨rotL c (bl.length - B % bl.length), ?_, ?_⟩
    · have e : rotL (rotL bl (B % bl.length)) (bl.length - B % bl.length) = bl := rotL_back bl (by omega)
      rcases Nat.eq_zero_or_pos (B % bl.length) with h3 | h3
      · rw [h3] at h ⊢
        have e2 : rotL bl 0 = bl := by simp [rotL]
        rw [e2] at h
        have e3 : rotL c (bl.length - 0) = c := by unfold rotL; rw [Nat.sub_zero, ← hl]; simp
        rw [e3]; exact h
      · have h4 := rot_case (B := bl.length - B % bl.length) h
        rw [rotL_len, Nat.mod_eq_of_lt (show bl.length - B % bl.length < bl.length by omega), e] at h4
        exact h4
    · have h5 := rotL_back (k := bl.length - B % bl.length) c (by omega)
      rw [show c.length - (bl.length - B % bl.length) = B % bl.length by omega] at h5
      exact h5
theorem cases_nodup : ∀ (bl : List Blow), (casesS bl).Nodup
  | [] => by simp [casesS]
  | b :: bl => by
    unfold casesS
    have h := span_sorted b.Force.Low b.Force.High
    generalize span b.Force.Low b.Force.High = S at h
    unfold List.Nodup
    rw [List.pairwise_flatMap]
    refine ⟨fun f _ => ?_, h.imp fun {x y} hxy => ?_⟩
    · rw [List.pairwise_map]
      exact (cases_nodup bl).imp fun {u v} huv e => huv (by injection e)
    · intro u hu v hv e
      obtain ⟨u', _, rfl⟩ := List.mem_map.1 hu
      obtain ⟨v', _, rfl⟩ := List.mem_map.1 hv
      injection e with e1 _
      omega
theorem truths_nodup (r : Run) : (truthsC r).Nodup := (cases_nodup r.Blows).filter _
theorem rot_truth {r : Run} {B : Nat} {c : List Int} (h : c ∈ truthsC r) : rotL c (B % r.Blows.length) ∈ truthsC (rotR r B) := by
  unfold truthsC at h ⊢
  obtain ⟨h1, h2⟩ := List.mem_filter.1 h
  refine List.mem_filter.2 ⟨rot_case h1, ?_⟩
  simp only [truthC, rotR, rot_wrong, decide_eq_true_eq] at h2 ⊢
  exact h2
theorem rot_truth' {r : Run} {B : Nat} {c : List Int} (h : c ∈ truthsC (rotR r B)) : ∃ d ∈ truthsC r, rotL d (B % r.Blows.length) = c := by
  unfold truthsC at h
  obtain ⟨h1, h2⟩ := List.mem_filter.1 h
  obtain ⟨d, hd, e⟩ := rot_case' h1
  refine ⟨d, List.mem_filter.2 ⟨hd, ?_⟩, e⟩
  rw [← e] at h2
  simp only [truthC, rotR, rot_wrong, decide_eq_true_eq] at h2 ⊢
  exact h2
theorem rotL_inj {α : Type} {a b : List α} {k : Nat} (ha : k ≤ a.length) (hl : a.length = b.length) (h : rotL a k = rotL b k) : a = b := by
  rw [← rotL_back a ha, ← rotL_back b (k := k) (by omega), h, hl]
theorem rot_many (r : Run) (B : Nat) : (truthsC (rotR r B)).length = (truthsC r).length := by
  have hk : B % r.Blows.length ≤ r.Blows.length ∨ r.Blows.length = 0 := by
    rcases Nat.eq_zero_or_pos r.Blows.length with h | h
    · exact Or.inr h
    · exact Or.inl (Nat.le_of_lt (Nat.mod_lt _ h))
  have hp : (truthsC (rotR r B)).Perm ((truthsC r).map fun c => rotL c (B % r.Blows.length)) := by
    refine (List.perm_ext_iff_of_nodup (truths_nodup _) ?_).2 fun c => ⟨fun h => ?_, fun h => ?_⟩
    · unfold List.Nodup
      rw [List.pairwise_map]
      refine List.Pairwise.imp_of_mem (fun {a b} ha hb hab e => hab ?_) (truths_nodup r)
      have la := casesS_len (truth_case ha)
      have lb := casesS_len (truth_case hb)
      rcases hk with hk | hk
      · exact rotL_inj (by omega) (by omega) e
      · rw [List.length_eq_zero_iff.1 (la.trans hk), List.length_eq_zero_iff.1 (lb.trans hk)]
    · obtain ⟨d, hd, e⟩ := rot_truth' h
      exact List.mem_map.2 ⟨d, hd, e⟩
    · obtain ⟨d, hd, e⟩ := List.mem_map.1 h
      rw [← e]; exact rot_truth hd
  rw [hp.length_eq, List.length_map]
theorem rot_err {r : Run} (h : ROk r) (B : Nat) : errR (rotR r B) true = errR r true := by
  rw [errR_true h, errR_true (rot_ok h B)]
  have e := rot_many r B
  by_cases h0 : truthsC r = []
  · rw [if_pos h0, if_pos]
    rw [h0] at e
    exact List.length_eq_zero_iff.1 e
  · rw [if_neg h0, if_neg]
    intro h1
    rw [h1] at e
    exact h0 (List.length_eq_zero_iff.1 e.symm)
theorem rot_ask {a : Blow → Int → Bool} {bl : List Blow} {c : List Int} (h : c.length = bl.length) (k : Nat) : askN a (rotL bl k) (rotL c k) = askN a bl c := by
  unfold askN rotL
  rw [List.zip_append (by rw [List.length_drop, List.length_drop, h]), List.countP_append, Nat.add_comm, ← List.countP_append, ← List.zip_append (by rw [List.length_take, List.length_take, h]), List.take_append_drop, List.take_append_drop]
theorem rot_fmin {r : Run} (B : Nat) (a : Blow → Int → Bool) (s : Int) : fmin (fun c => (askN a (rotR r B).Blows c : Int)) (truthsC (rotR r B)) s = fmin (fun c => (askN a r.Blows c : Int)) (truthsC r) s := by
  refine fmin_eq (fun x hx => ?_) (fun y hy => ?_) s
  · obtain ⟨d, hd, e⟩ := rot_truth' hx
    exact ⟨d, hd, by rw [← e]; show _ = (askN a (rotL r.Blows _) _ : Int); rw [rot_ask (casesS_len (truth_case hd))]⟩
  · exact ⟨_, rot_truth (B := B) hy, by show (askN a (rotL r.Blows _) _ : Int) = _; rw [rot_ask (casesS_len (truth_case hy))]⟩
theorem rot_fmax {r : Run} (B : Nat) (a : Blow → Int → Bool) (s : Int) : fmax (fun c => (askN a (rotR r B).Blows c : Int)) (truthsC (rotR r B)) s = fmax (fun c => (askN a r.Blows c : Int)) (truthsC r) s := by
  refine fmax_eq (fun x hx => ?_) (fun y hy => ?_) s
  · obtain ⟨d, hd, e⟩ := rot_truth' hx
    exact ⟨d, hd, by rw [← e]; show _ = (askN a (rotL r.Blows _) _ : Int); rw [rot_ask (casesS_len (truth_case hd))]⟩
  · exact ⟨_, rot_truth (B := B) hy, by show (askN a (rotL r.Blows _) _ : Int) = _; rw [rot_ask (casesS_len (truth_case hy))]⟩
theorem rot_len (r : Run) (B : Nat) : (rotR r B).Blows.length = r.Blows.length := rotL_len _ _
theorem check_rot {r : Run} (h : ROk r) (B : Nat) (is : Bool) : errR (rotR r B) is = errR r is := by
  cases is with
  | true => exact rot_err h B
  | false =>
    have e1 := rot_err h B
    have h1 := errR_true h
    have h2 := errR_true (rot_ok h B)
    unfold errR at h1 h2 ⊢
    have c1 : checkR r = 0 := checkR_ok.2 h
    have c2 : checkR (rotR r B) = 0 := checkR_ok.2 (rot_ok h B)
    simp [c1, c2]
theorem rot_manyT {r : Run} (h : ROk r) (B : Nat) : manyT (rotR r B) = manyT r := by
  unfold manyT; rw [rot_err h, rot_many]
theorem rot_reads {r : Run} (h : ROk r) (B : Nat) (x : Int) : readsT (rotR r B) x = readsT r x := by
  unfold readsT boundsT
  rw [check_rot h, rot_fmin, rot_fmax, rot_len]
theorem rot_harm {r : Run} (h : ROk r) (B : Nat) : harmT (rotR r B) = harmT r := by
  unfold harmT
  rw [rot_err h, rot_fmin, rot_fmax, rot_len]
  rfl
theorem sorted_ext : ∀ {a b : List Int}, a.Pairwise (· < ·) → b.Pairwise (· < ·) → (∀ x, x ∈ a ↔ x ∈ b) → a = b := by
  intro a b ha hb h
  have na : a.Nodup := ha.imp fun {x y} hxy => by omega
  have nb : b.Nodup := hb.imp fun {x y} hxy => by omega
  have hp := (List.perm_ext_iff_of_nodup na nb).2 h
  exact List.Perm.eq_of_pairwise (le := (· < ·)) (fun x y _ _ h1 h2 => by omega) ha hb hp
theorem rot_forces {r : Run} (h : ROk r) (B i : Nat) (hi : i < r.Blows.length) : forcesL (rotR r B) (i : Int) = forcesL r (((i + B) % r.Blows.length : Nat) : Int) := by
  have hm : (i + B) % r.Blows.length < r.Blows.length := Nat.mod_lt _ (by omega)
  refine sorted_ext (forces_sorted _ _) (forces_sorted _ _) fun f => ?_
  rw [forces_mem (rot_ok h B) (by omega) (by rw [rot_len]; omega), forces_mem h (by omega) (by omega)]
  simp only [Int.toNat_natCast]
  constructor
  · rintro ⟨c, hc, e⟩
    obtain ⟨d, hd, rfl⟩ := rot_truth' hc
    have hl := casesS_len (truth_case hd)
    rw [← hl, rotL_get (by omega), hl] at e
    exact ⟨d, hd, e⟩
  · rintro ⟨d, hd, e⟩
    have hl := casesS_len (truth_case hd)
    refine ⟨_, rot_truth (B := B) hd, ?_⟩
    rw [← hl, rotL_get (by omega), hl]
    exact e
theorem rot_meter {r : Run} (B i : Nat) (hi : i < r.Meters.length) : meterAt (rotR r B) (i : Int) = meterAt r (((i + B) % r.Meters.length : Nat) : Int) := by
  unfold meterAt rotR
  simp only [Int.toNat_natCast]
  rw [rotL_get hi]
theorem rot_all {r : Run} (B : Nat) (p : List Int → Bool) (hp : ∀ c k, p (rotL c k) = p c) : (truthsC (rotR r B)).all p = (truthsC r).all p := by
  rw [Bool.eq_iff_iff, List.all_eq_true, List.all_eq_true]
  constructor
  · intro h c hc
    have := h _ (rot_truth (B := B) hc)
    rwa [hp] at this
  · intro h c hc
    obtain ⟨d, hd, rfl⟩ := rot_truth' hc
    rw [hp]; exact h d hd
theorem law_CountsOrder (r : Run) (by_ : Int) (x : law13_Ask) (_ : W_Run r) (_ : I64 by_) (_ : W_law13_Ask x) : ∃ n, F_law13_CountsOrder n r by_ x = some true := by
  have hn : 100000000 ≤ 100000000 := Nat.le_refl _
  refine ⟨100000000, ?_⟩
  have hw := works13 hn
  simp only [F_law13_CountsOrder]
  rcases p_ready hn r with h | ⟨h, hr⟩
  · simp [h, hw]
  · simp only [h, Option.bind_some, Bool.not_true, Bool.false_or]
    split
    · rw [hw]; rfl
    · rename_i hC
      simp only [Bool.or_eq_true, decide_eq_true_eq, not_or] at hC
      obtain ⟨⟨⟨⟨⟨c1, c2⟩, c3⟩, c4⟩, c5⟩, c6⟩ := hC
      obtain ⟨B, rfl⟩ : ∃ B : Nat, by_ = B := ⟨by_.toNat, by omega⟩
      obtain ⟨i, hi⟩ : ∃ i : Nat, x.Blow = i := ⟨x.Blow.toNat, by omega⟩
      obtain ⟨m, hm⟩ : ∃ m : Nat, x.Meter = m := ⟨x.Meter.toNat, by omega⟩
      have hs := hr.small
      have ho := rot_ok hr B
      have hos := ho.small
      have nb := hr.nb
      have nm := hr.nm
      rw [hi] at c3 c4
      rw [hm] at c5 c6
      have l1 := rot_loop r.Blows (step := F_law13_CountsOrder_s1 100000000 r (B : Int)) (B := B) (by omega) (by omega) hn (fun s => rfl)
      have l2 := rot_loop r.Meters (step := F_law13_CountsOrder_s2 100000000 r (B : Int)) (B := B) (by omega) (by omega) hn (fun s => rfl)
      have e1 : (w64 ((i : Int) + (B : Int))).tmod (r.Blows.length : Int) = (((i + B) % r.Blows.length : Nat) : Int) := by
        rw [w64_id (by omega) (by omega), ← Int.natCast_add, ← Int.ofNat_tmod]
      have e2 : (w64 ((m : Int) + (B : Int))).tmod (r.Meters.length : Int) = (((m + B) % r.Meters.length : Nat) : Int) := by
        rw [w64_id (by omega) (by omega), ← Int.natCast_add, ← Int.ofNat_tmod]
      have m1 : (i + B) % r.Blows.length < r.Blows.length := Nat.mod_lt _ (by omega)
      have m2 : (m + B) % r.Meters.length < r.Meters.length := Nat.mod_lt _ (by omega)
      simp only [p_Copy13 hn hs, Option.bind_some, l1, l2]
      rw [show (⟨r.Canopy, rotL r.Blows (B % r.Blows.length), rotL r.Meters (B % r.Meters.length), r.Wrong⟩ : Run) = rotR r B from rfl]
      simp only [p_Many hn hs, p_Many hn hos, p_Reads hn hs, p_Reads hn hos, p_Harm hn hs, p_Harm hn hos, p_Forces hn hs, p_Forces hn hos, p_Right hn hs, p_Right hn hos, Option.bind_some, nz_nat (show 0 < r.Blows.length by omega), nz_nat (show 0 < r.Meters.length by omega), hi, hm, e1, e2, rot_manyT hr, rot_reads hr, rot_harm hr]
      have f1 : forcesT (rotR r B) (i : Int) = forcesT r (((i + B) % r.Blows.length : Nat) : Int) := by
        rw [forces_in (r := rotR r B) (by omega) (by rw [rot_len]; omega), forces_in (r := r) (by omega) (by omega), rot_err hr, rot_forces hr B i (by omega)]
      have f2 : rightT (rotR r B) (m : Int) = rightT r (((m + B) % r.Meters.length : Nat) : Int) := by
        rw [right_in (r := rotR r B) (by omega) (by show _ < ((rotL r.Meters _).length : Int); rw [rotL_len]; omega), right_in (r := r) (by omega) (by omega), rot_err hr, rot_meter B m (by omega), rot_all B _ (fun c k => rot_right _ c k), rot_all B _ (fun c k => by rw [rot_right])]
      have f3 : (forcesT r (((i + B) % r.Blows.length : Nat) : Int)).1.length ≤ 1000 := by
        rw [forces_in (r := r) (by omega) (by omega)]
        split
        · have := forces_len hr (i := (((i + B) % r.Blows.length : Nat) : Int)) (by omega) (by omega)
          simp only; omega
        · simp
      simp only [f1, f2, p_sameI hn f3, beq_self_eq_true, Bool.and_self, decide_true, if_true, Option.bind_some, hw]
end Go.Proofs.Ytcipdblhopffbaa
end
