/-
  A part of the proof of CDome: the texts GCountsDome.
-/
import Derived.Test.YtcipdblhopffbaaJCDome13
section
namespace Go.Proofs.Ytcipdblhopffbaa
open Go Go.RowKit Go.Dec
set_option linter.unusedVariables false
-- 4 ferrule/ferrulelaw13.CountsDome
noncomputable def F_law13_CountsDome (n : Nat) (r : Run) (x_ : law13_Stronger) : Option Bool :=
 (F_law13_ready n r).bind fun y3 => (if (!y3) = true then (some true) else ((F_ref05_IsRib n r.Canopy x_.Rib).bind fun y8 => some (!y8)) : Option Bool).bind fun p5 => if ((((p5 || (decide (x_.By < 0))) || (decide (99999 < x_.By))) || (decide (x_.Blow < 0))) || (decide ((r.Blows.length : Int) ≤ x_.Blow))) = true then ((F_law13_works n).bind fun y18 => some y18) else ((F_counts_Stood n r).bind fun y19 => (F_counts_Harm n r).bind fun y20 => (F_counts_Forces n r x_.Blow).bind fun y22 => if ((((y19.2 != y20.2) || (y19.2 != y22.2)) || ((y19.2 != 0) && (y19.2 != 3))) || ((y19.2 == 0) && (((y22.1.length : Int) == 0) || (decide (20 < (y22.1.length : Int)))))) = true then (some false) else (if (y19.2 != 0) = true then ((F_law13_works n).bind fun y49 => some y49) else (if ((((((((y19.1 == 1) != (y20.1.High == 0)) || ((y19.1 == 2) != (decide (0 < y20.1.Low)))) || (decide (y20.1.Low < 0))) || (decide (y20.1.High < y20.1.Low))) || (decide ((r.Blows.length : Int) < y20.1.High))) || (decide (y19.1 < 1))) || (decide (3 < y19.1))) = true then (some false) else ((geti y22.1 0).bind fun y63 => (if decide (y63 < 0) = true then (some true) else ((geti y22.1 (w64 ((y22.1.length : Int) - 1))).bind fun y76 => some (decide (99 < y76))) : Option Bool).bind fun p73 => if p73 = true then (some false) else ((geti y22.1 0).bind fun y92 => (geti r.Blows x_.Blow).bind fun y97 => (F_gusts_Stands n r.Canopy [(Gust.mk y92 y97.At)]).bind fun y106 => (geti y22.1 (w64 ((y22.1.length : Int) - 1))).bind fun y157 => (geti r.Blows x_.Blow).bind fun y162 => (F_gusts_Stands n r.Canopy [(Gust.mk y157 y162.At)]).bind fun y171 => if ((((y106.2 != 0) || (y171.2 != 0)) || ((y106.1 == 2) && (y19.1 != 2))) || ((y171.1 != 1) && (y19.1 == 1))) = true then (some false) else ((F_ref13_Copy n r).bind fun y227 => (geti y227.Canopy.Ribs x_.Rib).bind fun y241 => (geti y227.Canopy.Ribs x_.Rib).bind fun y245 => (F_counts_Harm n (Run.mk (Canopy.mk y227.Canopy.Frame (setx y227.Canopy.Ribs x_.Rib (Span.mk (min 99999 (w64 (y241.Low + x_.By))) (min 99999 (w64 (y241.High + x_.By))))) y227.Canopy.Shares) y227.Blows y227.Meters y227.Wrong)).bind fun y260 => (if (((y260.2 == 0) && (decide (y260.1.Low ≤ y20.1.Low))) && (decide (y260.1.High ≤ y20.1.High))) = true then ((F_law13_works n).bind fun y270 => some y270) else (some false) : Option Bool).bind fun p267 => some p267))))))
set_option maxRecDepth 100000 in
set_option maxHeartbeats 40000000 in
theorem c_law13_CountsDome (n : Nat) (H : Hp) (r : Run) (r_v0 : Value) (hr_0 : SL H 7 R_Section r_v0 r.Canopy.Frame.Sections) (r_v7 : Value) (hr_7 : SL H 2 R_Span r_v7 r.Canopy.Ribs) (r_v8 : Value) (hr_8 : SL H 1 RInt r_v8 r.Canopy.Shares) (r_v9 : Value) (hr_9 : SL H 3 R_Blow r_v9 r.Blows) (r_v10 : Value) (hr_10 : SL H 2 R_Meter r_v10 r.Meters) (x_ : law13_Stronger) (y : Bool) (hF : F_law13_CountsDome n r x_ = some y) : SC Try.prog 4 [.agg [r_v0, .int .i64 r.Canopy.Frame.Low, .int .i64 r.Canopy.Frame.High, .int .i64 r.Canopy.Frame.Ease.Num, .int .i64 r.Canopy.Frame.Ease.Den, .int .i64 r.Canopy.Frame.Rod, .int .i64 r.Canopy.Frame.Case, r_v7, r_v8, r_v9, r_v10, .int .i64 r.Wrong].toArray, .agg [.int .i64 x_.Rib, .int .i64 x_.By, .int .i64 x_.Blow].toArray] (.bool y) H := by
 rw [F_law13_CountsDome] at hF
 refine SC.of (N := 272) Try.func4 rfl rfl rfl fun w => ?_
 refine JC.seq ?_
 refine JC.region (by rfl) ?_
 intro hQ
 refine JL.box (cs := [r_v0, .int .i64 r.Canopy.Frame.Low, .int .i64 r.Canopy.Frame.High, .int .i64 r.Canopy.Frame.Ease.Num, .int .i64 r.Canopy.Frame.Ease.Den, .int .i64 r.Canopy.Frame.Rod, .int .i64 r.Canopy.Frame.Case, r_v7, r_v8, r_v9, r_v10, .int .i64 r.Wrong]) rfl .none rfl ?_
 intro b1
 refine JL.box (cs := [.int .i64 x_.Rib, .int .i64 x_.By, .int .i64 x_.Blow]) rfl .none rfl ?_
 intro b2
 refine JL.assign .none rfl ?_
 refine JL.done hQ ?_
 refine JQ.go ?_
 refine JC.seq ?_
 refine JC.seq ?_
 refine JC.region (by rfl) ?_
 intro hQ
 refine JL.loadOwn 1 az_34 rfl rfl rfl .none rfl ?_
 obtain ⟨y3, hy3, hF⟩ := bind_some hF
 refine JL.callS (c_law13_ready n H r r_v0 hr_0 r_v7 hr_7 r_v8 hr_8 r_v9 hr_9 r_v10 hr_10 y3 hy3) rfl en_8 .none rfl ?_
 refine JL.not rfl .none rfl ?_
 refine JL.move .none rfl ?_
 obtain ⟨p5, hp5, hF⟩ := bind_some hF
 refine JL.cut 7 (fun f => f 2 = .pointer (some ⟨b1, 0, none⟩) ∧ f 3 = .pointer (some ⟨b2, 0, none⟩) ∧ f 29 = .bool p5) ?_ ?_
 ·intro hJ6
  rcases ite_some hp5 with ⟨hc7, hF⟩ | ⟨hc7, hF⟩
  ·skip
   refine JL.skip (.bool rfl rfl rfl hc7) rfl ?_
   refine JL.skip (.bool rfl rfl rfl hc7) rfl ?_
   refine JL.skip (.bool rfl rfl rfl hc7) rfl ?_
   refine JL.skip (.bool rfl rfl rfl hc7) rfl ?_
   refine JL.skip (.bool rfl rfl rfl hc7) rfl ?_
   refine JL.skip (.bool rfl rfl rfl hc7) rfl ?_
   refine JL.pick_t (b := (!y3)) rfl hc7 .none rfl ?_
   obtain rfl := Option.some.inj hF
   exact hJ6 _ ⟨rfl, rfl, rfl⟩
  ·skip
   refine JL.fieldAddr fo_34_0 rfl (.some rfl rfl rfl hc7) rfl ?_
   refine JL.loadOwn 1 az_30 rfl rfl rfl (.some rfl rfl rfl hc7) rfl ?_
   refine JL.fieldAddr fo_43_0 rfl (.some rfl rfl rfl hc7) rfl ?_
   refine JL.loadOwn 0 az_3 rfl rfl rfl (.some rfl rfl rfl hc7) rfl ?_
   obtain ⟨y8, hy8, hF⟩ := bind_some hF
   refine JL.callS (c_ref05_IsRib n H r.Canopy r_v0 hr_0 r_v7 hr_7 r_v8 hr_8 x_.Rib y8 hy8) rfl en_12 (.some rfl rfl rfl hc7) rfl ?_
   refine JL.not rfl (.some rfl rfl rfl hc7) rfl ?_
   refine JL.pick_f (b := (!y3)) rfl hc7 .none rfl ?_
   obtain rfl := Option.some.inj hF
   exact hJ6 _ ⟨rfl, rfl, rfl⟩
 ·rintro f ⟨hf2, hf3, hf29⟩
  refine (JL.norm (i := 2) hf2 (JL.norm (i := 3) hf3 (JL.norm (i := 29) hf29 ?_)))
  refine JL.move .none rfl ?_
  refine JL.cut 4 (fun f => f 2 = .pointer (some ⟨b1, 0, none⟩) ∧ f 3 = .pointer (some ⟨b2, 0, none⟩) ∧ f 34 = .bool (p5 || (decide (x_.By < 0)))) ?_ ?_
  ·intro hJ9
   rcases bcases p5 with hc10 | hc10
   ·skip
    refine JL.skip (.bool rfl rfl rfl hc10) rfl ?_
    refine JL.skip (.bool rfl rfl rfl hc10) rfl ?_
    refine JL.skip (.bool rfl rfl rfl hc10) rfl ?_
    refine JL.pick_t (b := p5) rfl hc10 .none rfl ?_
    exact hJ9 _ ⟨rfl, rfl, or_t hc10 rfl⟩
   ·skip
    refine JL.fieldAddr fo_43_1 rfl (.some rfl rfl rfl hc10) rfl ?_
    refine JL.loadOwn 0 az_3 rfl rfl rfl (.some rfl rfl rfl hc10) rfl ?_
    refine JL.bin rfl rfl rfl (.some rfl rfl rfl hc10) rfl ?_
    refine JL.pick_f (b := p5) rfl hc10 .none rfl ?_
    exact hJ9 _ ⟨rfl, rfl, or_f hc10 rfl⟩
  ·rintro f ⟨hf2, hf3, hf34⟩
   refine (JL.norm (i := 2) hf2 (JL.norm (i := 3) hf3 (JL.norm (i := 34) hf34 ?_)))
   refine JL.move .none rfl ?_
   refine JL.cut 4 (fun f => f 2 = .pointer (some ⟨b1, 0, none⟩) ∧ f 3 = .pointer (some ⟨b2, 0, none⟩) ∧ f 39 = .bool ((p5 || (decide (x_.By < 0))) || (decide (99999 < x_.By)))) ?_ ?_
   ·intro hJ11
    rcases bcases (p5 || (decide (x_.By < 0))) with hc12 | hc12
    ·skip
     refine JL.skip (.bool rfl rfl rfl hc12) rfl ?_
     refine JL.skip (.bool rfl rfl rfl hc12) rfl ?_
     refine JL.skip (.bool rfl rfl rfl hc12) rfl ?_
     refine JL.pick_t (b := (p5 || (decide (x_.By < 0)))) rfl hc12 .none rfl ?_
     exact hJ11 _ ⟨rfl, rfl, or_t hc12 rfl⟩
    ·skip
     refine JL.fieldAddr fo_43_1 rfl (.some rfl rfl rfl hc12) rfl ?_
     refine JL.loadOwn 0 az_3 rfl rfl rfl (.some rfl rfl rfl hc12) rfl ?_
     refine JL.bin rfl rfl rfl (.some rfl rfl rfl hc12) rfl ?_
     refine JL.pick_f (b := (p5 || (decide (x_.By < 0)))) rfl hc12 .none rfl ?_
     exact hJ11 _ ⟨rfl, rfl, or_f hc12 rfl⟩
   ·rintro f ⟨hf2, hf3, hf39⟩
    refine (JL.norm (i := 2) hf2 (JL.norm (i := 3) hf3 (JL.norm (i := 39) hf39 ?_)))
    refine JL.move .none rfl ?_
    refine JL.cut 4 (fun f => f 2 = .pointer (some ⟨b1, 0, none⟩) ∧ f 3 = .pointer (some ⟨b2, 0, none⟩) ∧ f 44 = .bool (((p5 || (decide (x_.By < 0))) || (decide (99999 < x_.By))) || (decide (x_.Blow < 0)))) ?_ ?_
    ·intro hJ13
     rcases bcases ((p5 || (decide (x_.By < 0))) || (decide (99999 < x_.By))) with hc14 | hc14
     ·skip
      refine JL.skip (.bool rfl rfl rfl hc14) rfl ?_
      refine JL.skip (.bool rfl rfl rfl hc14) rfl ?_
      refine JL.skip (.bool rfl rfl rfl hc14) rfl ?_
      refine JL.pick_t (b := ((p5 || (decide (x_.By < 0))) || (decide (99999 < x_.By)))) rfl hc14 .none rfl ?_
      exact hJ13 _ ⟨rfl, rfl, or_t hc14 rfl⟩
     ·skip
      refine JL.fieldAddr fo_43_2 rfl (.some rfl rfl rfl hc14) rfl ?_
      refine JL.loadOwn 0 az_3 rfl rfl rfl (.some rfl rfl rfl hc14) rfl ?_
      refine JL.bin rfl rfl rfl (.some rfl rfl rfl hc14) rfl ?_
      refine JL.pick_f (b := ((p5 || (decide (x_.By < 0))) || (decide (99999 < x_.By)))) rfl hc14 .none rfl ?_
      exact hJ13 _ ⟨rfl, rfl, or_f hc14 rfl⟩
    ·rintro f ⟨hf2, hf3, hf44⟩
     refine (JL.norm (i := 2) hf2 (JL.norm (i := 3) hf3 (JL.norm (i := 44) hf44 ?_)))
     refine JL.move .none rfl ?_
     refine JL.cut 7 (fun f => f 2 = .pointer (some ⟨b1, 0, none⟩) ∧ f 3 = .pointer (some ⟨b2, 0, none⟩) ∧ f 52 = .bool ((((p5 || (decide (x_.By < 0))) || (decide (99999 < x_.By))) || (decide (x_.Blow < 0))) || (decide ((r.Blows.length : Int) ≤ x_.Blow)))) ?_ ?_
     ·intro hJ15
      rcases bcases (((p5 || (decide (x_.By < 0))) || (decide (99999 < x_.By))) || (decide (x_.Blow < 0))) with hc16 | hc16
      ·skip
       refine JL.skip (.bool rfl rfl rfl hc16) rfl ?_
       refine JL.skip (.bool rfl rfl rfl hc16) rfl ?_
       refine JL.skip (.bool rfl rfl rfl hc16) rfl ?_
       refine JL.skip (.bool rfl rfl rfl hc16) rfl ?_
       refine JL.skip (.bool rfl rfl rfl hc16) rfl ?_
       refine JL.skip (.bool rfl rfl rfl hc16) rfl ?_
       refine JL.pick_t (b := (((p5 || (decide (x_.By < 0))) || (decide (99999 < x_.By))) || (decide (x_.Blow < 0)))) rfl hc16 .none rfl ?_
       exact hJ15 _ ⟨rfl, rfl, or_t hc16 rfl⟩
      ·skip
       refine JL.fieldAddr fo_43_2 rfl (.some rfl rfl rfl hc16) rfl ?_
       refine JL.loadOwn 0 az_3 rfl rfl rfl (.some rfl rfl rfl hc16) rfl ?_
       refine JL.fieldAddr fo_34_1 rfl (.some rfl rfl rfl hc16) rfl ?_
       refine JL.loadOwn 1 az_31 rfl rfl rfl (.some rfl rfl rfl hc16) rfl ?_
       refine JL.lenSL (R := R_Blow) ul_31 hr_9 (.some rfl rfl rfl hc16) rfl ?_
       refine JL.bin rfl rfl rfl (.some rfl rfl rfl hc16) rfl ?_
       refine JL.pick_f (b := (((p5 || (decide (x_.By < 0))) || (decide (99999 < x_.By))) || (decide (x_.Blow < 0)))) rfl hc16 .none rfl ?_
       exact hJ15 _ ⟨rfl, rfl, or_f hc16 rfl⟩
     ·rintro f ⟨hf2, hf3, hf52⟩
      refine (JL.norm (i := 2) hf2 (JL.norm (i := 3) hf3 (JL.norm (i := 52) hf52 ?_)))
      refine JL.done hQ ?_
      refine JQ.go ?_
      rcases ite_some hF with ⟨hc17, hF⟩ | ⟨hc17, hF⟩
      ·refine JC.cond_t (b := ((((p5 || (decide (x_.By < 0))) || (decide (99999 < x_.By))) || (decide (x_.Blow < 0))) || (decide ((r.Blows.length : Int) ≤ x_.Blow)))) rfl hc17 ?_
       refine JC.seq ?_
       refine JC.region (by rfl) ?_
       intro hQ
       obtain ⟨y18, hy18, hF⟩ := bind_some hF
       refine JL.callS (c_law13_works n H y18 hy18) rfl en_9 .none rfl ?_
       refine JL.assign .none rfl ?_
       refine JL.done hQ ?_
       refine JQ.go ?_
       refine JC.ret ?_
       refine JQ.ret_then ?_
       obtain rfl := Option.some.inj hF
       exact JQ.outS rfl (.tmp .nil) rfl
      ·refine JC.cond_f (b := ((((p5 || (decide (x_.By < 0))) || (decide (99999 < x_.By))) || (decide (x_.Blow < 0))) || (decide ((r.Blows.length : Int) ≤ x_.Blow)))) rfl hc17 ?_
       refine JC.skip ?_
       refine JQ.go ?_
       refine JC.seq ?_
       refine JC.region (by rfl) ?_
       intro hQ
       refine JL.loadOwn 1 az_34 rfl rfl rfl .none rfl ?_
       obtain ⟨y19, hy19, hF⟩ := bind_some hF
       refine JL.callS (c_counts_Stood n H r r_v0 hr_0 r_v7 hr_7 r_v8 hr_8 r_v9 hr_9 r_v10 hr_10 y19 hy19) rfl en_13 .none rfl ?_
       refine JL.move .none rfl ?_
       refine JL.extract rfl rfl .none rfl ?_
       refine JL.extract rfl rfl .none rfl ?_
       refine JL.assign .none rfl ?_
       refine JL.assign .none rfl ?_
       refine JL.done hQ ?_
       refine JQ.go ?_
       refine JC.seq ?_
       refine JC.region (by rfl) ?_
       intro hQ
       refine JL.loadOwn 1 az_34 rfl rfl rfl .none rfl ?_
       obtain ⟨y20, hy20, hF⟩ := bind_some hF
       refine JL.callS (c_counts_Harm n H r r_v0 hr_0 r_v7 hr_7 r_v8 hr_8 r_v9 hr_9 r_v10 hr_10 y20 hy20) rfl en_14 .none rfl ?_
       refine JL.move .none rfl ?_
       refine JL.extract rfl rfl .none rfl ?_
       refine JL.extract rfl rfl .none rfl ?_
       refine JL.alloc ze_49 .none rfl ?_
       intro b21
       refine JL.storeOwn 0 (cs := [.int .i64 y20.1.Low, .int .i64 y20.1.High]) az_49 rfl rfl rfl (one_cons rfl (one_cons rfl one_nil)) rfl rfl .none ?_
       refine JL.assign .none rfl ?_
       refine JL.done hQ ?_
       refine JQ.go ?_
       refine JC.fresh (fun f => f 2 = .pointer (some ⟨b1, 0, none⟩) ∧ f 3 = .pointer (some ⟨b2, 0, none⟩) ∧ f 5 = .int .i64 y19.1 ∧ f 6 = .int .i64 y19.2 ∧ f 7 = .pointer (some ⟨b21, 0, none⟩) ∧ f 8 = .int .i64 y20.2) ⟨rfl, rfl, rfl, rfl, rfl, rfl⟩ ?_
       rintro f ⟨hf2, hf3, hf5, hf6, hf7, hf8⟩
       refine (JC.norm (i := 2) hf2 (JC.norm (i := 3) hf3 (JC.norm (i := 5) hf5 (JC.norm (i := 6) hf6 (JC.norm (i := 7) hf7 (JC.norm (i := 8) hf8 ?_))))))
       refine JC.seq ?_
       refine JC.region (by rfl) ?_
       intro hQ
       refine JL.loadOwn 2 az_34 rfl rfl rfl .none rfl ?_
       refine JL.fieldAddr fo_43_2 rfl .none rfl ?_
       refine JL.loadOwn 1 az_3 rfl rfl rfl .none rfl ?_
       obtain ⟨y22, hy22, hF⟩ := bind_some hF
       refine JL.callH (c_counts_Forces n H r r_v0 hr_0 r_v7 hr_7 r_v8 hr_8 r_v9 hr_9 r_v10 hr_10 x_.Blow y22 hy22) rfl en_15 .none rfl ?_
       rintro H23 vv24 hs23 ⟨y22a_v0, rfl, hy22a_0⟩
       refine JL.move .none rfl ?_
       refine JL.extract rfl rfl .none rfl ?_
       refine JL.extract rfl rfl .none rfl ?_
       refine JL.assign .none rfl ?_
       refine JL.assign .none rfl ?_
       refine JL.done hQ ?_
       refine JQ.go ?_
       refine JC.seq ?_
       refine JC.seq ?_
       refine JC.region (by rfl) ?_
       intro hQ
       refine JL.move .none rfl ?_
       refine JL.move .none rfl ?_
       refine JL.bin rfl rfl rfl .none rfl ?_
       refine JL.move .none rfl ?_
       refine JL.cut 4 (fun f => f 2 = .pointer (some ⟨b1, 0, none⟩) ∧ f 3 = .pointer (some ⟨b2, 0, none⟩) ∧ f 5 = .int .i64 y19.1 ∧ f 6 = .int .i64 y19.2 ∧ f 7 = .pointer (some ⟨b21, 0, none⟩) ∧ f 9 = y22a_v0 ∧ f 78 = .bool ((y19.2 != y20.2) || (y19.2 != y22.2))) ?_ ?_
       ·intro hJ25
        rcases bcases (y19.2 != y20.2) with hc26 | hc26
        ·skip
         refine JL.skip (.bool rfl rfl rfl hc26) rfl ?_
         refine JL.skip (.bool rfl rfl rfl hc26) rfl ?_
         refine JL.skip (.bool rfl rfl rfl hc26) rfl ?_
         refine JL.pick_t (b := (y19.2 != y20.2)) rfl hc26 .none rfl ?_
         exact hJ25 _ ⟨rfl, rfl, rfl, rfl, rfl, rfl, or_t hc26 rfl⟩
        ·skip
         refine JL.move (.some rfl rfl rfl hc26) rfl ?_
         refine JL.move (.some rfl rfl rfl hc26) rfl ?_
         refine JL.bin rfl rfl rfl (.some rfl rfl rfl hc26) rfl ?_
         refine JL.pick_f (b := (y19.2 != y20.2)) rfl hc26 .none rfl ?_
         exact hJ25 _ ⟨rfl, rfl, rfl, rfl, rfl, rfl, or_f hc26 rfl⟩
       ·rintro f ⟨hf2, hf3, hf5, hf6, hf7, hf9, hf78⟩
        refine (JL.norm (i := 2) hf2 (JL.norm (i := 3) hf3 (JL.norm (i := 5) hf5 (JL.norm (i := 6) hf6 (JL.norm (i := 7) hf7 (JL.norm (i := 9) hf9 (JL.norm (i := 78) hf78 ?_)))))))
        refine JL.move .none rfl ?_
        refine JL.cut 7 (fun f => f 2 = .pointer (some ⟨b1, 0, none⟩) ∧ f 3 = .pointer (some ⟨b2, 0, none⟩) ∧ f 5 = .int .i64 y19.1 ∧ f 6 = .int .i64 y19.2 ∧ f 7 = .pointer (some ⟨b21, 0, none⟩) ∧ f 9 = y22a_v0 ∧ f 86 = .bool (((y19.2 != y20.2) || (y19.2 != y22.2)) || ((y19.2 != 0) && (y19.2 != 3)))) ?_ ?_
        ·intro hJ29
         rcases bcases ((y19.2 != y20.2) || (y19.2 != y22.2)) with hc30 | hc30
         ·skip
          refine JL.skip (.bool rfl rfl rfl hc30) rfl ?_
          refine JL.skip (.bool rfl rfl rfl hc30) rfl ?_
          refine JL.skip (.bool rfl rfl rfl hc30) rfl ?_
          refine JL.skip (.no rfl rfl rfl) rfl ?_
          refine JL.skip (.no rfl rfl rfl) rfl ?_
          refine JL.skip (.bool rfl rfl rfl hc30) rfl ?_
          refine JL.pick_t (b := ((y19.2 != y20.2) || (y19.2 != y22.2))) rfl hc30 .none rfl ?_
          exact hJ29 _ ⟨rfl, rfl, rfl, rfl, rfl, rfl, or_t hc30 rfl⟩
         ·skip
          refine JL.move (.some rfl rfl rfl hc30) rfl ?_
          refine JL.bin rfl rfl rfl (.some rfl rfl rfl hc30) rfl ?_
          refine JL.move (.some rfl rfl rfl hc30) rfl ?_
          refine JL.cut 3 (fun f => f 2 = .pointer (some ⟨b1, 0, none⟩) ∧ f 3 = .pointer (some ⟨b2, 0, none⟩) ∧ f 5 = .int .i64 y19.1 ∧ f 6 = .int .i64 y19.2 ∧ f 7 = .pointer (some ⟨b21, 0, none⟩) ∧ f 9 = y22a_v0 ∧ f 79 = .bool ((y19.2 != y20.2) || (y19.2 != y22.2)) ∧ f 85 = .bool ((y19.2 != 0) && (y19.2 != 3))) ?_ ?_
          ·intro hJ31
           rcases bcases (y19.2 != 0) with hc32 | hc32
           ·skip
            refine JL.move (.some rfl rfl rfl hc32) rfl ?_
            refine JL.bin rfl rfl rfl (.some rfl rfl rfl hc32) rfl ?_
            refine JL.pick_t (b := (y19.2 != 0)) rfl hc32 (.some rfl rfl rfl hc30) rfl ?_
            exact hJ31 _ ⟨rfl, rfl, rfl, rfl, rfl, rfl, rfl, and_t hc32 rfl⟩
           ·skip
            refine JL.skip (.bool rfl rfl rfl hc32) rfl ?_
            refine JL.skip (.bool rfl rfl rfl hc32) rfl ?_
            refine JL.pick_f (b := (y19.2 != 0)) rfl hc32 (.some rfl rfl rfl hc30) rfl ?_
            exact hJ31 _ ⟨rfl, rfl, rfl, rfl, rfl, rfl, rfl, and_f hc32 rfl⟩
          ·rintro f ⟨hf2, hf3, hf5, hf6, hf7, hf9, hf79, hf85⟩
           refine (JL.norm (i := 2) hf2 (JL.norm (i := 3) hf3 (JL.norm (i := 5) hf5 (JL.norm (i := 6) hf6 (JL.norm (i := 7) hf7 (JL.norm (i := 9) hf9 (JL.norm (i := 79) hf79 (JL.norm (i := 85) hf85 ?_))))))))
           refine JL.pick_f (b := ((y19.2 != y20.2) || (y19.2 != y22.2))) rfl hc30 .none rfl ?_
           exact hJ29 _ ⟨rfl, rfl, rfl, rfl, rfl, rfl, or_f hc30 rfl⟩
        ·rintro f ⟨hf2, hf3, hf5, hf6, hf7, hf9, hf86⟩
         refine (JL.norm (i := 2) hf2 (JL.norm (i := 3) hf3 (JL.norm (i := 5) hf5 (JL.norm (i := 6) hf6 (JL.norm (i := 7) hf7 (JL.norm (i := 9) hf9 (JL.norm (i := 86) hf86 ?_)))))))
         refine JL.move .none rfl ?_
         refine JL.cut 13 (fun f => f 2 = .pointer (some ⟨b1, 0, none⟩) ∧ f 3 = .pointer (some ⟨b2, 0, none⟩) ∧ f 5 = .int .i64 y19.1 ∧ f 6 = .int .i64 y19.2 ∧ f 7 = .pointer (some ⟨b21, 0, none⟩) ∧ f 9 = y22a_v0 ∧ f 100 = .bool ((((y19.2 != y20.2) || (y19.2 != y22.2)) || ((y19.2 != 0) && (y19.2 != 3))) || ((y19.2 == 0) && (((y22.1.length : Int) == 0) || (decide (20 < (y22.1.length : Int))))))) ?_ ?_
         ·intro hJ39
          rcases bcases (((y19.2 != y20.2) || (y19.2 != y22.2)) || ((y19.2 != 0) && (y19.2 != 3))) with hc40 | hc40
          ·skip
           refine JL.skip (.bool rfl rfl rfl hc40) rfl ?_
           refine JL.skip (.bool rfl rfl rfl hc40) rfl ?_
           refine JL.skip (.bool rfl rfl rfl hc40) rfl ?_
           refine JL.skip (.no rfl rfl rfl) rfl ?_
           refine JL.skip (.no rfl rfl rfl) rfl ?_
           refine JL.skip (.no rfl rfl rfl) rfl ?_
           refine JL.skip (.no rfl rfl rfl) rfl ?_
           refine JL.skip (.no rfl rfl rfl) rfl ?_
           refine JL.skip (.no rfl rfl rfl) rfl ?_
           refine JL.skip (.no rfl rfl rfl) rfl ?_
           refine JL.skip (.no rfl rfl rfl) rfl ?_
           refine JL.skip (.bool rfl rfl rfl hc40) rfl ?_
           refine JL.pick_t (b := (((y19.2 != y20.2) || (y19.2 != y22.2)) || ((y19.2 != 0) && (y19.2 != 3)))) rfl hc40 .none rfl ?_
           exact hJ39 _ ⟨rfl, rfl, rfl, rfl, rfl, rfl, or_t hc40 rfl⟩
          ·skip
           refine JL.move (.some rfl rfl rfl hc40) rfl ?_
           refine JL.bin rfl rfl rfl (.some rfl rfl rfl hc40) rfl ?_
           refine JL.move (.some rfl rfl rfl hc40) rfl ?_
           refine JL.cut 9 (fun f => f 2 = .pointer (some ⟨b1, 0, none⟩) ∧ f 3 = .pointer (some ⟨b2, 0, none⟩) ∧ f 5 = .int .i64 y19.1 ∧ f 6 = .int .i64 y19.2 ∧ f 7 = .pointer (some ⟨b21, 0, none⟩) ∧ f 9 = y22a_v0 ∧ f 87 = .bool (((y19.2 != y20.2) || (y19.2 != y22.2)) || ((y19.2 != 0) && (y19.2 != 3))) ∧ f 99 = .bool ((y19.2 == 0) && (((y22.1.length : Int) == 0) || (decide (20 < (y22.1.length : Int)))))) ?_ ?_
           ·intro hJ43
            rcases bcases (y19.2 == 0) with hc44 | hc44
            ·skip
             refine JL.move (.some rfl rfl rfl hc44) rfl ?_
             refine JL.lenSL (R := RInt) ul_28 hy22a_0 (.some rfl rfl rfl hc44) rfl ?_
             refine JL.bin rfl rfl rfl (.some rfl rfl rfl hc44) rfl ?_
             refine JL.move (.some rfl rfl rfl hc44) rfl ?_
             refine JL.cut 4 (fun f => f 2 = .pointer (some ⟨b1, 0, none⟩) ∧ f 3 = .pointer (some ⟨b2, 0, none⟩) ∧ f 5 = .int .i64 y19.1 ∧ f 6 = .int .i64 y19.2 ∧ f 7 = .pointer (some ⟨b21, 0, none⟩) ∧ f 9 = y22a_v0 ∧ f 87 = .bool (((y19.2 != y20.2) || (y19.2 != y22.2)) || ((y19.2 != 0) && (y19.2 != 3))) ∧ f 90 = .bool (y19.2 == 0) ∧ f 98 = .bool (((y22.1.length : Int) == 0) || (decide (20 < (y22.1.length : Int))))) ?_ ?_
             ·intro hJ45
              rcases bcases ((y22.1.length : Int) == 0) with hc46 | hc46
              ·skip
               refine JL.skip (.bool rfl rfl rfl hc46) rfl ?_
               refine JL.skip (.bool rfl rfl rfl hc46) rfl ?_
               refine JL.skip (.bool rfl rfl rfl hc46) rfl ?_
               refine JL.pick_t (b := ((y22.1.length : Int) == 0)) rfl hc46 (.some rfl rfl rfl hc44) rfl ?_
               exact hJ45 _ ⟨rfl, rfl, rfl, rfl, rfl, rfl, rfl, rfl, or_t hc46 rfl⟩
              ·skip
               refine JL.move (.some rfl rfl rfl hc46) rfl ?_
               refine JL.lenSL (R := RInt) ul_28 hy22a_0 (.some rfl rfl rfl hc46) rfl ?_
               refine JL.bin rfl rfl rfl (.some rfl rfl rfl hc46) rfl ?_
               refine JL.pick_f (b := ((y22.1.length : Int) == 0)) rfl hc46 (.some rfl rfl rfl hc44) rfl ?_
               exact hJ45 _ ⟨rfl, rfl, rfl, rfl, rfl, rfl, rfl, rfl, or_f hc46 rfl⟩
             ·rintro f ⟨hf2, hf3, hf5, hf6, hf7, hf9, hf87, hf90, hf98⟩
              refine (JL.norm (i := 2) hf2 (JL.norm (i := 3) hf3 (JL.norm (i := 5) hf5 (JL.norm (i := 6) hf6 (JL.norm (i := 7) hf7 (JL.norm (i := 9) hf9 (JL.norm (i := 87) hf87 (JL.norm (i := 90) hf90 (JL.norm (i := 98) hf98 ?_)))))))))
              refine JL.pick_t (b := (y19.2 == 0)) rfl hc44 (.some rfl rfl rfl hc40) rfl ?_
              exact hJ43 _ ⟨rfl, rfl, rfl, rfl, rfl, rfl, rfl, and_t hc44 rfl⟩
            ·skip
             refine JL.skip (.bool rfl rfl rfl hc44) rfl ?_
             refine JL.skip (.bool rfl rfl rfl hc44) rfl ?_
             refine JL.skip (.bool rfl rfl rfl hc44) rfl ?_
             refine JL.skip (.bool rfl rfl rfl hc44) rfl ?_
             refine JL.skip (.no rfl rfl rfl) rfl ?_
             refine JL.skip (.no rfl rfl rfl) rfl ?_
             refine JL.skip (.no rfl rfl rfl) rfl ?_
             refine JL.skip (.bool rfl rfl rfl hc44) rfl ?_
             refine JL.pick_f (b := (y19.2 == 0)) rfl hc44 (.some rfl rfl rfl hc40) rfl ?_
             exact hJ43 _ ⟨rfl, rfl, rfl, rfl, rfl, rfl, rfl, and_f hc44 rfl⟩
           ·rintro f ⟨hf2, hf3, hf5, hf6, hf7, hf9, hf87, hf99⟩
            refine (JL.norm (i := 2) hf2 (JL.norm (i := 3) hf3 (JL.norm (i := 5) hf5 (JL.norm (i := 6) hf6 (JL.norm (i := 7) hf7 (JL.norm (i := 9) hf9 (JL.norm (i := 87) hf87 (JL.norm (i := 99) hf99 ?_))))))))
            refine JL.pick_f (b := (((y19.2 != y20.2) || (y19.2 != y22.2)) || ((y19.2 != 0) && (y19.2 != 3)))) rfl hc40 .none rfl ?_
            exact hJ39 _ ⟨rfl, rfl, rfl, rfl, rfl, rfl, or_f hc40 rfl⟩
         ·rintro f ⟨hf2, hf3, hf5, hf6, hf7, hf9, hf100⟩
          refine (JL.norm (i := 2) hf2 (JL.norm (i := 3) hf3 (JL.norm (i := 5) hf5 (JL.norm (i := 6) hf6 (JL.norm (i := 7) hf7 (JL.norm (i := 9) hf9 (JL.norm (i := 100) hf100 ?_)))))))
          refine JL.done hQ ?_
          refine JQ.go ?_
          rcases ite_some hF with ⟨hc47, hF⟩ | ⟨hc47, hF⟩
          ·refine JC.cond_t (b := ((((y19.2 != y20.2) || (y19.2 != y22.2)) || ((y19.2 != 0) && (y19.2 != 3))) || ((y19.2 == 0) && (((y22.1.length : Int) == 0) || (decide (20 < (y22.1.length : Int))))))) rfl hc47 ?_
           refine JC.seq ?_
           refine JC.region (by rfl) ?_
           intro hQ
           refine JL.assign .none rfl ?_
           refine JL.done hQ ?_
           refine JQ.go ?_
           refine JC.ret ?_
           refine JQ.ret_then ?_
           obtain rfl := Option.some.inj hF
           exact JQ.outS rfl (.tmp .nil) rfl
          ·refine JC.cond_f (b := ((((y19.2 != y20.2) || (y19.2 != y22.2)) || ((y19.2 != 0) && (y19.2 != 3))) || ((y19.2 == 0) && (((y22.1.length : Int) == 0) || (decide (20 < (y22.1.length : Int))))))) rfl hc47 ?_
           refine JC.skip ?_
           refine JQ.go ?_
           refine JC.seq ?_
           refine JC.seq ?_
           refine JC.region (by rfl) ?_
           intro hQ
           refine JL.move .none rfl ?_
           refine JL.bin rfl rfl rfl .none rfl ?_
           refine JL.done hQ ?_
           refine JQ.go ?_
           rcases ite_some hF with ⟨hc48, hF⟩ | ⟨hc48, hF⟩
           ·refine JC.cond_t (b := (y19.2 != 0)) rfl hc48 ?_
            refine JC.seq ?_
            refine JC.region (by rfl) ?_
            intro hQ
            obtain ⟨y49, hy49, hF⟩ := bind_some hF
            refine JL.callS (c_law13_works n H23 y49 hy49) rfl en_9 .none rfl ?_
            refine JL.assign .none rfl ?_
            refine JL.done hQ ?_
            refine JQ.go ?_
            refine JC.ret ?_
            refine JQ.ret_then ?_
            obtain rfl := Option.some.inj hF
            exact JQ.outS rfl (.tmp .nil) rfl
           ·refine JC.cond_f (b := (y19.2 != 0)) rfl hc48 ?_
            refine JC.skip ?_
            refine JQ.go ?_
            refine JC.seq ?_
            refine JC.seq ?_
            refine JC.region (by rfl) ?_
            intro hQ
            refine JL.move .none rfl ?_
            refine JL.bin rfl rfl rfl .none rfl ?_
            refine JL.fieldAddr fo_49_1 rfl .none rfl ?_
            refine JL.loadOwn 0 az_3 rfl rfl rfl .none rfl ?_
            refine JL.bin rfl rfl rfl .none rfl ?_
            refine JL.neBool ub_4 rfl rfl .none rfl ?_
            refine JL.move .none rfl ?_
            refine JL.cut 7 (fun f => f 2 = .pointer (some ⟨b1, 0, none⟩) ∧ f 3 = .pointer (some ⟨b2, 0, none⟩) ∧ f 5 = .int .i64 y19.1 ∧ f 7 = .pointer (some ⟨b21, 0, none⟩) ∧ f 9 = y22a_v0 ∧ f 117 = .bool (((y19.1 == 1) != (y20.1.High == 0)) || ((y19.1 == 2) != (decide (0 < y20.1.Low))))) ?_ ?_
            ·intro hJ50
             rcases bcases ((y19.1 == 1) != (y20.1.High == 0)) with hc51 | hc51
             ·skip
              refine JL.skip (.bool rfl rfl rfl hc51) rfl ?_
              refine JL.skip (.bool rfl rfl rfl hc51) rfl ?_
              refine JL.skip (.bool rfl rfl rfl hc51) rfl ?_
              refine JL.skip (.bool rfl rfl rfl hc51) rfl ?_
              refine JL.skip (.bool rfl rfl rfl hc51) rfl ?_
              refine JL.skip (.bool rfl rfl rfl hc51) rfl ?_
              refine JL.pick_t (b := ((y19.1 == 1) != (y20.1.High == 0))) rfl hc51 .none rfl ?_
              exact hJ50 _ ⟨rfl, rfl, rfl, rfl, rfl, or_t hc51 rfl⟩
             ·skip
              refine JL.move (.some rfl rfl rfl hc51) rfl ?_
              refine JL.bin rfl rfl rfl (.some rfl rfl rfl hc51) rfl ?_
              refine JL.fieldAddr fo_49_0 rfl (.some rfl rfl rfl hc51) rfl ?_
              refine JL.loadOwn 0 az_3 rfl rfl rfl (.some rfl rfl rfl hc51) rfl ?_
              refine JL.bin rfl rfl rfl (.some rfl rfl rfl hc51) rfl ?_
              refine JL.neBool ub_4 rfl rfl (.some rfl rfl rfl hc51) rfl ?_
              refine JL.pick_f (b := ((y19.1 == 1) != (y20.1.High == 0))) rfl hc51 .none rfl ?_
              exact hJ50 _ ⟨rfl, rfl, rfl, rfl, rfl, or_f hc51 rfl⟩
            ·rintro f ⟨hf2, hf3, hf5, hf7, hf9, hf117⟩
             refine (JL.norm (i := 2) hf2 (JL.norm (i := 3) hf3 (JL.norm (i := 5) hf5 (JL.norm (i := 7) hf7 (JL.norm (i := 9) hf9 (JL.norm (i := 117) hf117 ?_))))))
             refine JL.move .none rfl ?_
             refine JL.cut 4 (fun f => f 2 = .pointer (some ⟨b1, 0, none⟩) ∧ f 3 = .pointer (some ⟨b2, 0, none⟩) ∧ f 5 = .int .i64 y19.1 ∧ f 7 = .pointer (some ⟨b21, 0, none⟩) ∧ f 9 = y22a_v0 ∧ f 122 = .bool ((((y19.1 == 1) != (y20.1.High == 0)) || ((y19.1 == 2) != (decide (0 < y20.1.Low)))) || (decide (y20.1.Low < 0)))) ?_ ?_
             ·intro hJ52
              rcases bcases (((y19.1 == 1) != (y20.1.High == 0)) || ((y19.1 == 2) != (decide (0 < y20.1.Low)))) with hc53 | hc53
              ·skip
               refine JL.skip (.bool rfl rfl rfl hc53) rfl ?_
               refine JL.skip (.bool rfl rfl rfl hc53) rfl ?_
               refine JL.skip (.bool rfl rfl rfl hc53) rfl ?_
               refine JL.pick_t (b := (((y19.1 == 1) != (y20.1.High == 0)) || ((y19.1 == 2) != (decide (0 < y20.1.Low))))) rfl hc53 .none rfl ?_
               exact hJ52 _ ⟨rfl, rfl, rfl, rfl, rfl, or_t hc53 rfl⟩
              ·skip
               refine JL.fieldAddr fo_49_0 rfl (.some rfl rfl rfl hc53) rfl ?_
               refine JL.loadOwn 0 az_3 rfl rfl rfl (.some rfl rfl rfl hc53) rfl ?_
               refine JL.bin rfl rfl rfl (.some rfl rfl rfl hc53) rfl ?_
               refine JL.pick_f (b := (((y19.1 == 1) != (y20.1.High == 0)) || ((y19.1 == 2) != (decide (0 < y20.1.Low))))) rfl hc53 .none rfl ?_
               exact hJ52 _ ⟨rfl, rfl, rfl, rfl, rfl, or_f hc53 rfl⟩
             ·rintro f ⟨hf2, hf3, hf5, hf7, hf9, hf122⟩
              refine (JL.norm (i := 2) hf2 (JL.norm (i := 3) hf3 (JL.norm (i := 5) hf5 (JL.norm (i := 7) hf7 (JL.norm (i := 9) hf9 (JL.norm (i := 122) hf122 ?_))))))
              refine JL.move .none rfl ?_
              refine JL.cut 6 (fun f => f 2 = .pointer (some ⟨b1, 0, none⟩) ∧ f 3 = .pointer (some ⟨b2, 0, none⟩) ∧ f 5 = .int .i64 y19.1 ∧ f 7 = .pointer (some ⟨b21, 0, none⟩) ∧ f 9 = y22a_v0 ∧ f 129 = .bool (((((y19.1 == 1) != (y20.1.High == 0)) || ((y19.1 == 2) != (decide (0 < y20.1.Low)))) || (decide (y20.1.Low < 0))) || (decide (y20.1.High < y20.1.Low)))) ?_ ?_
              ·intro hJ54
               rcases bcases ((((y19.1 == 1) != (y20.1.High == 0)) || ((y19.1 == 2) != (decide (0 < y20.1.Low)))) || (decide (y20.1.Low < 0))) with hc55 | hc55
               ·skip
                refine JL.skip (.bool rfl rfl rfl hc55) rfl ?_
                refine JL.skip (.bool rfl rfl rfl hc55) rfl ?_
                refine JL.skip (.bool rfl rfl rfl hc55) rfl ?_
                refine JL.skip (.bool rfl rfl rfl hc55) rfl ?_
                refine JL.skip (.bool rfl rfl rfl hc55) rfl ?_
                refine JL.pick_t (b := ((((y19.1 == 1) != (y20.1.High == 0)) || ((y19.1 == 2) != (decide (0 < y20.1.Low)))) || (decide (y20.1.Low < 0)))) rfl hc55 .none rfl ?_
                exact hJ54 _ ⟨rfl, rfl, rfl, rfl, rfl, or_t hc55 rfl⟩
               ·skip
                refine JL.fieldAddr fo_49_0 rfl (.some rfl rfl rfl hc55) rfl ?_
                refine JL.loadOwn 0 az_3 rfl rfl rfl (.some rfl rfl rfl hc55) rfl ?_
                refine JL.fieldAddr fo_49_1 rfl (.some rfl rfl rfl hc55) rfl ?_
                refine JL.loadOwn 0 az_3 rfl rfl rfl (.some rfl rfl rfl hc55) rfl ?_
                refine JL.bin rfl rfl rfl (.some rfl rfl rfl hc55) rfl ?_
                refine JL.pick_f (b := ((((y19.1 == 1) != (y20.1.High == 0)) || ((y19.1 == 2) != (decide (0 < y20.1.Low)))) || (decide (y20.1.Low < 0)))) rfl hc55 .none rfl ?_
                exact hJ54 _ ⟨rfl, rfl, rfl, rfl, rfl, or_f hc55 rfl⟩
              ·rintro f ⟨hf2, hf3, hf5, hf7, hf9, hf129⟩
               refine (JL.norm (i := 2) hf2 (JL.norm (i := 3) hf3 (JL.norm (i := 5) hf5 (JL.norm (i := 7) hf7 (JL.norm (i := 9) hf9 (JL.norm (i := 129) hf129 ?_))))))
               refine JL.move .none rfl ?_
               refine JL.cut 7 (fun f => f 2 = .pointer (some ⟨b1, 0, none⟩) ∧ f 3 = .pointer (some ⟨b2, 0, none⟩) ∧ f 5 = .int .i64 y19.1 ∧ f 7 = .pointer (some ⟨b21, 0, none⟩) ∧ f 9 = y22a_v0 ∧ f 137 = .bool ((((((y19.1 == 1) != (y20.1.High == 0)) || ((y19.1 == 2) != (decide (0 < y20.1.Low)))) || (decide (y20.1.Low < 0))) || (decide (y20.1.High < y20.1.Low))) || (decide ((r.Blows.length : Int) < y20.1.High)))) ?_ ?_
               ·intro hJ56
                rcases bcases (((((y19.1 == 1) != (y20.1.High == 0)) || ((y19.1 == 2) != (decide (0 < y20.1.Low)))) || (decide (y20.1.Low < 0))) || (decide (y20.1.High < y20.1.Low))) with hc57 | hc57
                ·skip
                 refine JL.skip (.bool rfl rfl rfl hc57) rfl ?_
                 refine JL.skip (.bool rfl rfl rfl hc57) rfl ?_
                 refine JL.skip (.bool rfl rfl rfl hc57) rfl ?_
                 refine JL.skip (.bool rfl rfl rfl hc57) rfl ?_
                 refine JL.skip (.bool rfl rfl rfl hc57) rfl ?_
                 refine JL.skip (.bool rfl rfl rfl hc57) rfl ?_
                 refine JL.pick_t (b := (((((y19.1 == 1) != (y20.1.High == 0)) || ((y19.1 == 2) != (decide (0 < y20.1.Low)))) || (decide (y20.1.Low < 0))) || (decide (y20.1.High < y20.1.Low)))) rfl hc57 .none rfl ?_
                 exact hJ56 _ ⟨rfl, rfl, rfl, rfl, rfl, or_t hc57 rfl⟩
                ·skip
                 refine JL.fieldAddr fo_49_1 rfl (.some rfl rfl rfl hc57) rfl ?_
                 refine JL.loadOwn 0 az_3 rfl rfl rfl (.some rfl rfl rfl hc57) rfl ?_
                 refine JL.fieldAddr fo_34_1 rfl (.some rfl rfl rfl hc57) rfl ?_
                 refine JL.loadOwn 2 az_31 rfl rfl rfl (.some rfl rfl rfl hc57) rfl ?_
                 refine JL.lenSL (R := R_Blow) ul_31 (SL.mono R_Blow_mono hs23 hr_9) (.some rfl rfl rfl hc57) rfl ?_
                 refine JL.bin rfl rfl rfl (.some rfl rfl rfl hc57) rfl ?_
                 refine JL.pick_f (b := (((((y19.1 == 1) != (y20.1.High == 0)) || ((y19.1 == 2) != (decide (0 < y20.1.Low)))) || (decide (y20.1.Low < 0))) || (decide (y20.1.High < y20.1.Low)))) rfl hc57 .none rfl ?_
                 exact hJ56 _ ⟨rfl, rfl, rfl, rfl, rfl, or_f hc57 rfl⟩
               ·rintro f ⟨hf2, hf3, hf5, hf7, hf9, hf137⟩
                refine (JL.norm (i := 2) hf2 (JL.norm (i := 3) hf3 (JL.norm (i := 5) hf5 (JL.norm (i := 7) hf7 (JL.norm (i := 9) hf9 (JL.norm (i := 137) hf137 ?_))))))
                refine JL.move .none rfl ?_
                refine JL.cut 3 (fun f => f 2 = .pointer (some ⟨b1, 0, none⟩) ∧ f 3 = .pointer (some ⟨b2, 0, none⟩) ∧ f 5 = .int .i64 y19.1 ∧ f 7 = .pointer (some ⟨b21, 0, none⟩) ∧ f 9 = y22a_v0 ∧ f 141 = .bool (((((((y19.1 == 1) != (y20.1.High == 0)) || ((y19.1 == 2) != (decide (0 < y20.1.Low)))) || (decide (y20.1.Low < 0))) || (decide (y20.1.High < y20.1.Low))) || (decide ((r.Blows.length : Int) < y20.1.High))) || (decide (y19.1 < 1)))) ?_ ?_
                ·intro hJ58
                 rcases bcases ((((((y19.1 == 1) != (y20.1.High == 0)) || ((y19.1 == 2) != (decide (0 < y20.1.Low)))) || (decide (y20.1.Low < 0))) || (decide (y20.1.High < y20.1.Low))) || (decide ((r.Blows.length : Int) < y20.1.High))) with hc59 | hc59
                 ·skip
                  refine JL.skip (.bool rfl rfl rfl hc59) rfl ?_
                  refine JL.skip (.bool rfl rfl rfl hc59) rfl ?_
                  refine JL.pick_t (b := ((((((y19.1 == 1) != (y20.1.High == 0)) || ((y19.1 == 2) != (decide (0 < y20.1.Low)))) || (decide (y20.1.Low < 0))) || (decide (y20.1.High < y20.1.Low))) || (decide ((r.Blows.length : Int) < y20.1.High)))) rfl hc59 .none rfl ?_
                  exact hJ58 _ ⟨rfl, rfl, rfl, rfl, rfl, or_t hc59 rfl⟩
                 ·skip
                  refine JL.move (.some rfl rfl rfl hc59) rfl ?_
                  refine JL.bin rfl rfl rfl (.some rfl rfl rfl hc59) rfl ?_
                  refine JL.pick_f (b := ((((((y19.1 == 1) != (y20.1.High == 0)) || ((y19.1 == 2) != (decide (0 < y20.1.Low)))) || (decide (y20.1.Low < 0))) || (decide (y20.1.High < y20.1.Low))) || (decide ((r.Blows.length : Int) < y20.1.High)))) rfl hc59 .none rfl ?_
                  exact hJ58 _ ⟨rfl, rfl, rfl, rfl, rfl, or_f hc59 rfl⟩
                ·rintro f ⟨hf2, hf3, hf5, hf7, hf9, hf141⟩
                 refine (JL.norm (i := 2) hf2 (JL.norm (i := 3) hf3 (JL.norm (i := 5) hf5 (JL.norm (i := 7) hf7 (JL.norm (i := 9) hf9 (JL.norm (i := 141) hf141 ?_))))))
                 refine JL.move .none rfl ?_
                 refine JL.cut 3 (fun f => f 2 = .pointer (some ⟨b1, 0, none⟩) ∧ f 3 = .pointer (some ⟨b2, 0, none⟩) ∧ f 5 = .int .i64 y19.1 ∧ f 7 = .pointer (some ⟨b21, 0, none⟩) ∧ f 9 = y22a_v0 ∧ f 145 = .bool ((((((((y19.1 == 1) != (y20.1.High == 0)) || ((y19.1 == 2) != (decide (0 < y20.1.Low)))) || (decide (y20.1.Low < 0))) || (decide (y20.1.High < y20.1.Low))) || (decide ((r.Blows.length : Int) < y20.1.High))) || (decide (y19.1 < 1))) || (decide (3 < y19.1)))) ?_ ?_
                 ·intro hJ60
                  rcases bcases (((((((y19.1 == 1) != (y20.1.High == 0)) || ((y19.1 == 2) != (decide (0 < y20.1.Low)))) || (decide (y20.1.Low < 0))) || (decide (y20.1.High < y20.1.Low))) || (decide ((r.Blows.length : Int) < y20.1.High))) || (decide (y19.1 < 1))) with hc61 | hc61
                  ·skip
                   refine JL.skip (.bool rfl rfl rfl hc61) rfl ?_
                   refine JL.skip (.bool rfl rfl rfl hc61) rfl ?_
                   refine JL.pick_t (b := (((((((y19.1 == 1) != (y20.1.High == 0)) || ((y19.1 == 2) != (decide (0 < y20.1.Low)))) || (decide (y20.1.Low < 0))) || (decide (y20.1.High < y20.1.Low))) || (decide ((r.Blows.length : Int) < y20.1.High))) || (decide (y19.1 < 1)))) rfl hc61 .none rfl ?_
                   exact hJ60 _ ⟨rfl, rfl, rfl, rfl, rfl, or_t hc61 rfl⟩
                  ·skip
                   refine JL.move (.some rfl rfl rfl hc61) rfl ?_
                   refine JL.bin rfl rfl rfl (.some rfl rfl rfl hc61) rfl ?_
                   refine JL.pick_f (b := (((((((y19.1 == 1) != (y20.1.High == 0)) || ((y19.1 == 2) != (decide (0 < y20.1.Low)))) || (decide (y20.1.Low < 0))) || (decide (y20.1.High < y20.1.Low))) || (decide ((r.Blows.length : Int) < y20.1.High))) || (decide (y19.1 < 1)))) rfl hc61 .none rfl ?_
                   exact hJ60 _ ⟨rfl, rfl, rfl, rfl, rfl, or_f hc61 rfl⟩
                 ·rintro f ⟨hf2, hf3, hf5, hf7, hf9, hf145⟩
                  refine (JL.norm (i := 2) hf2 (JL.norm (i := 3) hf3 (JL.norm (i := 5) hf5 (JL.norm (i := 7) hf7 (JL.norm (i := 9) hf9 (JL.norm (i := 145) hf145 ?_))))))
                  refine JL.done hQ ?_
                  refine JQ.go ?_
                  rcases ite_some hF with ⟨hc62, hF⟩ | ⟨hc62, hF⟩
                  ·refine JC.cond_t (b := ((((((((y19.1 == 1) != (y20.1.High == 0)) || ((y19.1 == 2) != (decide (0 < y20.1.Low)))) || (decide (y20.1.Low < 0))) || (decide (y20.1.High < y20.1.Low))) || (decide ((r.Blows.length : Int) < y20.1.High))) || (decide (y19.1 < 1))) || (decide (3 < y19.1)))) rfl hc62 ?_
                   refine JC.seq ?_
                   refine JC.region (by rfl) ?_
                   intro hQ
                   refine JL.assign .none rfl ?_
                   refine JL.done hQ ?_
                   refine JQ.go ?_
                   refine JC.ret ?_
                   refine JQ.ret_then ?_
                   obtain rfl := Option.some.inj hF
                   exact JQ.outS rfl (.tmp .nil) rfl
                  ·refine JC.cond_f (b := ((((((((y19.1 == 1) != (y20.1.High == 0)) || ((y19.1 == 2) != (decide (0 < y20.1.Low)))) || (decide (y20.1.Low < 0))) || (decide (y20.1.High < y20.1.Low))) || (decide ((r.Blows.length : Int) < y20.1.High))) || (decide (y19.1 < 1))) || (decide (3 < y19.1)))) rfl hc62 ?_
                   refine JC.skip ?_
                   refine JQ.go ?_
                   refine JC.seq ?_
                   refine JC.seq ?_
                   refine JC.region (by rfl) ?_
                   intro hQ
                   refine JL.move .none rfl ?_
                   obtain ⟨y63, hy63, hF⟩ := bind_some hF
                   refine JL.indexSL (R := RInt) sl_28 hy22a_0 rfl hy63 .none rfl ?_
                   rintro b64 o65 cs66 hc67 - rfl
                   refine JL.loadH 0 az_3 rfl hc67 rfl .none rfl ?_
                   refine JL.bin rfl rfl rfl .none rfl ?_
                   refine JL.move .none rfl ?_
                   obtain ⟨p73, hp73, hF⟩ := bind_some hF
                   refine JL.cut 8 (fun f => f 2 = .pointer (some ⟨b1, 0, none⟩) ∧ f 3 = .pointer (some ⟨b2, 0, none⟩) ∧ f 5 = .int .i64 y19.1 ∧ f 7 = .pointer (some ⟨b21, 0, none⟩) ∧ f 9 = y22a_v0 ∧ f 158 = .bool p73) ?_ ?_
                   ·intro hJ74
                    rcases ite_some hp73 with ⟨hc75, hF⟩ | ⟨hc75, hF⟩
                    ·skip
                     refine JL.skip (.bool rfl rfl rfl hc75) rfl ?_
                     refine JL.skip (.bool rfl rfl rfl hc75) rfl ?_
                     refine JL.skip (.bool rfl rfl rfl hc75) rfl ?_
                     refine JL.skip (.bool rfl rfl rfl hc75) rfl ?_
                     refine JL.skip (.bool rfl rfl rfl hc75) rfl ?_
                     refine JL.skip (.bool rfl rfl rfl hc75) rfl ?_
                     refine JL.skip (.bool rfl rfl rfl hc75) rfl ?_
                     refine JL.pick_t (b := decide (y63 < 0)) rfl hc75 .none rfl ?_
                     obtain rfl := Option.some.inj hF
                     exact hJ74 _ ⟨rfl, rfl, rfl, rfl, rfl, rfl⟩
                    ·skip
                     refine JL.move (.some rfl rfl rfl hc75) rfl ?_
                     refine JL.move (.some rfl rfl rfl hc75) rfl ?_
                     refine JL.lenSL (R := RInt) ul_28 hy22a_0 (.some rfl rfl rfl hc75) rfl ?_
                     refine JL.bin rfl rfl rfl (.some rfl rfl rfl hc75) rfl ?_
                     obtain ⟨y76, hy76, hF⟩ := bind_some hF
                     refine JL.indexSL (R := RInt) sl_28 hy22a_0 rfl hy76 (.some rfl rfl rfl hc75) rfl ?_
                     rintro b77 o78 cs79 hc80 - rfl
                     refine JL.loadH 0 az_3 rfl hc80 rfl (.some rfl rfl rfl hc75) rfl ?_
                     refine JL.bin rfl rfl rfl (.some rfl rfl rfl hc75) rfl ?_
                     refine JL.pick_f (b := decide (y63 < 0)) rfl hc75 .none rfl ?_
                     obtain rfl := Option.some.inj hF
                     exact hJ74 _ ⟨rfl, rfl, rfl, rfl, rfl, rfl⟩
                   ·rintro f ⟨hf2, hf3, hf5, hf7, hf9, hf158⟩
                    refine (JL.norm (i := 2) hf2 (JL.norm (i := 3) hf3 (JL.norm (i := 5) hf5 (JL.norm (i := 7) hf7 (JL.norm (i := 9) hf9 (JL.norm (i := 158) hf158 ?_))))))
                    refine JL.done hQ ?_
                    refine JQ.go ?_
                    rcases ite_some hF with ⟨hc81, hF⟩ | ⟨hc81, hF⟩
                    ·refine JC.cond_t (b := p73) rfl hc81 ?_
                     refine JC.seq ?_
                     refine JC.region (by rfl) ?_
                     intro hQ
                     refine JL.assign .none rfl ?_
                     refine JL.done hQ ?_
                     refine JQ.go ?_
                     refine JC.ret ?_
                     refine JQ.ret_then ?_
                     obtain rfl := Option.some.inj hF
                     exact JQ.outS rfl (.tmp .nil) rfl
                    ·refine JC.cond_f (b := p73) rfl hc81 ?_
                     refine JC.skip ?_
                     refine JQ.go ?_
                     refine JC.seq ?_
                     obtain ⟨y92, hy92, hF⟩ := bind_some hF
                     obtain ⟨y97, hy97, hF⟩ := bind_some hF
                     obtain ⟨y106, hy106, hF⟩ := bind_some hF
                     refine JC.mixed 20 20 #[false, false, false, false, false, false, false, false, false, false, false, false, false, false, false, false, false, false, false, false] [(b21, .cells [.int .i64 y20.1.Low, .int .i64 y20.1.High].toArray 49), (b2, .cells [.int .i64 x_.Rib, .int .i64 x_.By, .int .i64 x_.Blow].toArray 43), (b1, .cells [r_v0, .int .i64 r.Canopy.Frame.Low, .int .i64 r.Canopy.Frame.High, .int .i64 r.Canopy.Frame.Ease.Num, .int .i64 r.Canopy.Frame.Ease.Den, .int .i64 r.Canopy.Frame.Rod, .int .i64 r.Canopy.Frame.Case, r_v7, r_v8, r_v9, r_v10, .int .i64 r.Wrong].toArray 34)] (by rfl) mo_ (by kernel_rfl) (by kernel_rfl) ?_
                     intro hQ hE
                     refine JA.take 0 (listed' := #[true, false, false, false, false, false, false, false, false, false, false, false, false, false, false, false, false, false, false, false]) hQ rfl (by kernel_rfl) (by kernel_rfl) (by kernel_rfl) (by kernel_rfl) (by kernel_rfl) hE (HSub.refl _) (.cons_cons _ (.cons_cons _ (.cons_cons _ (List.nil_sublist _)))) ?_
                     refine JL.fieldAddr fo_34_0 rfl .none rfl ?_
                     refine JA.cont ?_
                     refine JA.take 1 (listed' := #[true, true, false, false, false, false, false, false, false, false, false, false, false, false, false, false, false, false, false, false]) hQ rfl (by kernel_rfl) (by kernel_rfl) (by kernel_rfl) (by kernel_rfl) (by kernel_rfl) hE (HSub.refl _) (.cons_cons _ (.cons_cons _ (.cons_cons _ (List.nil_sublist _)))) ?_
                     refine JL.loadOwn 2 az_30 rfl rfl rfl .none rfl ?_
                     refine JA.cont ?_
                     refine JA.take 2 (listed' := #[true, true, true, false, false, false, false, false, false, false, false, false, false, false, false, false, false, false, false, false]) hQ rfl (by kernel_rfl) (by kernel_rfl) (by kernel_rfl) (by kernel_rfl) (by kernel_rfl) hE (HSub.refl _) (.cons_cons _ (.cons_cons _ (.cons_cons _ (List.nil_sublist _)))) ?_
                     refine JL.move .none rfl ?_
                     refine JA.cont ?_
                     refine JA.take 3 (listed' := #[true, true, true, true, false, false, false, false, false, false, false, false, false, false, false, false, false, false, false, false]) hQ rfl (by kernel_rfl) (by kernel_rfl) (by kernel_rfl) (by kernel_rfl) (by kernel_rfl) hE (HSub.refl _) (.cons_cons _ (.cons_cons _ (.cons_cons _ (List.nil_sublist _)))) ?_
                     refine JL.indexSL (R := RInt) sl_28 hy22a_0 rfl hy92 .none rfl ?_
                     rintro b131 o132 cs133 hc134 - rfl
                     refine JA.cont ?_
                     refine JA.take 4 (listed' := #[true, true, true, true, true, false, false, false, false, false, false, false, false, false, false, false, false, false, false, false]) hQ rfl (by kernel_rfl) (by kernel_rfl) (by kernel_rfl) (by kernel_rfl) (by kernel_rfl) hE (HSub.refl _) (.cons_cons _ (.cons_cons _ (.cons_cons _ (List.nil_sublist _)))) ?_
                     refine JL.loadH 0 az_3 rfl hc134 rfl .none rfl ?_
                     refine JA.cont ?_
                     refine JA.take 5 (listed' := #[true, true, true, true, true, true, false, false, false, false, false, false, false, false, false, false, false, false, false, false]) hQ rfl (by kernel_rfl) (by kernel_rfl) (by kernel_rfl) (by kernel_rfl) (by kernel_rfl) hE (HSub.refl _) (.cons_cons _ (.cons_cons _ (.cons_cons _ (List.nil_sublist _)))) ?_
                     refine JL.fieldAddr fo_34_1 rfl .none rfl ?_
                     refine JA.cont ?_
                     refine JA.take 6 (listed' := #[true, true, true, true, true, true, true, false, false, false, false, false, false, false, false, false, false, false, false, false]) hQ rfl (by kernel_rfl) (by kernel_rfl) (by kernel_rfl) (by kernel_rfl) (by kernel_rfl) hE (HSub.refl _) (.cons_cons _ (.cons_cons _ (.cons_cons _ (List.nil_sublist _)))) ?_
                     refine JL.loadOwn 2 az_31 rfl rfl rfl .none rfl ?_
                     refine JA.cont ?_
                     refine JA.take 7 (listed' := #[true, true, true, true, true, true, true, true, false, false, false, false, false, false, false, false, false, false, false, false]) hQ rfl (by kernel_rfl) (by kernel_rfl) (by kernel_rfl) (by kernel_rfl) (by kernel_rfl) hE (HSub.refl _) (.cons_cons _ (.cons_cons _ (.cons_cons _ (List.nil_sublist _)))) ?_
                     refine JL.fieldAddr fo_43_2 rfl .none rfl ?_
                     refine JA.cont ?_
                     refine JA.take 8 (listed' := #[true, true, true, true, true, true, true, true, true, false, false, false, false, false, false, false, false, false, false, false]) hQ rfl (by kernel_rfl) (by kernel_rfl) (by kernel_rfl) (by kernel_rfl) (by kernel_rfl) hE (HSub.refl _) (.cons_cons _ (.cons_cons _ (.cons_cons _ (List.nil_sublist _)))) ?_
                     refine JL.loadOwn 1 az_3 rfl rfl rfl .none rfl ?_
                     refine JA.cont ?_
                     refine JA.take 9 (listed' := #[true, true, true, true, true, true, true, true, true, true, false, false, false, false, false, false, false, false, false, false]) hQ rfl (by kernel_rfl) (by kernel_rfl) (by kernel_rfl) (by kernel_rfl) (by kernel_rfl) hE (HSub.refl _) (.cons_cons _ (.cons_cons _ (.cons_cons _ (List.nil_sublist _)))) ?_
                     refine JL.indexSL (R := R_Blow) sl_31 (SL.mono R_Blow_mono hs23 hr_9) rfl hy97 .none rfl ?_
                     rintro b139 o140 cs141 hc142 - rfl
                     refine JA.cont ?_
                     refine JA.take 10 (listed' := #[true, true, true, true, true, true, true, true, true, true, true, false, false, false, false, false, false, false, false, false]) hQ rfl (by kernel_rfl) (by kernel_rfl) (by kernel_rfl) (by kernel_rfl) (by kernel_rfl) hE (HSub.refl _) (.cons_cons _ (.cons_cons _ (.cons_cons _ (List.nil_sublist _)))) ?_
                     refine JL.fieldAddr fo_56_0 rfl .none rfl ?_
                     refine JA.cont ?_
                     refine JA.take 11 (listed' := #[true, true, true, true, true, true, true, true, true, true, true, true, false, false, false, false, false, false, false, false]) hQ rfl (by kernel_rfl) (by kernel_rfl) (by kernel_rfl) (by kernel_rfl) (by kernel_rfl) hE (HSub.refl _) (.cons_cons _ (.cons_cons _ (.cons_cons _ (List.nil_sublist _)))) ?_
                     refine JL.loadH 0 az_3 rfl hc142 rfl .none rfl ?_
                     refine JA.cont ?_
                     refine JA.take 12 (listed' := #[true, true, true, true, true, true, true, true, true, true, true, true, true, false, false, false, false, false, false, false]) hQ rfl (by kernel_rfl) (by kernel_rfl) (by kernel_rfl) (by kernel_rfl) (by kernel_rfl) hE (HSub.refl _) (.cons_cons _ (.cons_cons _ (.cons_cons _ (List.nil_sublist _)))) ?_
                     refine JL.build (l := [.int .i64 y92, .int .i64 y97.At]) (by kernel_rfl) .none rfl ?_
                     refine JA.cont ?_
                     refine JA.many [13] (by kernel_rfl) (by simp) (all_one ⟨_, #[true, true, true, true, true, true, true, true, true, true, true, true, true, true, false, false, false, false, false, false], rfl, (by kernel_rfl), ?_⟩)
                     refine JL.buildSlice (e := 58) (l := [.int .i64 y92, .int .i64 y97.At]) (by kernel_rfl) .none rfl ?_
                     intro b143
                     refine JA.after hE (HSub.refl _) (.cons _ (.cons_cons _ (.cons_cons _ (.cons_cons _ (List.nil_sublist _))))) ?_
                     refine JA.many [14] (by kernel_rfl) (by simp) (all_one ⟨_, #[true, true, true, true, true, true, true, true, true, true, true, true, true, true, true, false, false, false, false, false], rfl, (by kernel_rfl), ?_⟩)
                     refine JL.freezeC 0 (l := [.int .i64 y92, .int .i64 y97.At]) rfl ?_
                     intro H144 hs144 hc145
                     have hg146 : SL H144 2 R_Gust (.slice (some ⟨b143, 0, none⟩) 1 1) [(Gust.mk y92 y97.At)] := CH.sl (l := [(Gust.mk y92 y97.At)]) (CH.cons (cs := [.int .i64 y92, .int .i64 y97.At]) rfl rfl CH.nil) hc145 ⟨by simp, by simp⟩
                     refine JL.callS (c_gusts_Stands n H144 r.Canopy r_v0 (SL.mono R_Section_mono (HSub.trans hs23 hs144) hr_0) r_v7 (SL.mono R_Span_mono (HSub.trans hs23 hs144) hr_7) r_v8 (SL.mono RInt.mono (HSub.trans hs23 hs144) hr_8) [(Gust.mk y92 y97.At)] (.slice (some ⟨b143, 0, none⟩) 1 1) hg146 y106 hy106) rfl en_16 .none rfl ?_
                     refine JA.after hE hs144 (.cons_cons _ (.cons_cons _ (.cons_cons _ (List.nil_sublist _)))) ?_
                     refine JA.take 15 (listed' := #[true, true, true, true, true, true, true, true, true, true, true, true, true, true, true, true, false, false, false, false]) hQ rfl (by kernel_rfl) (by kernel_rfl) (by kernel_rfl) (by kernel_rfl) (by kernel_rfl) hE hs144 (.cons_cons _ (.cons_cons _ (.cons_cons _ (List.nil_sublist _)))) ?_
                     refine JL.move .none rfl ?_
                     refine JA.cont ?_
                     refine JA.take 16 (listed' := #[true, true, true, true, true, true, true, true, true, true, true, true, true, true, true, true, true, false, false, false]) hQ rfl (by kernel_rfl) (by kernel_rfl) (by kernel_rfl) (by kernel_rfl) (by kernel_rfl) hE hs144 (.cons_cons _ (.cons_cons _ (.cons_cons _ (List.nil_sublist _)))) ?_
                     refine JL.extract rfl rfl .none rfl ?_
                     refine JA.cont ?_
                     refine JA.take 17 (listed' := #[true, true, true, true, true, true, true, true, true, true, true, true, true, true, true, true, true, true, false, false]) hQ rfl (by kernel_rfl) (by kernel_rfl) (by kernel_rfl) (by kernel_rfl) (by kernel_rfl) hE hs144 (.cons_cons _ (.cons_cons _ (.cons_cons _ (List.nil_sublist _)))) ?_
                     refine JL.extract rfl rfl .none rfl ?_
                     refine JA.cont ?_
                     refine JA.take 18 (listed' := #[true, true, true, true, true, true, true, true, true, true, true, true, true, true, true, true, true, true, true, false]) hQ rfl (by kernel_rfl) (by kernel_rfl) (by kernel_rfl) (by kernel_rfl) (by kernel_rfl) hE hs144 (.cons_cons _ (.cons_cons _ (.cons_cons _ (List.nil_sublist _)))) ?_
                     refine JL.assign .none rfl ?_
                     refine JA.cont ?_
                     refine JA.take 19 (listed' := #[true, true, true, true, true, true, true, true, true, true, true, true, true, true, true, true, true, true, true, true]) hQ rfl (by kernel_rfl) (by kernel_rfl) (by kernel_rfl) (by kernel_rfl) (by kernel_rfl) hE hs144 (.cons_cons _ (.cons_cons _ (.cons_cons _ (List.nil_sublist _)))) ?_
                     refine JL.assign .none rfl ?_
                     refine JA.cont ?_
                     refine JA.done hQ (by kernel_rfl) ?_
                     refine JQ.go ?_
                     refine JC.fresh (fun f => f 2 = .pointer (some ⟨b1, 0, none⟩) ∧ f 3 = .pointer (some ⟨b2, 0, none⟩) ∧ f 5 = .int .i64 y19.1 ∧ f 7 = .pointer (some ⟨b21, 0, none⟩) ∧ f 9 = y22a_v0 ∧ f 11 = .int .i64 y106.1 ∧ f 12 = .int .i64 y106.2) ⟨rfl, rfl, rfl, rfl, rfl, rfl, rfl⟩ ?_
                     rintro f ⟨hf2, hf3, hf5, hf7, hf9, hf11, hf12⟩
                     refine (JC.norm (i := 2) hf2 (JC.norm (i := 3) hf3 (JC.norm (i := 5) hf5 (JC.norm (i := 7) hf7 (JC.norm (i := 9) hf9 (JC.norm (i := 11) hf11 (JC.norm (i := 12) hf12 ?_)))))))
                     refine JC.seq ?_
                     obtain ⟨y157, hy157, hF⟩ := bind_some hF
                     obtain ⟨y162, hy162, hF⟩ := bind_some hF
                     obtain ⟨y171, hy171, hF⟩ := bind_some hF
                     refine JC.mixed 23 23 #[false, false, false, false, false, false, false, false, false, false, false, false, false, false, false, false, false, false, false, false, false, false, false] [(b21, .cells [.int .i64 y20.1.Low, .int .i64 y20.1.High].toArray 49), (b2, .cells [.int .i64 x_.Rib, .int .i64 x_.By, .int .i64 x_.Blow].toArray 43), (b1, .cells [r_v0, .int .i64 r.Canopy.Frame.Low, .int .i64 r.Canopy.Frame.High, .int .i64 r.Canopy.Frame.Ease.Num, .int .i64 r.Canopy.Frame.Ease.Den, .int .i64 r.Canopy.Frame.Rod, .int .i64 r.Canopy.Frame.Case, r_v7, r_v8, r_v9, r_v10, .int .i64 r.Wrong].toArray 34)] (by rfl) mo_ (by kernel_rfl) (by kernel_rfl) ?_
                     intro hQ hE
                     refine JA.take 0 (listed' := #[true, false, false, false, false, false, false, false, false, false, false, false, false, false, false, false, false, false, false, false, false, false, false]) hQ rfl (by kernel_rfl) (by kernel_rfl) (by kernel_rfl) (by kernel_rfl) (by kernel_rfl) hE (HSub.refl _) (.cons_cons _ (.cons_cons _ (.cons_cons _ (List.nil_sublist _)))) ?_
                     refine JL.fieldAddr fo_34_0 rfl .none rfl ?_
                     refine JA.cont ?_
                     refine JA.take 1 (listed' := #[true, true, false, false, false, false, false, false, false, false, false, false, false, false, false, false, false, false, false, false, false, false, false]) hQ rfl (by kernel_rfl) (by kernel_rfl) (by kernel_rfl) (by kernel_rfl) (by kernel_rfl) hE (HSub.refl _) (.cons_cons _ (.cons_cons _ (.cons_cons _ (List.nil_sublist _)))) ?_
                     refine JL.loadOwn 2 az_30 rfl rfl rfl .none rfl ?_
                     refine JA.cont ?_
                     refine JA.take 2 (listed' := #[true, true, true, false, false, false, false, false, false, false, false, false, false, false, false, false, false, false, false, false, false, false, false]) hQ rfl (by kernel_rfl) (by kernel_rfl) (by kernel_rfl) (by kernel_rfl) (by kernel_rfl) hE (HSub.refl _) (.cons_cons _ (.cons_cons _ (.cons_cons _ (List.nil_sublist _)))) ?_
                     refine JL.move .none rfl ?_
                     refine JA.cont ?_
                     refine JA.take 3 (listed' := #[true, true, true, true, false, false, false, false, false, false, false, false, false, false, false, false, false, false, false, false, false, false, false]) hQ rfl (by kernel_rfl) (by kernel_rfl) (by kernel_rfl) (by kernel_rfl) (by kernel_rfl) hE (HSub.refl _) (.cons_cons _ (.cons_cons _ (.cons_cons _ (List.nil_sublist _)))) ?_
                     refine JL.move .none rfl ?_
                     refine JA.cont ?_
                     refine JA.take 4 (listed' := #[true, true, true, true, true, false, false, false, false, false, false, false, false, false, false, false, false, false, false, false, false, false, false]) hQ rfl (by kernel_rfl) (by kernel_rfl) (by kernel_rfl) (by kernel_rfl) (by kernel_rfl) hE (HSub.refl _) (.cons_cons _ (.cons_cons _ (.cons_cons _ (List.nil_sublist _)))) ?_
                     refine JL.lenSL (R := RInt) ul_28 (SL.mono RInt.mono hs144 hy22a_0) .none rfl ?_
                     refine JA.cont ?_
                     refine JA.take 5 (listed' := #[true, true, true, true, true, true, false, false, false, false, false, false, false, false, false, false, false, false, false, false, false, false, false]) hQ rfl (by kernel_rfl) (by kernel_rfl) (by kernel_rfl) (by kernel_rfl) (by kernel_rfl) hE (HSub.refl _) (.cons_cons _ (.cons_cons _ (.cons_cons _ (List.nil_sublist _)))) ?_
                     refine JL.bin rfl rfl rfl .none rfl ?_
                     refine JA.cont ?_
                     refine JA.take 6 (listed' := #[true, true, true, true, true, true, true, false, false, false, false, false, false, false, false, false, false, false, false, false, false, false, false]) hQ rfl (by kernel_rfl) (by kernel_rfl) (by kernel_rfl) (by kernel_rfl) (by kernel_rfl) hE (HSub.refl _) (.cons_cons _ (.cons_cons _ (.cons_cons _ (List.nil_sublist _)))) ?_
                     refine JL.indexSL (R := RInt) sl_28 (SL.mono RInt.mono hs144 hy22a_0) rfl hy157 .none rfl ?_
                     rintro b196 o197 cs198 hc199 - rfl
                     refine JA.cont ?_
                     refine JA.take 7 (listed' := #[true, true, true, true, true, true, true, true, false, false, false, false, false, false, false, false, false, false, false, false, false, false, false]) hQ rfl (by kernel_rfl) (by kernel_rfl) (by kernel_rfl) (by kernel_rfl) (by kernel_rfl) hE (HSub.refl _) (.cons_cons _ (.cons_cons _ (.cons_cons _ (List.nil_sublist _)))) ?_
                     refine JL.loadH 0 az_3 rfl hc199 rfl .none rfl ?_
                     refine JA.cont ?_
                     refine JA.take 8 (listed' := #[true, true, true, true, true, true, true, true, true, false, false, false, false, false, false, false, false, false, false, false, false, false, false]) hQ rfl (by kernel_rfl) (by kernel_rfl) (by kernel_rfl) (by kernel_rfl) (by kernel_rfl) hE (HSub.refl _) (.cons_cons _ (.cons_cons _ (.cons_cons _ (List.nil_sublist _)))) ?_
                     refine JL.fieldAddr fo_34_1 rfl .none rfl ?_
                     refine JA.cont ?_
                     refine JA.take 9 (listed' := #[true, true, true, true, true, true, true, true, true, true, false, false, false, false, false, false, false, false, false, false, false, false, false]) hQ rfl (by kernel_rfl) (by kernel_rfl) (by kernel_rfl) (by kernel_rfl) (by kernel_rfl) hE (HSub.refl _) (.cons_cons _ (.cons_cons _ (.cons_cons _ (List.nil_sublist _)))) ?_
                     refine JL.loadOwn 2 az_31 rfl rfl rfl .none rfl ?_
                     refine JA.cont ?_
                     refine JA.take 10 (listed' := #[true, true, true, true, true, true, true, true, true, true, true, false, false, false, false, false, false, false, false, false, false, false, false]) hQ rfl (by kernel_rfl) (by kernel_rfl) (by kernel_rfl) (by kernel_rfl) (by kernel_rfl) hE (HSub.refl _) (.cons_cons _ (.cons_cons _ (.cons_cons _ (List.nil_sublist _)))) ?_
                     refine JL.fieldAddr fo_43_2 rfl .none rfl ?_
                     refine JA.cont ?_
                     refine JA.take 11 (listed' := #[true, true, true, true, true, true, true, true, true, true, true, true, false, false, false, false, false, false, false, false, false, false, false]) hQ rfl (by kernel_rfl) (by kernel_rfl) (by kernel_rfl) (by kernel_rfl) (by kernel_rfl) hE (HSub.refl _) (.cons_cons _ (.cons_cons _ (.cons_cons _ (List.nil_sublist _)))) ?_
                     refine JL.loadOwn 1 az_3 rfl rfl rfl .none rfl ?_
                     refine JA.cont ?_
                     refine JA.take 12 (listed' := #[true, true, true, true, true, true, true, true, true, true, true, true, true, false, false, false, false, false, false, false, false, false, false]) hQ rfl (by kernel_rfl) (by kernel_rfl) (by kernel_rfl) (by kernel_rfl) (by kernel_rfl) hE (HSub.refl _) (.cons_cons _ (.cons_cons _ (.cons_cons _ (List.nil_sublist _)))) ?_
                     refine JL.indexSL (R := R_Blow) sl_31 (SL.mono R_Blow_mono (HSub.trans hs23 hs144) hr_9) rfl hy162 .none rfl ?_
                     rintro b204 o205 cs206 hc207 - rfl
                     refine JA.cont ?_
                     refine JA.take 13 (listed' := #[true, true, true, true, true, true, true, true, true, true, true, true, true, true, false, false, false, false, false, false, false, false, false]) hQ rfl (by kernel_rfl) (by kernel_rfl) (by kernel_rfl) (by kernel_rfl) (by kernel_rfl) hE (HSub.refl _) (.cons_cons _ (.cons_cons _ (.cons_cons _ (List.nil_sublist _)))) ?_
                     refine JL.fieldAddr fo_56_0 rfl .none rfl ?_
                     refine JA.cont ?_
                     refine JA.take 14 (listed' := #[true, true, true, true, true, true, true, true, true, true, true, true, true, true, true, false, false, false, false, false, false, false, false]) hQ rfl (by kernel_rfl) (by kernel_rfl) (by kernel_rfl) (by kernel_rfl) (by kernel_rfl) hE (HSub.refl _) (.cons_cons _ (.cons_cons _ (.cons_cons _ (List.nil_sublist _)))) ?_
                     refine JL.loadH 0 az_3 rfl hc207 rfl .none rfl ?_
                     refine JA.cont ?_
                     refine JA.take 15 (listed' := #[true, true, true, true, true, true, true, true, true, true, true, true, true, true, true, true, false, false, false, false, false, false, false]) hQ rfl (by kernel_rfl) (by kernel_rfl) (by kernel_rfl) (by kernel_rfl) (by kernel_rfl) hE (HSub.refl _) (.cons_cons _ (.cons_cons _ (.cons_cons _ (List.nil_sublist _)))) ?_
                     refine JL.build (l := [.int .i64 y157, .int .i64 y162.At]) (by kernel_rfl) .none rfl ?_
                     refine JA.cont ?_
                     refine JA.many [16] (by kernel_rfl) (by simp) (all_one ⟨_, #[true, true, true, true, true, true, true, true, true, true, true, true, true, true, true, true, true, false, false, false, false, false, false], rfl, (by kernel_rfl), ?_⟩)
                     refine JL.buildSlice (e := 58) (l := [.int .i64 y157, .int .i64 y162.At]) (by kernel_rfl) .none rfl ?_
                     intro b208
                     refine JA.after hE (HSub.refl _) (.cons _ (.cons_cons _ (.cons_cons _ (.cons_cons _ (List.nil_sublist _))))) ?_
                     refine JA.many [17] (by kernel_rfl) (by simp) (all_one ⟨_, #[true, true, true, true, true, true, true, true, true, true, true, true, true, true, true, true, true, true, false, false, false, false, false], rfl, (by kernel_rfl), ?_⟩)
                     refine JL.freezeC 0 (l := [.int .i64 y157, .int .i64 y162.At]) rfl ?_
                     intro H209 hs209 hc210
                     have hg211 : SL H209 2 R_Gust (.slice (some ⟨b208, 0, none⟩) 1 1) [(Gust.mk y157 y162.At)] := CH.sl (l := [(Gust.mk y157 y162.At)]) (CH.cons (cs := [.int .i64 y157, .int .i64 y162.At]) rfl rfl CH.nil) hc210 ⟨by simp, by simp⟩
                     refine JL.callS (c_gusts_Stands n H209 r.Canopy r_v0 (SL.mono R_Section_mono (HSub.trans hs23 (HSub.trans hs144 hs209)) hr_0) r_v7 (SL.mono R_Span_mono (HSub.trans hs23 (HSub.trans hs144 hs209)) hr_7) r_v8 (SL.mono RInt.mono (HSub.trans hs23 (HSub.trans hs144 hs209)) hr_8) [(Gust.mk y157 y162.At)] (.slice (some ⟨b208, 0, none⟩) 1 1) hg211 y171 hy171) rfl en_16 .none rfl ?_
                     refine JA.after hE hs209 (.cons_cons _ (.cons_cons _ (.cons_cons _ (List.nil_sublist _)))) ?_
                     refine JA.take 18 (listed' := #[true, true, true, true, true, true, true, true, true, true, true, true, true, true, true, true, true, true, true, false, false, false, false]) hQ rfl (by kernel_rfl) (by kernel_rfl) (by kernel_rfl) (by kernel_rfl) (by kernel_rfl) hE hs209 (.cons_cons _ (.cons_cons _ (.cons_cons _ (List.nil_sublist _)))) ?_
                     refine JL.move .none rfl ?_
                     refine JA.cont ?_
                     refine JA.take 19 (listed' := #[true, true, true, true, true, true, true, true, true, true, true, true, true, true, true, true, true, true, true, true, false, false, false]) hQ rfl (by kernel_rfl) (by kernel_rfl) (by kernel_rfl) (by kernel_rfl) (by kernel_rfl) hE hs209 (.cons_cons _ (.cons_cons _ (.cons_cons _ (List.nil_sublist _)))) ?_
                     refine JL.extract rfl rfl .none rfl ?_
                     refine JA.cont ?_
                     refine JA.take 20 (listed' := #[true, true, true, true, true, true, true, true, true, true, true, true, true, true, true, true, true, true, true, true, true, false, false]) hQ rfl (by kernel_rfl) (by kernel_rfl) (by kernel_rfl) (by kernel_rfl) (by kernel_rfl) hE hs209 (.cons_cons _ (.cons_cons _ (.cons_cons _ (List.nil_sublist _)))) ?_
                     refine JL.extract rfl rfl .none rfl ?_
                     refine JA.cont ?_
                     refine JA.take 21 (listed' := #[true, true, true, true, true, true, true, true, true, true, true, true, true, true, true, true, true, true, true, true, true, true, false]) hQ rfl (by kernel_rfl) (by kernel_rfl) (by kernel_rfl) (by kernel_rfl) (by kernel_rfl) hE hs209 (.cons_cons _ (.cons_cons _ (.cons_cons _ (List.nil_sublist _)))) ?_
                     refine JL.assign .none rfl ?_
                     refine JA.cont ?_
                     refine JA.take 22 (listed' := #[true, true, true, true, true, true, true, true, true, true, true, true, true, true, true, true, true, true, true, true, true, true, true]) hQ rfl (by kernel_rfl) (by kernel_rfl) (by kernel_rfl) (by kernel_rfl) (by kernel_rfl) hE hs209 (.cons_cons _ (.cons_cons _ (.cons_cons _ (List.nil_sublist _)))) ?_
                     refine JL.assign .none rfl ?_
                     refine JA.cont ?_
                     refine JA.done hQ (by kernel_rfl) ?_
                     refine JQ.go ?_
                     refine JC.fresh (fun f => f 2 = .pointer (some ⟨b1, 0, none⟩) ∧ f 3 = .pointer (some ⟨b2, 0, none⟩) ∧ f 5 = .int .i64 y19.1 ∧ f 7 = .pointer (some ⟨b21, 0, none⟩) ∧ f 11 = .int .i64 y106.1 ∧ f 12 = .int .i64 y106.2 ∧ f 13 = .int .i64 y171.1 ∧ f 14 = .int .i64 y171.2) ⟨rfl, rfl, rfl, rfl, rfl, rfl, rfl, rfl⟩ ?_
                     rintro f ⟨hf2, hf3, hf5, hf7, hf11, hf12, hf13, hf14⟩
                     refine (JC.norm (i := 2) hf2 (JC.norm (i := 3) hf3 (JC.norm (i := 5) hf5 (JC.norm (i := 7) hf7 (JC.norm (i := 11) hf11 (JC.norm (i := 12) hf12 (JC.norm (i := 13) hf13 (JC.norm (i := 14) hf14 ?_))))))))
                     refine JC.seq ?_
                     refine JC.seq ?_
                     refine JC.region (by rfl) ?_
                     intro hQ
                     refine JL.move .none rfl ?_
                     refine JL.bin rfl rfl rfl .none rfl ?_
                     refine JL.move .none rfl ?_
                     refine JL.cut 3 (fun f => f 2 = .pointer (some ⟨b1, 0, none⟩) ∧ f 3 = .pointer (some ⟨b2, 0, none⟩) ∧ f 5 = .int .i64 y19.1 ∧ f 7 = .pointer (some ⟨b21, 0, none⟩) ∧ f 11 = .int .i64 y106.1 ∧ f 13 = .int .i64 y171.1 ∧ f 203 = .bool ((y106.2 != 0) || (y171.2 != 0))) ?_ ?_
                     ·intro hJ212
                      rcases bcases (y106.2 != 0) with hc213 | hc213
                      ·skip
                       refine JL.skip (.bool rfl rfl rfl hc213) rfl ?_
                       refine JL.skip (.bool rfl rfl rfl hc213) rfl ?_
                       refine JL.pick_t (b := (y106.2 != 0)) rfl hc213 .none rfl ?_
                       exact hJ212 _ ⟨rfl, rfl, rfl, rfl, rfl, rfl, or_t hc213 rfl⟩
                      ·skip
                       refine JL.move (.some rfl rfl rfl hc213) rfl ?_
                       refine JL.bin rfl rfl rfl (.some rfl rfl rfl hc213) rfl ?_
                       refine JL.pick_f (b := (y106.2 != 0)) rfl hc213 .none rfl ?_
                       exact hJ212 _ ⟨rfl, rfl, rfl, rfl, rfl, rfl, or_f hc213 rfl⟩
                     ·rintro f ⟨hf2, hf3, hf5, hf7, hf11, hf13, hf203⟩
                      refine (JL.norm (i := 2) hf2 (JL.norm (i := 3) hf3 (JL.norm (i := 5) hf5 (JL.norm (i := 7) hf7 (JL.norm (i := 11) hf11 (JL.norm (i := 13) hf13 (JL.norm (i := 203) hf203 ?_)))))))
                      refine JL.move .none rfl ?_
                      refine JL.cut 7 (fun f => f 2 = .pointer (some ⟨b1, 0, none⟩) ∧ f 3 = .pointer (some ⟨b2, 0, none⟩) ∧ f 5 = .int .i64 y19.1 ∧ f 7 = .pointer (some ⟨b21, 0, none⟩) ∧ f 13 = .int .i64 y171.1 ∧ f 211 = .bool (((y106.2 != 0) || (y171.2 != 0)) || ((y106.1 == 2) && (y19.1 != 2)))) ?_ ?_
                      ·intro hJ216
                       rcases bcases ((y106.2 != 0) || (y171.2 != 0)) with hc217 | hc217
                       ·skip
                        refine JL.skip (.bool rfl rfl rfl hc217) rfl ?_
                        refine JL.skip (.bool rfl rfl rfl hc217) rfl ?_
                        refine JL.skip (.bool rfl rfl rfl hc217) rfl ?_
                        refine JL.skip (.no rfl rfl rfl) rfl ?_
                        refine JL.skip (.no rfl rfl rfl) rfl ?_
                        refine JL.skip (.bool rfl rfl rfl hc217) rfl ?_
                        refine JL.pick_t (b := ((y106.2 != 0) || (y171.2 != 0))) rfl hc217 .none rfl ?_
                        exact hJ216 _ ⟨rfl, rfl, rfl, rfl, rfl, or_t hc217 rfl⟩
                       ·skip
                        refine JL.move (.some rfl rfl rfl hc217) rfl ?_
                        refine JL.bin rfl rfl rfl (.some rfl rfl rfl hc217) rfl ?_
                        refine JL.move (.some rfl rfl rfl hc217) rfl ?_
                        refine JL.cut 3 (fun f => f 2 = .pointer (some ⟨b1, 0, none⟩) ∧ f 3 = .pointer (some ⟨b2, 0, none⟩) ∧ f 5 = .int .i64 y19.1 ∧ f 7 = .pointer (some ⟨b21, 0, none⟩) ∧ f 13 = .int .i64 y171.1 ∧ f 204 = .bool ((y106.2 != 0) || (y171.2 != 0)) ∧ f 210 = .bool ((y106.1 == 2) && (y19.1 != 2))) ?_ ?_
                        ·intro hJ218
                         rcases bcases (y106.1 == 2) with hc219 | hc219
                         ·skip
                          refine JL.move (.some rfl rfl rfl hc219) rfl ?_
                          refine JL.bin rfl rfl rfl (.some rfl rfl rfl hc219) rfl ?_
                          refine JL.pick_t (b := (y106.1 == 2)) rfl hc219 (.some rfl rfl rfl hc217) rfl ?_
                          exact hJ218 _ ⟨rfl, rfl, rfl, rfl, rfl, rfl, and_t hc219 rfl⟩
                         ·skip
                          refine JL.skip (.bool rfl rfl rfl hc219) rfl ?_
                          refine JL.skip (.bool rfl rfl rfl hc219) rfl ?_
                          refine JL.pick_f (b := (y106.1 == 2)) rfl hc219 (.some rfl rfl rfl hc217) rfl ?_
                          exact hJ218 _ ⟨rfl, rfl, rfl, rfl, rfl, rfl, and_f hc219 rfl⟩
                        ·rintro f ⟨hf2, hf3, hf5, hf7, hf13, hf204, hf210⟩
                         refine (JL.norm (i := 2) hf2 (JL.norm (i := 3) hf3 (JL.norm (i := 5) hf5 (JL.norm (i := 7) hf7 (JL.norm (i := 13) hf13 (JL.norm (i := 204) hf204 (JL.norm (i := 210) hf210 ?_)))))))
                         refine JL.pick_f (b := ((y106.2 != 0) || (y171.2 != 0))) rfl hc217 .none rfl ?_
                         exact hJ216 _ ⟨rfl, rfl, rfl, rfl, rfl, or_f hc217 rfl⟩
                      ·rintro f ⟨hf2, hf3, hf5, hf7, hf13, hf211⟩
                       refine (JL.norm (i := 2) hf2 (JL.norm (i := 3) hf3 (JL.norm (i := 5) hf5 (JL.norm (i := 7) hf7 (JL.norm (i := 13) hf13 (JL.norm (i := 211) hf211 ?_))))))
                       refine JL.move .none rfl ?_
                       refine JL.cut 7 (fun f => f 2 = .pointer (some ⟨b1, 0, none⟩) ∧ f 3 = .pointer (some ⟨b2, 0, none⟩) ∧ f 7 = .pointer (some ⟨b21, 0, none⟩) ∧ f 219 = .bool ((((y106.2 != 0) || (y171.2 != 0)) || ((y106.1 == 2) && (y19.1 != 2))) || ((y171.1 != 1) && (y19.1 == 1)))) ?_ ?_
                       ·intro hJ222
                        rcases bcases (((y106.2 != 0) || (y171.2 != 0)) || ((y106.1 == 2) && (y19.1 != 2))) with hc223 | hc223
                        ·skip
                         refine JL.skip (.bool rfl rfl rfl hc223) rfl ?_
                         refine JL.skip (.bool rfl rfl rfl hc223) rfl ?_
                         refine JL.skip (.bool rfl rfl rfl hc223) rfl ?_
                         refine JL.skip (.no rfl rfl rfl) rfl ?_
                         refine JL.skip (.no rfl rfl rfl) rfl ?_
                         refine JL.skip (.bool rfl rfl rfl hc223) rfl ?_
                         refine JL.pick_t (b := (((y106.2 != 0) || (y171.2 != 0)) || ((y106.1 == 2) && (y19.1 != 2)))) rfl hc223 .none rfl ?_
                         exact hJ222 _ ⟨rfl, rfl, rfl, or_t hc223 rfl⟩
                        ·skip
                         refine JL.move (.some rfl rfl rfl hc223) rfl ?_
                         refine JL.bin rfl rfl rfl (.some rfl rfl rfl hc223) rfl ?_
                         refine JL.move (.some rfl rfl rfl hc223) rfl ?_
                         refine JL.cut 3 (fun f => f 2 = .pointer (some ⟨b1, 0, none⟩) ∧ f 3 = .pointer (some ⟨b2, 0, none⟩) ∧ f 7 = .pointer (some ⟨b21, 0, none⟩) ∧ f 212 = .bool (((y106.2 != 0) || (y171.2 != 0)) || ((y106.1 == 2) && (y19.1 != 2))) ∧ f 218 = .bool ((y171.1 != 1) && (y19.1 == 1))) ?_ ?_
                         ·intro hJ224
                          rcases bcases (y171.1 != 1) with hc225 | hc225
                          ·skip
                           refine JL.move (.some rfl rfl rfl hc225) rfl ?_
                           refine JL.bin rfl rfl rfl (.some rfl rfl rfl hc225) rfl ?_
                           refine JL.pick_t (b := (y171.1 != 1)) rfl hc225 (.some rfl rfl rfl hc223) rfl ?_
                           exact hJ224 _ ⟨rfl, rfl, rfl, rfl, and_t hc225 rfl⟩
                          ·skip
                           refine JL.skip (.bool rfl rfl rfl hc225) rfl ?_
                           refine JL.skip (.bool rfl rfl rfl hc225) rfl ?_
                           refine JL.pick_f (b := (y171.1 != 1)) rfl hc225 (.some rfl rfl rfl hc223) rfl ?_
                           exact hJ224 _ ⟨rfl, rfl, rfl, rfl, and_f hc225 rfl⟩
                         ·rintro f ⟨hf2, hf3, hf7, hf212, hf218⟩
                          refine (JL.norm (i := 2) hf2 (JL.norm (i := 3) hf3 (JL.norm (i := 7) hf7 (JL.norm (i := 212) hf212 (JL.norm (i := 218) hf218 ?_)))))
                          refine JL.pick_f (b := (((y106.2 != 0) || (y171.2 != 0)) || ((y106.1 == 2) && (y19.1 != 2)))) rfl hc223 .none rfl ?_
                          exact hJ222 _ ⟨rfl, rfl, rfl, or_f hc223 rfl⟩
                       ·rintro f ⟨hf2, hf3, hf7, hf219⟩
                        refine (JL.norm (i := 2) hf2 (JL.norm (i := 3) hf3 (JL.norm (i := 7) hf7 (JL.norm (i := 219) hf219 ?_))))
                        refine JL.done hQ ?_
                        refine JQ.go ?_
                        rcases ite_some hF with ⟨hc226, hF⟩ | ⟨hc226, hF⟩
                        ·refine JC.cond_t (b := ((((y106.2 != 0) || (y171.2 != 0)) || ((y106.1 == 2) && (y19.1 != 2))) || ((y171.1 != 1) && (y19.1 == 1)))) rfl hc226 ?_
                         refine JC.seq ?_
                         refine JC.region (by rfl) ?_
                         intro hQ
                         refine JL.assign .none rfl ?_
                         refine JL.done hQ ?_
                         refine JQ.go ?_
                         refine JC.ret ?_
                         refine JQ.ret_then ?_
                         obtain rfl := Option.some.inj hF
                         exact JQ.outS rfl (.tmp .nil) rfl
                        ·refine JC.cond_f (b := ((((y106.2 != 0) || (y171.2 != 0)) || ((y106.1 == 2) && (y19.1 != 2))) || ((y171.1 != 1) && (y19.1 == 1)))) rfl hc226 ?_
                         refine JC.skip ?_
                         refine JQ.go ?_
                         refine JC.seq ?_
                         refine JC.region (by rfl) ?_
                         intro hQ
                         refine JL.loadOwn 2 az_34 rfl rfl rfl .none rfl ?_
                         obtain ⟨y227, hy227, hF⟩ := bind_some hF
                         refine JL.callXC (x_ref13_Copy n H209 r r_v0 (SL.mono R_Section_mono (HSub.trans hs23 (HSub.trans hs144 hs209)) hr_0) r_v7 (SL.mono R_Span_mono (HSub.trans hs23 (HSub.trans hs144 hs209)) hr_7) r_v8 (SL.mono RInt.mono (HSub.trans hs23 (HSub.trans hs144 hs209)) hr_8) r_v9 (SL.mono R_Blow_mono (HSub.trans hs23 (HSub.trans hs144 hs209)) hr_9) r_v10 (SL.mono R_Meter_mono (HSub.trans hs23 (HSub.trans hs144 hs209)) hr_10) y227 hy227) rfl en_10 .none rfl ?_
                         rintro H228 vv229 _ hs228 ⟨y227_v0, y227_xs0, y227_v1, y227_xs1, y227_v2, y227_xs2, y227_v3, y227_xs3, y227_v4, y227_xs4, rfl, rfl, hy227_0, hy227_1, hy227_2, hy227_3, hy227_4⟩
                         refine JL.alloc ze_34 .none rfl ?_
                         intro b235
                         refine JL.oneG 4 rfl (fun ho236 => ?_)
                         refine JL.oneG 3 rfl (fun ho237 => ?_)
                         refine JL.oneG 2 rfl (fun ho238 => ?_)
                         refine JL.oneG 1 rfl (fun ho239 => ?_)
                         refine JL.oneG 0 rfl (fun ho240 => ?_)
                         refine JL.storeOwn 0 (cs := [y227_v0, .int .i64 y227.Canopy.Frame.Low, .int .i64 y227.Canopy.Frame.High, .int .i64 y227.Canopy.Frame.Ease.Num, .int .i64 y227.Canopy.Frame.Ease.Den, .int .i64 y227.Canopy.Frame.Rod, .int .i64 y227.Canopy.Frame.Case, y227_v1, y227_v2, y227_v3, y227_v4, .int .i64 y227.Wrong]) az_34 rfl rfl rfl (one_cons ho236.1 (one_cons rfl (one_cons rfl (one_cons rfl (one_cons rfl (one_cons rfl (one_cons rfl (one_cons ho237.1 (one_cons ho238.1 (one_cons ho239.1 (one_cons ho240.1 (one_cons rfl one_nil)))))))))))) rfl rfl .none ?_
                         refine JL.done hQ ?_
                         refine JQ.go ?_
                         refine JC.seq ?_
                         refine JC.region (by rfl) ?_
                         intro hQ
                         refine JL.fieldAddr fo_34_0 rfl .none rfl ?_
                         refine JL.fieldAddr fo_30_1 rfl .none rfl ?_
                         refine JL.loadOwn 0 az_27 rfl rfl rfl .none rfl ?_
                         refine JL.fieldAddr fo_43_0 rfl .none rfl ?_
                         refine JL.loadOwn 2 az_3 rfl rfl rfl .none rfl ?_
                         obtain ⟨y241, hy241, hF⟩ := bind_some hF
                         refine JL.indexG 3 (l := y227.Canopy.Ribs) sl_27 rfl rfl rfl rfl hy241 .none rfl ?_
                         intro b242 hb243
                         refine JL.loadG (R := R_Span) 3 (i := x_.Rib) (l := y227.Canopy.Ribs) (off := 0) az_49 rfl rfl rfl hb243 hy227_1 hy241 (by rintro cs rfl; rfl) .none rfl ?_
                         refine JL.alloc ze_49 .none rfl ?_
                         intro b244
                         refine JL.storeOwn 0 (cs := [.int .i64 y241.Low, .int .i64 y241.High]) az_49 rfl rfl rfl (one_cons rfl (one_cons rfl one_nil)) rfl rfl .none ?_
                         refine JL.done hQ ?_
                         refine JQ.go ?_
                         refine JC.fresh (fun f => f 3 = .pointer (some ⟨b2, 0, none⟩) ∧ f 7 = .pointer (some ⟨b21, 0, none⟩) ∧ f 15 = .pointer (some ⟨b235, 0, none⟩) ∧ f 16 = .pointer (some ⟨b244, 0, none⟩)) ⟨rfl, rfl, rfl, rfl⟩ ?_
                         rintro f ⟨hf3, hf7, hf15, hf16⟩
                         refine (JC.norm (i := 3) hf3 (JC.norm (i := 7) hf7 (JC.norm (i := 15) hf15 (JC.norm (i := 16) hf16 ?_))))
                         refine JC.seq ?_
                         refine JC.region (by rfl) ?_
                         intro hQ
                         refine JL.fieldAddr fo_34_0 rfl .none rfl ?_
                         refine JL.fieldAddr fo_30_1 rfl .none rfl ?_
                         refine JL.loadOwn 1 az_27 rfl rfl rfl .none rfl ?_
                         refine JL.fieldAddr fo_43_0 rfl .none rfl ?_
                         refine JL.loadOwn 3 az_3 rfl rfl rfl .none rfl ?_
                         refine JL.fieldAddr fo_49_0 rfl .none rfl ?_
                         refine JL.loadOwn 0 az_3 rfl rfl rfl .none rfl ?_
                         refine JL.fieldAddr fo_43_1 rfl .none rfl ?_
                         refine JL.loadOwn 3 az_3 rfl rfl rfl .none rfl ?_
                         refine JL.bin rfl rfl rfl .none rfl ?_
                         refine JL.min rfl rfl .none rfl ?_
                         refine JL.fieldAddr fo_49_1 rfl .none rfl ?_
                         refine JL.loadOwn 0 az_3 rfl rfl rfl .none rfl ?_
                         refine JL.fieldAddr fo_43_1 rfl .none rfl ?_
                         refine JL.loadOwn 3 az_3 rfl rfl rfl .none rfl ?_
                         refine JL.bin rfl rfl rfl .none rfl ?_
                         refine JL.min rfl rfl .none rfl ?_
                         refine JL.build (l := [.int .i64 (min 99999 (w64 (y241.Low + x_.By))), .int .i64 (min 99999 (w64 (y241.High + x_.By)))]) (by kernel_rfl) .none rfl ?_
                         obtain ⟨y245, hy245, hF⟩ := bind_some hF
                         refine JL.indexG 3 (l := y227.Canopy.Ribs) sl_27 rfl rfl rfl rfl hy245 .none rfl ?_
                         intro b246 hb247
                         refine JL.storeG (R := R_Span) 3 (i := x_.Rib) (l := y227.Canopy.Ribs) (y := y245) (y' := (Span.mk (min 99999 (w64 (y241.Low + x_.By))) (min 99999 (w64 (y241.High + x_.By))))) (off := 0) az_49 rfl rfl rfl rfl (one_cons rfl (one_cons rfl one_nil)) rfl hb247 hy227_1 rfl hy245 rfl (by rintro cs rfl; rfl) .none ?_
                         intro xs248 hch249
                         refine JL.done hQ ?_
                         refine JQ.go ?_
                         refine JC.fresh (fun f => f 7 = .pointer (some ⟨b21, 0, none⟩) ∧ f 15 = .pointer (some ⟨b235, 0, none⟩)) ⟨rfl, rfl⟩ ?_
                         rintro f ⟨hf7, hf15⟩
                         refine (JC.norm (i := 7) hf7 (JC.norm (i := 15) hf15 ?_))
                         refine JC.seq ?_
                         refine JC.region (by rfl) ?_
                         intro hQ
                         refine JL.loadOwn 1 az_34 rfl rfl rfl .none rfl ?_
                         refine JL.freezeG 4 (R := R_Section) rfl R_Section_mono hy227_0 rfl ?_
                         intro H250 hs250 hg251
                         refine JL.freezeG 3 (R := R_Span) rfl R_Span_mono (CH.mono R_Span_mono hs250 hch249) rfl ?_
                         intro H252 hs252 hg253
                         refine JL.freezeG 2 (R := RInt) rfl RInt.mono (CH.mono RInt.mono (HSub.trans hs250 hs252) hy227_2) rfl ?_
                         intro H254 hs254 hg255
                         refine JL.freezeG 1 (R := R_Blow) rfl R_Blow_mono (CH.mono R_Blow_mono (HSub.trans hs250 (HSub.trans hs252 hs254)) hy227_3) rfl ?_
                         intro H256 hs256 hg257
                         refine JL.freezeG 0 (R := R_Meter) rfl R_Meter_mono (CH.mono R_Meter_mono (HSub.trans hs250 (HSub.trans hs252 (HSub.trans hs254 hs256))) hy227_4) rfl ?_
                         intro H258 hs258 hg259
                         obtain ⟨y260, hy260, hF⟩ := bind_some hF
                         refine JL.callS (c_counts_Harm n H258 (Run.mk (Canopy.mk y227.Canopy.Frame (setx y227.Canopy.Ribs x_.Rib (Span.mk (min 99999 (w64 (y241.Low + x_.By))) (min 99999 (w64 (y241.High + x_.By))))) y227.Canopy.Shares) y227.Blows y227.Meters y227.Wrong) y227_v0 (SL.mono R_Section_mono (HSub.trans hs252 (HSub.trans hs254 (HSub.trans hs256 hs258))) hg251) y227_v1 (SL.mono R_Span_mono (HSub.trans hs254 (HSub.trans hs256 hs258)) hg253) y227_v2 (SL.mono RInt.mono (HSub.trans hs256 hs258) hg255) y227_v3 (SL.mono R_Blow_mono hs258 hg257) y227_v4 hg259 y260 hy260) rfl en_14 .none rfl ?_
                         refine JL.move .none rfl ?_
                         refine JL.extract rfl rfl .none rfl ?_
                         refine JL.extract rfl rfl .none rfl ?_
                         refine JL.alloc ze_49 .none rfl ?_
                         intro b261
                         refine JL.storeOwn 0 (cs := [.int .i64 y260.1.Low, .int .i64 y260.1.High]) az_49 rfl rfl rfl (one_cons rfl (one_cons rfl one_nil)) rfl rfl .none ?_
                         refine JL.assign .none rfl ?_
                         refine JL.done hQ ?_
                         refine JQ.go ?_
                         refine JC.seq ?_
                         refine JC.region (by rfl) ?_
                         intro hQ
                         refine JL.move .none rfl ?_
                         refine JL.bin rfl rfl rfl .none rfl ?_
                         refine JL.move .none rfl ?_
                         refine JL.cut 6 (fun f => f 7 = .pointer (some ⟨b21, 0, none⟩) ∧ f 17 = .pointer (some ⟨b261, 0, none⟩) ∧ f 261 = .bool ((y260.2 == 0) && (decide (y260.1.Low ≤ y20.1.Low)))) ?_ ?_
                         ·intro hJ262
                          rcases bcases (y260.2 == 0) with hc263 | hc263
                          ·skip
                           refine JL.fieldAddr fo_49_0 rfl (.some rfl rfl rfl hc263) rfl ?_
                           refine JL.loadOwn 0 az_3 rfl rfl rfl (.some rfl rfl rfl hc263) rfl ?_
                           refine JL.fieldAddr fo_49_0 rfl (.some rfl rfl rfl hc263) rfl ?_
                           refine JL.loadOwn 3 az_3 rfl rfl rfl (.some rfl rfl rfl hc263) rfl ?_
                           refine JL.bin rfl rfl rfl (.some rfl rfl rfl hc263) rfl ?_
                           refine JL.pick_t (b := (y260.2 == 0)) rfl hc263 .none rfl ?_
                           exact hJ262 _ ⟨rfl, rfl, and_t hc263 rfl⟩
                          ·skip
                           refine JL.skip (.bool rfl rfl rfl hc263) rfl ?_
                           refine JL.skip (.bool rfl rfl rfl hc263) rfl ?_
                           refine JL.skip (.bool rfl rfl rfl hc263) rfl ?_
                           refine JL.skip (.bool rfl rfl rfl hc263) rfl ?_
                           refine JL.skip (.bool rfl rfl rfl hc263) rfl ?_
                           refine JL.pick_f (b := (y260.2 == 0)) rfl hc263 .none rfl ?_
                           exact hJ262 _ ⟨rfl, rfl, and_f hc263 rfl⟩
                         ·rintro f ⟨hf7, hf17, hf261⟩
                          refine (JL.norm (i := 7) hf7 (JL.norm (i := 17) hf17 (JL.norm (i := 261) hf261 ?_)))
                          refine JL.move .none rfl ?_
                          refine JL.cut 6 (fun f => f 268 = .bool (((y260.2 == 0) && (decide (y260.1.Low ≤ y20.1.Low))) && (decide (y260.1.High ≤ y20.1.High)))) ?_ ?_
                          ·intro hJ264
                           rcases bcases ((y260.2 == 0) && (decide (y260.1.Low ≤ y20.1.Low))) with hc265 | hc265
                           ·skip
                            refine JL.fieldAddr fo_49_1 rfl (.some rfl rfl rfl hc265) rfl ?_
                            refine JL.loadOwn 0 az_3 rfl rfl rfl (.some rfl rfl rfl hc265) rfl ?_
                            refine JL.fieldAddr fo_49_1 rfl (.some rfl rfl rfl hc265) rfl ?_
                            refine JL.loadOwn 3 az_3 rfl rfl rfl (.some rfl rfl rfl hc265) rfl ?_
                            refine JL.bin rfl rfl rfl (.some rfl rfl rfl hc265) rfl ?_
                            refine JL.pick_t (b := ((y260.2 == 0) && (decide (y260.1.Low ≤ y20.1.Low)))) rfl hc265 .none rfl ?_
                            exact hJ264 _ (and_t hc265 rfl)
                           ·skip
                            refine JL.skip (.bool rfl rfl rfl hc265) rfl ?_
                            refine JL.skip (.bool rfl rfl rfl hc265) rfl ?_
                            refine JL.skip (.bool rfl rfl rfl hc265) rfl ?_
                            refine JL.skip (.bool rfl rfl rfl hc265) rfl ?_
                            refine JL.skip (.bool rfl rfl rfl hc265) rfl ?_
                            refine JL.pick_f (b := ((y260.2 == 0) && (decide (y260.1.Low ≤ y20.1.Low)))) rfl hc265 .none rfl ?_
                            exact hJ264 _ (and_f hc265 rfl)
                          ·rintro f hf268
                           refine (JL.norm (i := 268) hf268 ?_)
                           refine JL.move .none rfl ?_
                           obtain ⟨p267, hp267, hF⟩ := bind_some hF
                           refine JL.cut 2 (fun f => f 271 = .bool p267) ?_ ?_
                           ·intro hJ268
                            rcases ite_some hp267 with ⟨hc269, hF⟩ | ⟨hc269, hF⟩
                            ·skip
                             obtain ⟨y270, hy270, hF⟩ := bind_some hF
                             refine JL.callS (c_law13_works n H258 y270 hy270) rfl en_9 (.some rfl rfl rfl hc269) rfl ?_
                             refine JL.pick_t (b := (((y260.2 == 0) && (decide (y260.1.Low ≤ y20.1.Low))) && (decide (y260.1.High ≤ y20.1.High)))) rfl hc269 .none rfl ?_
                             obtain rfl := Option.some.inj hF
                             exact hJ268 _ (rfl)
                            ·skip
                             refine JL.skip (.bool rfl rfl rfl hc269) rfl ?_
                             refine JL.pick_f (b := (((y260.2 == 0) && (decide (y260.1.Low ≤ y20.1.Low))) && (decide (y260.1.High ≤ y20.1.High)))) rfl hc269 .none rfl ?_
                             obtain rfl := Option.some.inj hF
                             exact hJ268 _ (rfl)
                           ·rintro f hf271
                            refine (JL.norm (i := 271) hf271 ?_)
                            refine JL.assign .none rfl ?_
                            refine JL.done hQ ?_
                            refine JQ.go ?_
                            refine JC.ret ?_
                            obtain rfl := Option.some.inj hF
                            exact JQ.outS rfl (.tmp .nil) rfl

end Go.Proofs.Ytcipdblhopffbaa
end
