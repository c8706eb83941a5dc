/-
  Printed by a program: functions of the translation as plain functions, and their contracts.
-/
import Derived.Test.YteihdclpiekmaaaLfGenK7
namespace Go.Proofs.Yteihdclpiekmaaa
open Go Go.RowKit Go.Dec
set_option linter.unusedVariables false
-- 5 ferrule/ferruletop.TopLift
def F_top_TopLift (n : Nat) (d : Canopy) (at_ : Int) : Option Bool :=
  (F_law05_Far n d).bind fun y2 => (if y2 = true then (some true) else ((F_ref05_Check n d).bind fun y7 => some (y7 != 0)) : Option Bool).bind fun p4 => (if p4 = true then (some true) else ((F_ref05_IsRib n d at_).bind fun y12 => some (!y12)) : Option Bool).bind fun p9 => if p9 = true then ((F_top_blown n).bind fun y14 => some y14) else ((F_frames_Cosine n d.Frame 0 d.Frame.Low).bind fun y15 => (F_gusts_Lift n d).bind fun y18 => (if (((((((y15.2.2 != 0) || (y18.2 != 0)) || (decide (y15.1.Den < 1))) || (decide (y15.2.1.Den < 1))) || (decide (1073741824 < y15.1.Den))) || (decide (1073741824 < y15.2.1.Den))) || (decide (1099511627776 < (max (max (max y15.1.Num (w64 (-y15.1.Num))) y15.2.1.Num) (w64 (-y15.2.1.Num)))))) = true then (some true) else ((F_top_lifted n y15.1).bind fun y58 => some (y18.1.Low != y58)) : Option Bool).bind fun p55 => (if p55 = true then (some true) else ((F_top_lifted n y15.2.1).bind fun y63 => some (y18.1.High != y63)) : Option Bool).bind fun p60 => if p60 = true then (some false) else ((F_gusts_Most n d at_).bind fun y65 => if (((y65.2 != 0) || (decide (y65.1 < 0))) || (decide (99 < y65.1))) = true then (some false) else ((F_gusts_Goes n d (Gust.mk y65.1 at_)).bind fun y71 => if ((y71.2.2 != 0) || (decide (0 < (y71.2.1.length : Int)))) = true then (some false) else (if (y65.1 == 99) = true then ((F_top_blown n).bind fun y78 => some y78) else ((F_gusts_Goes n d (Gust.mk (w64 (y65.1 + 1)) at_)).bind fun y79 => (if ((y79.2.2 == 0) && (decide (0 < (y79.2.1.length : Int)))) = true then ((F_top_blown n).bind fun y88 => some y88) else (some false) : Option Bool).bind fun p85 => some p85)))))
set_option maxRecDepth 100000 in
set_option maxHeartbeats 40000000 in
theorem c_top_TopLift (n : Nat) (H : Hp) (d : Canopy) (d_v0 : Value) (hd_0 : SL H 7 R_Section d_v0 d.Frame.Sections) (d_v7 : Value) (hd_7 : SL H 2 R_Span d_v7 d.Ribs) (d_v8 : Value) (hd_8 : SL H 1 RInt d_v8 d.Shares) (at_ : Int) (y : Bool) (hF : F_top_TopLift n d at_ = some y) : SC Try.prog 5 [.agg [d_v0, .int .i64 d.Frame.Low, .int .i64 d.Frame.High, .int .i64 d.Frame.Ease.Num, .int .i64 d.Frame.Ease.Den, .int .i64 d.Frame.Rod, .int .i64 d.Frame.Case, d_v7, d_v8].toArray, .int .i64 at_] (.bool y) H := by
  rw [F_top_TopLift] at hF
  refine SC.of (N := 153) Try.func5 rfl rfl rfl fun w => ?_
  refine JC.seq ?_
  refine JC.region (by rfl) ?_
  intro hQ
  refine JL.box (cs := [d_v0, .int .i64 d.Frame.Low, .int .i64 d.Frame.High, .int .i64 d.Frame.Ease.Num, .int .i64 d.Frame.Ease.Den, .int .i64 d.Frame.Rod, .int .i64 d.Frame.Case, d_v7, d_v8]) rfl .none rfl ?_
  intro b1
  refine JL.assign .none rfl ?_
  refine JL.done hQ ?_
  refine JQ.go ?_
  refine JC.seq ?_
  refine JC.seq ?_
  refine JC.region (by rfl) ?_
  intro hQ
  refine JL.loadOwn 0 az_76 rfl rfl rfl .none rfl ?_
  obtain ⟨y2, hy2, hF⟩ := bind_some hF
  refine JL.callS (c_law05_Far n H d d_v0 hd_0 d_v7 hd_7 d_v8 hd_8 y2 hy2) rfl en_32 .none rfl ?_
  refine JL.move .none rfl ?_
  obtain ⟨p4, hp4, hF⟩ := bind_some hF
  refine JL.cut 4 (fun f => f 1 = .int .i64 at_ ∧ f 2 = .pointer (some ⟨b1, 0, none⟩) ∧ f 21 = .bool p4) ?_ ?_
  · intro hJ5
    rcases ite_some hp4 with ⟨hc6, hF⟩ | ⟨hc6, hF⟩
    · skip
      refine JL.skip (.bool rfl rfl rfl hc6) rfl ?_
      refine JL.skip (.bool rfl rfl rfl hc6) rfl ?_
      refine JL.skip (.bool rfl rfl rfl hc6) rfl ?_
      refine JL.pick_t (b := y2) rfl hc6 .none rfl ?_
      obtain rfl := Option.some.inj hF
      exact hJ5 _ ⟨rfl, rfl, rfl⟩
    · skip
      refine JL.loadOwn 0 az_76 rfl rfl rfl (.some rfl rfl rfl hc6) rfl ?_
      obtain ⟨y7, hy7, hF⟩ := bind_some hF
      refine JL.callS (c_ref05_Check n H d d_v0 hd_0 d_v7 hd_7 d_v8 hd_8 y7 hy7) rfl en_33 (.some rfl rfl rfl hc6) rfl ?_
      refine JL.bin rfl rfl rfl (.some rfl rfl rfl hc6) rfl ?_
      refine JL.pick_f (b := y2) rfl hc6 .none rfl ?_
      obtain rfl := Option.some.inj hF
      exact hJ5 _ ⟨rfl, rfl, rfl⟩
  · rintro f ⟨hf1, hf2, hf21⟩
    refine (JL.norm (i := 1) hf1 (JL.norm (i := 2) hf2 (JL.norm (i := 21) hf21 ?_)))
    refine JL.move .none rfl ?_
    obtain ⟨p9, hp9, hF⟩ := bind_some hF
    refine JL.cut 5 (fun f => f 1 = .int .i64 at_ ∧ f 2 = .pointer (some ⟨b1, 0, none⟩) ∧ f 27 = .bool p9) ?_ ?_
    · intro hJ10
      rcases ite_some hp9 with ⟨hc11, hF⟩ | ⟨hc11, hF⟩
      · skip
        refine JL.skip (.bool rfl rfl rfl hc11) rfl ?_
        refine JL.skip (.bool rfl rfl rfl hc11) rfl ?_
        refine JL.skip (.bool rfl rfl rfl hc11) rfl ?_
        refine JL.skip (.bool rfl rfl rfl hc11) rfl ?_
        refine JL.pick_t (b := p4) rfl hc11 .none rfl ?_
        obtain rfl := Option.some.inj hF
        exact hJ10 _ ⟨rfl, rfl, rfl⟩
      · skip
        refine JL.loadOwn 0 az_76 rfl rfl rfl (.some rfl rfl rfl hc11) rfl ?_
        refine JL.move (.some rfl rfl rfl hc11) rfl ?_
        obtain ⟨y12, hy12, hF⟩ := bind_some hF
        refine JL.callS (c_ref05_IsRib n H d d_v0 hd_0 d_v7 hd_7 d_v8 hd_8 at_ y12 hy12) rfl en_34 (.some rfl rfl rfl hc11) rfl ?_
        refine JL.not rfl (.some rfl rfl rfl hc11) rfl ?_
        refine JL.pick_f (b := p4) rfl hc11 .none rfl ?_
        obtain rfl := Option.some.inj hF
        exact hJ10 _ ⟨rfl, rfl, rfl⟩
    · rintro f ⟨hf1, hf2, hf27⟩
      refine (JL.norm (i := 1) hf1 (JL.norm (i := 2) hf2 (JL.norm (i := 27) hf27 ?_)))
      refine JL.done hQ ?_
      refine JQ.go ?_
      rcases ite_some hF with ⟨hc13, hF⟩ | ⟨hc13, hF⟩
      · refine JC.cond_t (b := p9) rfl hc13 ?_
        refine JC.seq ?_
        refine JC.region (by rfl) ?_
        intro hQ
        obtain ⟨y14, hy14, hF⟩ := bind_some hF
        refine JL.callS (c_top_blown n H y14 hy14) rfl en_35 .none rfl ?_
        refine JL.assign .none rfl ?_
        refine JL.done hQ ?_
        refine JQ.go ?_
        refine JC.ret ?_
        refine JQ.ret_then ?_
        obtain rfl := Option.some.inj hF
        exact JQ.outS rfl (.tmp .nil) rfl
      · refine JC.cond_f (b := p9) rfl hc13 ?_
        refine JC.skip ?_
        refine JQ.go ?_
        refine JC.seq ?_
        refine JC.region (by rfl) ?_
        intro hQ
        refine JL.fieldAddr fo_76_0 rfl .none rfl ?_
        refine JL.loadOwn 0 az_53 rfl rfl rfl .none rfl ?_
        refine JL.fieldAddr fo_76_0 rfl .none rfl ?_
        refine JL.fieldAddr fo_53_1 rfl .none rfl ?_
        refine JL.loadOwn 0 az_3 rfl rfl rfl .none rfl ?_
        obtain ⟨y15, hy15, hF⟩ := bind_some hF
        refine JL.callS (c_frames_Cosine n H d.Frame d_v0 hd_0 0 d.Frame.Low y15 hy15) rfl en_28 .none rfl ?_
        refine JL.move .none rfl ?_
        refine JL.extract rfl rfl .none rfl ?_
        refine JL.extract rfl rfl .none rfl ?_
        refine JL.extract rfl rfl .none rfl ?_
        refine JL.alloc ze_51 .none rfl ?_
        intro b16
        refine JL.alloc ze_51 .none rfl ?_
        intro b17
        refine JL.storeOwn 1 (cs := [.int .i64 y15.1.Num, .int .i64 y15.1.Den]) az_51 rfl rfl rfl (one_cons rfl (one_cons rfl one_nil)) rfl rfl .none ?_
        refine JL.storeOwn 0 (cs := [.int .i64 y15.2.1.Num, .int .i64 y15.2.1.Den]) az_51 rfl rfl rfl (one_cons rfl (one_cons rfl one_nil)) rfl rfl .none ?_
        refine JL.assign .none rfl ?_
        refine JL.done hQ ?_
        refine JQ.go ?_
        refine JC.fresh (fun f => f 1 = .int .i64 at_ ∧ f 2 = .pointer (some ⟨b1, 0, none⟩) ∧ f 5 = .pointer (some ⟨b16, 0, none⟩) ∧ f 6 = .pointer (some ⟨b17, 0, none⟩) ∧ f 7 = .int .i64 y15.2.2) ⟨rfl, rfl, rfl, rfl, rfl⟩ ?_
        rintro f ⟨hf1, hf2, hf5, hf6, hf7⟩
        refine (JC.norm (i := 1) hf1 (JC.norm (i := 2) hf2 (JC.norm (i := 5) hf5 (JC.norm (i := 6) hf6 (JC.norm (i := 7) hf7 ?_)))))
        refine JC.seq ?_
        refine JC.region (by rfl) ?_
        intro hQ
        refine JL.loadOwn 2 az_76 rfl rfl rfl .none rfl ?_
        obtain ⟨y18, hy18, hF⟩ := bind_some hF
        refine JL.callS (c_gusts_Lift n H d d_v0 hd_0 d_v7 hd_7 d_v8 hd_8 y18 hy18) rfl en_36 .none rfl ?_
        refine JL.move .none rfl ?_
        refine JL.extract rfl rfl .none rfl ?_
        refine JL.extract rfl rfl .none rfl ?_
        refine JL.alloc ze_39 .none rfl ?_
        intro b19
        refine JL.storeOwn 0 (cs := [.int .i64 y18.1.Low, .int .i64 y18.1.High]) az_39 rfl rfl rfl (one_cons rfl (one_cons rfl one_nil)) rfl rfl .none ?_
        refine JL.assign .none rfl ?_
        refine JL.done hQ ?_
        refine JQ.go ?_
        refine JC.seq ?_
        refine JC.seq ?_
        refine JC.draw (by rfl) mo_ (by kernel_rfl) ?_
        intro hQ
        refine JL.move .none rfl ?_
        refine JL.bin rfl rfl rfl .none rfl ?_
        refine JL.move .none rfl ?_
        refine JL.cut 3 (fun f => f 1 = .int .i64 at_ ∧ f 2 = .pointer (some ⟨b1, 0, none⟩) ∧ f 5 = .pointer (some ⟨b16, 0, none⟩) ∧ f 6 = .pointer (some ⟨b17, 0, none⟩) ∧ f 8 = .pointer (some ⟨b19, 0, none⟩) ∧ f 49 = .bool ((y15.2.2 != 0) || (y18.2 != 0))) ?_ ?_
        · intro hJ42
          rcases bcases (y15.2.2 != 0) with hc43 | hc43
          · skip
            refine JL.skip (.bool rfl rfl rfl hc43) rfl ?_
            refine JL.skip (.bool rfl rfl rfl hc43) rfl ?_
            refine JL.pick_t (b := (y15.2.2 != 0)) rfl hc43 .none rfl ?_
            exact hJ42 _ ⟨rfl, rfl, rfl, rfl, rfl, or_t hc43 rfl⟩
          · skip
            refine JL.move (.some rfl rfl rfl hc43) rfl ?_
            refine JL.bin rfl rfl rfl (.some rfl rfl rfl hc43) rfl ?_
            refine JL.pick_f (b := (y15.2.2 != 0)) rfl hc43 .none rfl ?_
            exact hJ42 _ ⟨rfl, rfl, rfl, rfl, rfl, or_f hc43 rfl⟩
        · rintro f ⟨hf1, hf2, hf5, hf6, hf8, hf49⟩
          refine (JL.norm (i := 1) hf1 (JL.norm (i := 2) hf2 (JL.norm (i := 5) hf5 (JL.norm (i := 6) hf6 (JL.norm (i := 8) hf8 (JL.norm (i := 49) hf49 ?_))))))
          refine JL.move .none rfl ?_
          refine JL.cut 4 (fun f => f 1 = .int .i64 at_ ∧ f 2 = .pointer (some ⟨b1, 0, none⟩) ∧ f 5 = .pointer (some ⟨b16, 0, none⟩) ∧ f 6 = .pointer (some ⟨b17, 0, none⟩) ∧ f 8 = .pointer (some ⟨b19, 0, none⟩) ∧ f 54 = .bool (((y15.2.2 != 0) || (y18.2 != 0)) || (decide (y15.1.Den < 1)))) ?_ ?_
          · intro hJ44
            rcases bcases ((y15.2.2 != 0) || (y18.2 != 0)) with hc45 | hc45
            · skip
              refine JL.skip (.bool rfl rfl rfl hc45) rfl ?_
              refine JL.skip (.bool rfl rfl rfl hc45) rfl ?_
              refine JL.skip (.bool rfl rfl rfl hc45) rfl ?_
              refine JL.pick_t (b := ((y15.2.2 != 0) || (y18.2 != 0))) rfl hc45 .none rfl ?_
              exact hJ44 _ ⟨rfl, rfl, rfl, rfl, rfl, or_t hc45 rfl⟩
            · skip
              refine JL.fieldAddr fo_51_1 rfl (.some rfl rfl rfl hc45) rfl ?_
              refine JL.loadOwn 2 az_3 rfl rfl rfl (.some rfl rfl rfl hc45) rfl ?_
              refine JL.bin rfl rfl rfl (.some rfl rfl rfl hc45) rfl ?_
              refine JL.pick_f (b := ((y15.2.2 != 0) || (y18.2 != 0))) rfl hc45 .none rfl ?_
              exact hJ44 _ ⟨rfl, rfl, rfl, rfl, rfl, or_f hc45 rfl⟩
          · rintro f ⟨hf1, hf2, hf5, hf6, hf8, hf54⟩
            refine (JL.norm (i := 1) hf1 (JL.norm (i := 2) hf2 (JL.norm (i := 5) hf5 (JL.norm (i := 6) hf6 (JL.norm (i := 8) hf8 (JL.norm (i := 54) hf54 ?_))))))
            refine JL.move .none rfl ?_
            refine JL.cut 4 (fun f => f 1 = .int .i64 at_ ∧ f 2 = .pointer (some ⟨b1, 0, none⟩) ∧ f 5 = .pointer (some ⟨b16, 0, none⟩) ∧ f 6 = .pointer (some ⟨b17, 0, none⟩) ∧ f 8 = .pointer (some ⟨b19, 0, none⟩) ∧ f 59 = .bool ((((y15.2.2 != 0) || (y18.2 != 0)) || (decide (y15.1.Den < 1))) || (decide (y15.2.1.Den < 1)))) ?_ ?_
            · intro hJ46
              rcases bcases (((y15.2.2 != 0) || (y18.2 != 0)) || (decide (y15.1.Den < 1))) with hc47 | hc47
              · skip
                refine JL.skip (.bool rfl rfl rfl hc47) rfl ?_
                refine JL.skip (.bool rfl rfl rfl hc47) rfl ?_
                refine JL.skip (.bool rfl rfl rfl hc47) rfl ?_
                refine JL.pick_t (b := (((y15.2.2 != 0) || (y18.2 != 0)) || (decide (y15.1.Den < 1)))) rfl hc47 .none rfl ?_
                exact hJ46 _ ⟨rfl, rfl, rfl, rfl, rfl, or_t hc47 rfl⟩
              · skip
                refine JL.fieldAddr fo_51_1 rfl (.some rfl rfl rfl hc47) rfl ?_
                refine JL.loadOwn 1 az_3 rfl rfl rfl (.some rfl rfl rfl hc47) rfl ?_
                refine JL.bin rfl rfl rfl (.some rfl rfl rfl hc47) rfl ?_
                refine JL.pick_f (b := (((y15.2.2 != 0) || (y18.2 != 0)) || (decide (y15.1.Den < 1)))) rfl hc47 .none rfl ?_
                exact hJ46 _ ⟨rfl, rfl, rfl, rfl, rfl, or_f hc47 rfl⟩
            · rintro f ⟨hf1, hf2, hf5, hf6, hf8, hf59⟩
              refine (JL.norm (i := 1) hf1 (JL.norm (i := 2) hf2 (JL.norm (i := 5) hf5 (JL.norm (i := 6) hf6 (JL.norm (i := 8) hf8 (JL.norm (i := 59) hf59 ?_))))))
              refine JL.move .none rfl ?_
              refine JL.cut 4 (fun f => f 1 = .int .i64 at_ ∧ f 2 = .pointer (some ⟨b1, 0, none⟩) ∧ f 5 = .pointer (some ⟨b16, 0, none⟩) ∧ f 6 = .pointer (some ⟨b17, 0, none⟩) ∧ f 8 = .pointer (some ⟨b19, 0, none⟩) ∧ f 64 = .bool (((((y15.2.2 != 0) || (y18.2 != 0)) || (decide (y15.1.Den < 1))) || (decide (y15.2.1.Den < 1))) || (decide (1073741824 < y15.1.Den)))) ?_ ?_
              · intro hJ48
                rcases bcases ((((y15.2.2 != 0) || (y18.2 != 0)) || (decide (y15.1.Den < 1))) || (decide (y15.2.1.Den < 1))) with hc49 | hc49
                · skip
                  refine JL.skip (.bool rfl rfl rfl hc49) rfl ?_
                  refine JL.skip (.bool rfl rfl rfl hc49) rfl ?_
                  refine JL.skip (.bool rfl rfl rfl hc49) rfl ?_
                  refine JL.pick_t (b := ((((y15.2.2 != 0) || (y18.2 != 0)) || (decide (y15.1.Den < 1))) || (decide (y15.2.1.Den < 1)))) rfl hc49 .none rfl ?_
                  exact hJ48 _ ⟨rfl, rfl, rfl, rfl, rfl, or_t hc49 rfl⟩
                · skip
                  refine JL.fieldAddr fo_51_1 rfl (.some rfl rfl rfl hc49) rfl ?_
                  refine JL.loadOwn 2 az_3 rfl rfl rfl (.some rfl rfl rfl hc49) rfl ?_
                  refine JL.bin rfl rfl rfl (.some rfl rfl rfl hc49) rfl ?_
                  refine JL.pick_f (b := ((((y15.2.2 != 0) || (y18.2 != 0)) || (decide (y15.1.Den < 1))) || (decide (y15.2.1.Den < 1)))) rfl hc49 .none rfl ?_
                  exact hJ48 _ ⟨rfl, rfl, rfl, rfl, rfl, or_f hc49 rfl⟩
              · rintro f ⟨hf1, hf2, hf5, hf6, hf8, hf64⟩
                refine (JL.norm (i := 1) hf1 (JL.norm (i := 2) hf2 (JL.norm (i := 5) hf5 (JL.norm (i := 6) hf6 (JL.norm (i := 8) hf8 (JL.norm (i := 64) hf64 ?_))))))
                refine JL.move .none rfl ?_
                refine JL.cut 4 (fun f => f 1 = .int .i64 at_ ∧ f 2 = .pointer (some ⟨b1, 0, none⟩) ∧ f 5 = .pointer (some ⟨b16, 0, none⟩) ∧ f 6 = .pointer (some ⟨b17, 0, none⟩) ∧ f 8 = .pointer (some ⟨b19, 0, none⟩) ∧ f 69 = .bool ((((((y15.2.2 != 0) || (y18.2 != 0)) || (decide (y15.1.Den < 1))) || (decide (y15.2.1.Den < 1))) || (decide (1073741824 < y15.1.Den))) || (decide (1073741824 < y15.2.1.Den)))) ?_ ?_
                · intro hJ50
                  rcases bcases (((((y15.2.2 != 0) || (y18.2 != 0)) || (decide (y15.1.Den < 1))) || (decide (y15.2.1.Den < 1))) || (decide (1073741824 < y15.1.Den))) with hc51 | hc51
                  · skip
                    refine JL.skip (.bool rfl rfl rfl hc51) rfl ?_
                    refine JL.skip (.bool rfl rfl rfl hc51) rfl ?_
                    refine JL.skip (.bool rfl rfl rfl hc51) rfl ?_
                    refine JL.pick_t (b := (((((y15.2.2 != 0) || (y18.2 != 0)) || (decide (y15.1.Den < 1))) || (decide (y15.2.1.Den < 1))) || (decide (1073741824 < y15.1.Den)))) rfl hc51 .none rfl ?_
                    exact hJ50 _ ⟨rfl, rfl, rfl, rfl, rfl, or_t hc51 rfl⟩
                  · skip
                    refine JL.fieldAddr fo_51_1 rfl (.some rfl rfl rfl hc51) rfl ?_
                    refine JL.loadOwn 1 az_3 rfl rfl rfl (.some rfl rfl rfl hc51) rfl ?_
                    refine JL.bin rfl rfl rfl (.some rfl rfl rfl hc51) rfl ?_
                    refine JL.pick_f (b := (((((y15.2.2 != 0) || (y18.2 != 0)) || (decide (y15.1.Den < 1))) || (decide (y15.2.1.Den < 1))) || (decide (1073741824 < y15.1.Den)))) rfl hc51 .none rfl ?_
                    exact hJ50 _ ⟨rfl, rfl, rfl, rfl, rfl, or_f hc51 rfl⟩
                · rintro f ⟨hf1, hf2, hf5, hf6, hf8, hf69⟩
                  refine (JL.norm (i := 1) hf1 (JL.norm (i := 2) hf2 (JL.norm (i := 5) hf5 (JL.norm (i := 6) hf6 (JL.norm (i := 8) hf8 (JL.norm (i := 69) hf69 ?_))))))
                  refine JL.move .none rfl ?_
                  refine JL.cut 13 (fun f => f 1 = .int .i64 at_ ∧ f 2 = .pointer (some ⟨b1, 0, none⟩) ∧ f 5 = .pointer (some ⟨b16, 0, none⟩) ∧ f 6 = .pointer (some ⟨b17, 0, none⟩) ∧ f 8 = .pointer (some ⟨b19, 0, none⟩) ∧ f 83 = .bool (((((((y15.2.2 != 0) || (y18.2 != 0)) || (decide (y15.1.Den < 1))) || (decide (y15.2.1.Den < 1))) || (decide (1073741824 < y15.1.Den))) || (decide (1073741824 < y15.2.1.Den))) || (decide (1099511627776 < (max (max (max y15.1.Num (w64 (-y15.1.Num))) y15.2.1.Num) (w64 (-y15.2.1.Num))))))) ?_ ?_
                  · intro hJ52
                    rcases bcases ((((((y15.2.2 != 0) || (y18.2 != 0)) || (decide (y15.1.Den < 1))) || (decide (y15.2.1.Den < 1))) || (decide (1073741824 < y15.1.Den))) || (decide (1073741824 < y15.2.1.Den))) with hc53 | hc53
                    · skip
                      refine JL.skip (.bool rfl rfl rfl hc53) rfl ?_
                      refine JL.skip (.bool rfl rfl rfl hc53) rfl ?_
                      refine JL.skip (.bool rfl rfl rfl hc53) rfl ?_
                      refine JL.skip (.bool rfl rfl rfl hc53) rfl ?_
                      refine JL.skip (.bool rfl rfl rfl hc53) rfl ?_
                      refine JL.skip (.bool rfl rfl rfl hc53) rfl ?_
                      refine JL.skip (.bool rfl rfl rfl hc53) rfl ?_
                      refine JL.skip (.bool rfl rfl rfl hc53) rfl ?_
                      refine JL.skip (.bool rfl rfl rfl hc53) rfl ?_
                      refine JL.skip (.bool rfl rfl rfl hc53) rfl ?_
                      refine JL.skip (.bool rfl rfl rfl hc53) rfl ?_
                      refine JL.skip (.bool rfl rfl rfl hc53) rfl ?_
                      refine JL.pick_t (b := ((((((y15.2.2 != 0) || (y18.2 != 0)) || (decide (y15.1.Den < 1))) || (decide (y15.2.1.Den < 1))) || (decide (1073741824 < y15.1.Den))) || (decide (1073741824 < y15.2.1.Den)))) rfl hc53 .none rfl ?_
                      exact hJ52 _ ⟨rfl, rfl, rfl, rfl, rfl, or_t hc53 rfl⟩
                    · skip
                      refine JL.fieldAddr fo_51_0 rfl (.some rfl rfl rfl hc53) rfl ?_
                      refine JL.loadOwn 2 az_3 rfl rfl rfl (.some rfl rfl rfl hc53) rfl ?_
                      refine JL.fieldAddr fo_51_0 rfl (.some rfl rfl rfl hc53) rfl ?_
                      refine JL.loadOwn 2 az_3 rfl rfl rfl (.some rfl rfl rfl hc53) rfl ?_
                      refine JL.neg rfl (.some rfl rfl rfl hc53) rfl ?_
                      refine JL.fieldAddr fo_51_0 rfl (.some rfl rfl rfl hc53) rfl ?_
                      refine JL.loadOwn 1 az_3 rfl rfl rfl (.some rfl rfl rfl hc53) rfl ?_
                      refine JL.fieldAddr fo_51_0 rfl (.some rfl rfl rfl hc53) rfl ?_
                      refine JL.loadOwn 1 az_3 rfl rfl rfl (.some rfl rfl rfl hc53) rfl ?_
                      refine JL.neg rfl (.some rfl rfl rfl hc53) rfl ?_
                      refine JL.max4 rfl rfl rfl rfl (.some rfl rfl rfl hc53) rfl ?_
                      refine JL.bin rfl rfl rfl (.some rfl rfl rfl hc53) rfl ?_
                      refine JL.pick_f (b := ((((((y15.2.2 != 0) || (y18.2 != 0)) || (decide (y15.1.Den < 1))) || (decide (y15.2.1.Den < 1))) || (decide (1073741824 < y15.1.Den))) || (decide (1073741824 < y15.2.1.Den)))) rfl hc53 .none rfl ?_
                      exact hJ52 _ ⟨rfl, rfl, rfl, rfl, rfl, or_f hc53 rfl⟩
                  · rintro f ⟨hf1, hf2, hf5, hf6, hf8, hf83⟩
                    refine (JL.norm (i := 1) hf1 (JL.norm (i := 2) hf2 (JL.norm (i := 5) hf5 (JL.norm (i := 6) hf6 (JL.norm (i := 8) hf8 (JL.norm (i := 83) hf83 ?_))))))
                    refine JL.move .none rfl ?_
                    obtain ⟨p55, hp55, hF⟩ := bind_some hF
                    refine JL.cut 6 (fun f => f 1 = .int .i64 at_ ∧ f 2 = .pointer (some ⟨b1, 0, none⟩) ∧ f 6 = .pointer (some ⟨b17, 0, none⟩) ∧ f 8 = .pointer (some ⟨b19, 0, none⟩) ∧ f 90 = .bool p55) ?_ ?_
                    · intro hJ56
                      rcases ite_some hp55 with ⟨hc57, hF⟩ | ⟨hc57, hF⟩
                      · skip
                        refine JL.skip (.bool rfl rfl rfl hc57) rfl ?_
                        refine JL.skip (.bool rfl rfl rfl hc57) rfl ?_
                        refine JL.skip (.bool rfl rfl rfl hc57) rfl ?_
                        refine JL.skip (.bool rfl rfl rfl hc57) rfl ?_
                        refine JL.skip (.bool rfl rfl rfl hc57) rfl ?_
                        refine JL.pick_t (b := (((((((y15.2.2 != 0) || (y18.2 != 0)) || (decide (y15.1.Den < 1))) || (decide (y15.2.1.Den < 1))) || (decide (1073741824 < y15.1.Den))) || (decide (1073741824 < y15.2.1.Den))) || (decide (1099511627776 < (max (max (max y15.1.Num (w64 (-y15.1.Num))) y15.2.1.Num) (w64 (-y15.2.1.Num))))))) rfl hc57 .none rfl ?_
                        obtain rfl := Option.some.inj hF
                        exact hJ56 _ ⟨rfl, rfl, rfl, rfl, rfl⟩
                      · skip
                        refine JL.fieldAddr fo_39_0 rfl (.some rfl rfl rfl hc57) rfl ?_
                        refine JL.loadOwn 0 az_3 rfl rfl rfl (.some rfl rfl rfl hc57) rfl ?_
                        refine JL.loadOwn 2 az_51 rfl rfl rfl (.some rfl rfl rfl hc57) rfl ?_
                        obtain ⟨y58, hy58, hF⟩ := bind_some hF
                        refine JL.callS (c_top_lifted n H y15.1 y58 hy58) rfl en_37 (.some rfl rfl rfl hc57) rfl ?_
                        refine JL.bin rfl rfl rfl (.some rfl rfl rfl hc57) rfl ?_
                        refine JL.pick_f (b := (((((((y15.2.2 != 0) || (y18.2 != 0)) || (decide (y15.1.Den < 1))) || (decide (y15.2.1.Den < 1))) || (decide (1073741824 < y15.1.Den))) || (decide (1073741824 < y15.2.1.Den))) || (decide (1099511627776 < (max (max (max y15.1.Num (w64 (-y15.1.Num))) y15.2.1.Num) (w64 (-y15.2.1.Num))))))) rfl hc57 .none rfl ?_
                        obtain rfl := Option.some.inj hF
                        exact hJ56 _ ⟨rfl, rfl, rfl, rfl, rfl⟩
                    · rintro f ⟨hf1, hf2, hf6, hf8, hf90⟩
                      refine (JL.norm (i := 1) hf1 (JL.norm (i := 2) hf2 (JL.norm (i := 6) hf6 (JL.norm (i := 8) hf8 (JL.norm (i := 90) hf90 ?_)))))
                      refine JL.move .none rfl ?_
                      obtain ⟨p60, hp60, hF⟩ := bind_some hF
                      refine JL.cut 6 (fun f => f 1 = .int .i64 at_ ∧ f 2 = .pointer (some ⟨b1, 0, none⟩) ∧ f 97 = .bool p60) ?_ ?_
                      · intro hJ61
                        rcases ite_some hp60 with ⟨hc62, hF⟩ | ⟨hc62, hF⟩
                        · skip
                          refine JL.skip (.bool rfl rfl rfl hc62) rfl ?_
                          refine JL.skip (.bool rfl rfl rfl hc62) rfl ?_
                          refine JL.skip (.bool rfl rfl rfl hc62) rfl ?_
                          refine JL.skip (.bool rfl rfl rfl hc62) rfl ?_
                          refine JL.skip (.bool rfl rfl rfl hc62) rfl ?_
                          refine JL.pick_t (b := p55) rfl hc62 .none rfl ?_
                          obtain rfl := Option.some.inj hF
                          exact hJ61 _ ⟨rfl, rfl, rfl⟩
                        · skip
                          refine JL.fieldAddr fo_39_1 rfl (.some rfl rfl rfl hc62) rfl ?_
                          refine JL.loadOwn 0 az_3 rfl rfl rfl (.some rfl rfl rfl hc62) rfl ?_
                          refine JL.loadOwn 1 az_51 rfl rfl rfl (.some rfl rfl rfl hc62) rfl ?_
                          obtain ⟨y63, hy63, hF⟩ := bind_some hF
                          refine JL.callS (c_top_lifted n H y15.2.1 y63 hy63) rfl en_37 (.some rfl rfl rfl hc62) rfl ?_
                          refine JL.bin rfl rfl rfl (.some rfl rfl rfl hc62) rfl ?_
                          refine JL.pick_f (b := p55) rfl hc62 .none rfl ?_
                          obtain rfl := Option.some.inj hF
                          exact hJ61 _ ⟨rfl, rfl, rfl⟩
                      · rintro f ⟨hf1, hf2, hf97⟩
                        refine (JL.norm (i := 1) hf1 (JL.norm (i := 2) hf2 (JL.norm (i := 97) hf97 ?_)))
                        refine JL.doneQ hQ ?_
                        refine JQ.go ?_
                        rcases ite_some hF with ⟨hc64, hF⟩ | ⟨hc64, hF⟩
                        · refine JC.cond_t (b := p60) rfl hc64 ?_
                          refine JC.seq ?_
                          refine JC.region (by rfl) ?_
                          intro hQ
                          refine JL.assign .none rfl ?_
                          refine JL.done hQ ?_
                          refine JQ.go ?_
                          refine JC.ret ?_
                          refine JQ.ret_then ?_
                          obtain rfl := Option.some.inj hF
                          exact JQ.outS rfl (.tmp .nil) rfl
                        · refine JC.cond_f (b := p60) rfl hc64 ?_
                          refine JC.skip ?_
                          refine JQ.go ?_
                          refine JC.seq ?_
                          refine JC.region (by rfl) ?_
                          intro hQ
                          refine JL.loadOwn 3 az_76 rfl rfl rfl .none rfl ?_
                          refine JL.move .none rfl ?_
                          obtain ⟨y65, hy65, hF⟩ := bind_some hF
                          refine JL.callS (c_gusts_Most n H d d_v0 hd_0 d_v7 hd_7 d_v8 hd_8 at_ y65 hy65) rfl en_38 .none rfl ?_
                          refine JL.move .none rfl ?_
                          refine JL.extract rfl rfl .none rfl ?_
                          refine JL.extract rfl rfl .none rfl ?_
                          refine JL.assign .none rfl ?_
                          refine JL.assign .none rfl ?_
                          refine JL.done hQ ?_
                          refine JQ.go ?_
                          refine JC.seq ?_
                          refine JC.seq ?_
                          refine JC.region (by rfl) ?_
                          intro hQ
                          refine JL.move .none rfl ?_
                          refine JL.bin rfl rfl rfl .none rfl ?_
                          refine JL.move .none rfl ?_
                          refine JL.cut 3 (fun f => f 1 = .int .i64 at_ ∧ f 2 = .pointer (some ⟨b1, 0, none⟩) ∧ f 10 = .int .i64 y65.1 ∧ f 109 = .bool ((y65.2 != 0) || (decide (y65.1 < 0)))) ?_ ?_
                          · intro hJ66
                            rcases bcases (y65.2 != 0) with hc67 | hc67
                            · skip
                              refine JL.skip (.bool rfl rfl rfl hc67) rfl ?_
                              refine JL.skip (.bool rfl rfl rfl hc67) rfl ?_
                              refine JL.pick_t (b := (y65.2 != 0)) rfl hc67 .none rfl ?_
                              exact hJ66 _ ⟨rfl, rfl, rfl, or_t hc67 rfl⟩
                            · skip
                              refine JL.move (.some rfl rfl rfl hc67) rfl ?_
                              refine JL.bin rfl rfl rfl (.some rfl rfl rfl hc67) rfl ?_
                              refine JL.pick_f (b := (y65.2 != 0)) rfl hc67 .none rfl ?_
                              exact hJ66 _ ⟨rfl, rfl, rfl, or_f hc67 rfl⟩
                          · rintro f ⟨hf1, hf2, hf10, hf109⟩
                            refine (JL.norm (i := 1) hf1 (JL.norm (i := 2) hf2 (JL.norm (i := 10) hf10 (JL.norm (i := 109) hf109 ?_))))
                            refine JL.move .none rfl ?_
                            refine JL.cut 3 (fun f => f 1 = .int .i64 at_ ∧ f 2 = .pointer (some ⟨b1, 0, none⟩) ∧ f 10 = .int .i64 y65.1 ∧ f 113 = .bool (((y65.2 != 0) || (decide (y65.1 < 0))) || (decide (99 < y65.1)))) ?_ ?_
                            · intro hJ68
                              rcases bcases ((y65.2 != 0) || (decide (y65.1 < 0))) with hc69 | hc69
                              · skip
                                refine JL.skip (.bool rfl rfl rfl hc69) rfl ?_
                                refine JL.skip (.bool rfl rfl rfl hc69) rfl ?_
                                refine JL.pick_t (b := ((y65.2 != 0) || (decide (y65.1 < 0)))) rfl hc69 .none rfl ?_
                                exact hJ68 _ ⟨rfl, rfl, rfl, or_t hc69 rfl⟩
                              · skip
                                refine JL.move (.some rfl rfl rfl hc69) rfl ?_
                                refine JL.bin rfl rfl rfl (.some rfl rfl rfl hc69) rfl ?_
                                refine JL.pick_f (b := ((y65.2 != 0) || (decide (y65.1 < 0)))) rfl hc69 .none rfl ?_
                                exact hJ68 _ ⟨rfl, rfl, rfl, or_f hc69 rfl⟩
                            · rintro f ⟨hf1, hf2, hf10, hf113⟩
                              refine (JL.norm (i := 1) hf1 (JL.norm (i := 2) hf2 (JL.norm (i := 10) hf10 (JL.norm (i := 113) hf113 ?_))))
                              refine JL.done hQ ?_
                              refine JQ.go ?_
                              rcases ite_some hF with ⟨hc70, hF⟩ | ⟨hc70, hF⟩
                              · refine JC.cond_t (b := (((y65.2 != 0) || (decide (y65.1 < 0))) || (decide (99 < y65.1)))) rfl hc70 ?_
                                refine JC.seq ?_
                                refine JC.region (by rfl) ?_
                                intro hQ
                                refine JL.assign .none rfl ?_
                                refine JL.done hQ ?_
                                refine JQ.go ?_
                                refine JC.ret ?_
                                refine JQ.ret_then ?_
                                obtain rfl := Option.some.inj hF
                                exact JQ.outS rfl (.tmp .nil) rfl
                              · refine JC.cond_f (b := (((y65.2 != 0) || (decide (y65.1 < 0))) || (decide (99 < y65.1)))) rfl hc70 ?_
                                refine JC.skip ?_
                                refine JQ.go ?_
                                refine JC.seq ?_
                                refine JC.region (by rfl) ?_
                                intro hQ
                                refine JL.loadOwn 3 az_76 rfl rfl rfl .none rfl ?_
                                refine JL.move .none rfl ?_
                                refine JL.move .none rfl ?_
                                refine JL.build (l := [.int .i64 y65.1, .int .i64 at_]) (by kernel_rfl) .none rfl ?_
                                obtain ⟨y71, hy71, hF⟩ := bind_some hF
                                refine JL.callH (c_gusts_Goes n H d d_v0 hd_0 d_v7 hd_7 d_v8 hd_8 (Gust.mk y65.1 at_) y71 hy71) rfl en_39 .none rfl ?_
                                rintro H72 vv73 hs72 ⟨y71a_v0, y71b_v0, rfl, hy71a_0, hy71b_0⟩
                                refine JL.move .none rfl ?_
                                refine JL.extract rfl rfl .none rfl ?_
                                refine JL.extract rfl rfl .none rfl ?_
                                refine JL.extract rfl rfl .none rfl ?_
                                refine JL.assign .none rfl ?_
                                refine JL.assign .none rfl ?_
                                refine JL.assign .none rfl ?_
                                refine JL.done hQ ?_
                                refine JQ.go ?_
                                refine JC.fresh (fun f => f 1 = .int .i64 at_ ∧ f 2 = .pointer (some ⟨b1, 0, none⟩) ∧ f 10 = .int .i64 y65.1 ∧ f 13 = y71b_v0 ∧ f 14 = .int .i64 y71.2.2) ⟨rfl, rfl, rfl, rfl, rfl⟩ ?_
                                rintro f ⟨hf1, hf2, hf10, hf13, hf14⟩
                                refine (JC.norm (i := 1) hf1 (JC.norm (i := 2) hf2 (JC.norm (i := 10) hf10 (JC.norm (i := 13) hf13 (JC.norm (i := 14) hf14 ?_)))))
                                refine JC.seq ?_
                                refine JC.seq ?_
                                refine JC.region (by rfl) ?_
                                intro hQ
                                refine JL.move .none rfl ?_
                                refine JL.bin rfl rfl rfl .none rfl ?_
                                refine JL.move .none rfl ?_
                                refine JL.cut 4 (fun f => f 1 = .int .i64 at_ ∧ f 2 = .pointer (some ⟨b1, 0, none⟩) ∧ f 10 = .int .i64 y65.1 ∧ f 129 = .bool ((y71.2.2 != 0) || (decide (0 < (y71.2.1.length : Int))))) ?_ ?_
                                · intro hJ74
                                  rcases bcases (y71.2.2 != 0) with hc75 | hc75
                                  · skip
                                    refine JL.skip (.bool rfl rfl rfl hc75) rfl ?_
                                    refine JL.skip (.bool rfl rfl rfl hc75) rfl ?_
                                    refine JL.skip (.bool rfl rfl rfl hc75) rfl ?_
                                    refine JL.pick_t (b := (y71.2.2 != 0)) rfl hc75 .none rfl ?_
                                    exact hJ74 _ ⟨rfl, rfl, rfl, or_t hc75 rfl⟩
                                  · skip
                                    refine JL.move (.some rfl rfl rfl hc75) rfl ?_
                                    refine JL.lenSL (R := RInt) ul_23 hy71b_0 (.some rfl rfl rfl hc75) rfl ?_
                                    refine JL.bin rfl rfl rfl (.some rfl rfl rfl hc75) rfl ?_
                                    refine JL.pick_f (b := (y71.2.2 != 0)) rfl hc75 .none rfl ?_
                                    exact hJ74 _ ⟨rfl, rfl, rfl, or_f hc75 rfl⟩
                                · rintro f ⟨hf1, hf2, hf10, hf129⟩
                                  refine (JL.norm (i := 1) hf1 (JL.norm (i := 2) hf2 (JL.norm (i := 10) hf10 (JL.norm (i := 129) hf129 ?_))))
                                  refine JL.done hQ ?_
                                  refine JQ.go ?_
                                  rcases ite_some hF with ⟨hc76, hF⟩ | ⟨hc76, hF⟩
                                  · refine JC.cond_t (b := ((y71.2.2 != 0) || (decide (0 < (y71.2.1.length : Int))))) rfl hc76 ?_
                                    refine JC.seq ?_
                                    refine JC.region (by rfl) ?_
                                    intro hQ
                                    refine JL.assign .none rfl ?_
                                    refine JL.done hQ ?_
                                    refine JQ.go ?_
                                    refine JC.ret ?_
                                    refine JQ.ret_then ?_
                                    obtain rfl := Option.some.inj hF
                                    exact JQ.outS rfl (.tmp .nil) rfl
                                  · refine JC.cond_f (b := ((y71.2.2 != 0) || (decide (0 < (y71.2.1.length : Int))))) rfl hc76 ?_
                                    refine JC.skip ?_
                                    refine JQ.go ?_
                                    refine JC.seq ?_
                                    refine JC.seq ?_
                                    refine JC.region (by rfl) ?_
                                    intro hQ
                                    refine JL.move .none rfl ?_
                                    refine JL.bin rfl rfl rfl .none rfl ?_
                                    refine JL.done hQ ?_
                                    refine JQ.go ?_
                                    rcases ite_some hF with ⟨hc77, hF⟩ | ⟨hc77, hF⟩
                                    · refine JC.cond_t (b := (y65.1 == 99)) rfl hc77 ?_
                                      refine JC.seq ?_
                                      refine JC.region (by rfl) ?_
                                      intro hQ
                                      obtain ⟨y78, hy78, hF⟩ := bind_some hF
                                      refine JL.callS (c_top_blown n H72 y78 hy78) rfl en_35 .none rfl ?_
                                      refine JL.assign .none rfl ?_
                                      refine JL.done hQ ?_
                                      refine JQ.go ?_
                                      refine JC.ret ?_
                                      refine JQ.ret_then ?_
                                      obtain rfl := Option.some.inj hF
                                      exact JQ.outS rfl (.tmp .nil) rfl
                                    · refine JC.cond_f (b := (y65.1 == 99)) rfl hc77 ?_
                                      refine JC.skip ?_
                                      refine JQ.go ?_
                                      refine JC.seq ?_
                                      refine JC.region (by rfl) ?_
                                      intro hQ
                                      refine JL.loadOwn 3 az_76 rfl rfl rfl .none rfl ?_
                                      refine JL.move .none rfl ?_
                                      refine JL.bin rfl rfl rfl .none rfl ?_
                                      refine JL.move .none rfl ?_
                                      refine JL.build (l := [.int .i64 (w64 (y65.1 + 1)), .int .i64 at_]) (by kernel_rfl) .none rfl ?_
                                      obtain ⟨y79, hy79, hF⟩ := bind_some hF
                                      refine JL.callH (c_gusts_Goes n H72 d d_v0 (SL.mono R_Section_mono hs72 hd_0) d_v7 (SL.mono R_Span_mono hs72 hd_7) d_v8 (SL.mono RInt.mono hs72 hd_8) (Gust.mk (w64 (y65.1 + 1)) at_) y79 hy79) rfl en_39 .none rfl ?_
                                      rintro H80 vv81 hs80 ⟨y79a_v0, y79b_v0, rfl, hy79a_0, hy79b_0⟩
                                      refine JL.move .none rfl ?_
                                      refine JL.extract rfl rfl .none rfl ?_
                                      refine JL.extract rfl rfl .none rfl ?_
                                      refine JL.extract rfl rfl .none rfl ?_
                                      refine JL.assign .none rfl ?_
                                      refine JL.assign .none rfl ?_
                                      refine JL.done hQ ?_
                                      refine JQ.go ?_
                                      refine JC.fresh (fun f => f 13 = y79b_v0 ∧ f 14 = .int .i64 y79.2.2) ⟨rfl, rfl⟩ ?_
                                      rintro f ⟨hf13, hf14⟩
                                      refine (JC.norm (i := 13) hf13 (JC.norm (i := 14) hf14 ?_))
                                      refine JC.seq ?_
                                      refine JC.region (by rfl) ?_
                                      intro hQ
                                      refine JL.move .none rfl ?_
                                      refine JL.bin rfl rfl rfl .none rfl ?_
                                      refine JL.move .none rfl ?_
                                      refine JL.cut 4 (fun f => f 149 = .bool ((y79.2.2 == 0) && (decide (0 < (y79.2.1.length : Int))))) ?_ ?_
                                      · intro hJ82
                                        rcases bcases (y79.2.2 == 0) with hc83 | hc83
                                        · skip
                                          refine JL.move (.some rfl rfl rfl hc83) rfl ?_
                                          refine JL.lenSL (R := RInt) ul_23 hy79b_0 (.some rfl rfl rfl hc83) rfl ?_
                                          refine JL.bin rfl rfl rfl (.some rfl rfl rfl hc83) rfl ?_
                                          refine JL.pick_t (b := (y79.2.2 == 0)) rfl hc83 .none rfl ?_
                                          exact hJ82 _ (and_t hc83 rfl)
                                        · skip
                                          refine JL.skip (.bool rfl rfl rfl hc83) rfl ?_
                                          refine JL.skip (.bool rfl rfl rfl hc83) rfl ?_
                                          refine JL.skip (.bool rfl rfl rfl hc83) rfl ?_
                                          refine JL.pick_f (b := (y79.2.2 == 0)) rfl hc83 .none rfl ?_
                                          exact hJ82 _ (and_f hc83 rfl)
                                      · rintro f hf149
                                        refine (JL.norm (i := 149) hf149 ?_)
                                        refine JL.move .none rfl ?_
                                        obtain ⟨p85, hp85, hF⟩ := bind_some hF
                                        refine JL.cut 2 (fun f => f 152 = .bool p85) ?_ ?_
                                        · intro hJ86
                                          rcases ite_some hp85 with ⟨hc87, hF⟩ | ⟨hc87, hF⟩
                                          · skip
                                            obtain ⟨y88, hy88, hF⟩ := bind_some hF
                                            refine JL.callS (c_top_blown n H80 y88 hy88) rfl en_35 (.some rfl rfl rfl hc87) rfl ?_
                                            refine JL.pick_t (b := ((y79.2.2 == 0) && (decide (0 < (y79.2.1.length : Int))))) rfl hc87 .none rfl ?_
                                            obtain rfl := Option.some.inj hF
                                            exact hJ86 _ (rfl)
                                          · skip
                                            refine JL.skip (.bool rfl rfl rfl hc87) rfl ?_
                                            refine JL.pick_f (b := ((y79.2.2 == 0) && (decide (0 < (y79.2.1.length : Int))))) rfl hc87 .none rfl ?_
                                            obtain rfl := Option.some.inj hF
                                            exact hJ86 _ (rfl)
                                        · rintro f hf152
                                          refine (JL.norm (i := 152) hf152 ?_)
                                          refine JL.assign .none rfl ?_
                                          refine JL.done hQ ?_
                                          refine JQ.go ?_
                                          refine JC.ret ?_
                                          obtain rfl := Option.some.inj hF
                                          exact JQ.outS rfl (.tmp .nil) rfl

end Go.Proofs.Yteihdclpiekmaaa
