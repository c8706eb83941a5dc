/-
  LaysLonger holds of every input that can be given, without a condition.
-/
import Derived.Test.YtflhjlgimihmgaaJLLonger6
import Derived.JoinedCond
section
set_option maxRecDepth 100000
set_option maxHeartbeats 40000000
namespace Go.Proofs.Ytflhjlgimihmgaa
open Go Go.RowKit Go.Dec
set_option linter.unusedVariables false
-- 7 ferrule/ferrulelaw03.LaysLonger
def F_law03_LaysLonger (n : Nat) (s : Lap) (by_ : Int) : Option Bool :=
 (F_law03_ready n s).bind fun y2 => if (((!y2) || (decide (by_ < 0))) || (decide (12 < by_))) = true then ((F_law03_works n).bind fun y8 => some y8) else ((F_ref03_Copy n s).bind fun y9 => (F_law03_ready n (Lap.mk y9.Width (w64 (y9.Length + by_)) y9.Faults y9.Flaws y9.Panels)).bind fun y13 => if (!y13) = true then ((F_law03_works n).bind fun y15 => some y15) else ((F_lays_Least n s).bind fun y16 => (F_lays_Least n (Lap.mk y9.Width (w64 (y9.Length + by_)) y9.Faults y9.Flaws y9.Panels)).bind fun y17 => (F_lays_Hopes n s).bind fun y18 => (F_lays_Hopes n (Lap.mk y9.Width (w64 (y9.Length + by_)) y9.Faults y9.Flaws y9.Panels)).bind fun y19 => (F_law03_isKnown n y16.2).bind fun y20 => (if (!y20) = true then (some true) else ((F_law03_isKnown n y17.2).bind fun y25 => some (!y25)) : Option Bool).bind fun p22 => (if p22 = true then (some true) else ((F_law03_isKnown n y18.2).bind fun y30 => some (!y30)) : Option Bool).bind fun p27 => (if p27 = true then (some true) else ((F_law03_isKnown n y19.2).bind fun y35 => some (!y35)) : Option Bool).bind fun p32 => if ((p32 || ((y16.2 == 0) && ((y17.2 != 0) || (y16.1 != y17.1)))) || ((y18.2 == 0) && ((y19.2 != 0) || (y18.1 != y19.1)))) = true then (some false) else ((F_lays_Waste n (Lap.mk y9.Width (w64 (y9.Length + by_)) y9.Faults y9.Flaws y9.Panels)).bind fun y65 => if (y17.2 != 0) = true then ((if (y65.2 == 3) = true then ((F_law03_works n).bind fun y72 => some y72) else (some false) : Option Bool).bind fun p69 => some p69) else ((if (((y65.2 == 0) && ((w64 (y65.1.High - y65.1.Low)) == (w64 (y9.Width * (w64 (y17.1 - y19.1)))))) && (decide (0 ≤ y65.1.Low))) = true then ((F_law03_works n).bind fun y81 => some y81) else (some false) : Option Bool).bind fun p78 => some p78))))
theorem c_law03_LaysLonger (n : Nat) (H : Hp) (s : Lap) (s_v2 : Value) (hs_2 : SL H 2 R_Cell s_v2 s.Faults) (s_v3 : Value) (hs_3 : SL H 2 R_Cell s_v3 s.Flaws) (s_v4 : Value) (hs_4 : SL H 1 R_Panel s_v4 s.Panels) (by_ : Int) (y : Bool) (hF : F_law03_LaysLonger n s by_ = some y) : SC Try.prog 7 [.agg [.int .i64 s.Width, .int .i64 s.Length, s_v2, s_v3, s_v4].toArray, .int .i64 by_] (.bool y) H := by
 rw [F_law03_LaysLonger] at hF
 refine SC.of (N := 139) Try.func7 rfl rfl rfl fun w => ?_
 refine JC.seq (JC.region (by rfl) ?_)
 intro hQ
 refine JL.box (cs := [.int .i64 s.Width, .int .i64 s.Length, s_v2, s_v3, s_v4]) rfl .none rfl ?_
 intro b1
 refine JL.assign .none rfl ?_
 refine JL.done hQ (JQ.go (JC.seq (JC.seq (JC.region (by rfl) ?_))))
 intro hQ
 refine JL.loadOwn 0 az_25 rfl rfl rfl .none rfl ?_
 obtain ⟨y2, hy2, hF⟩ := bind_some hF
 refine JL.callS (c_law03_ready n H s s_v2 hs_2 s_v3 hs_3 s_v4 hs_4 y2 hy2) rfl en_10 .none rfl ?_
 refine JL.not rfl .none rfl ?_
 refine JL.move .none rfl ?_
 refine JL.cut 3 (fun f => f 1 = .int .i64 by_ ∧ f 2 = .pointer (some ⟨b1, 0, none⟩) ∧ f 22 = .bool ((!y2) || (decide (by_ < 0)))) ?_ ?_
 ·intro hJ3
  rcases bcases (!y2) with hc4 | hc4
  ·skip
   refine JL.skip (.bool rfl rfl rfl hc4) rfl ?_
   refine JL.skip (.bool rfl rfl rfl hc4) rfl ?_
   refine JL.pick_t (b := (!y2)) rfl hc4 .none rfl ?_
   exact hJ3 _ ⟨rfl, rfl, or_t hc4 rfl⟩
  ·skip
   refine JL.move (.some rfl rfl rfl hc4) rfl ?_
   refine JL.bin rfl rfl rfl (.some rfl rfl rfl hc4) rfl ?_
   refine JL.pick_f (b := (!y2)) rfl hc4 .none rfl ?_
   exact hJ3 _ ⟨rfl, rfl, or_f hc4 rfl⟩
 ·rintro f ⟨hf1, hf2, hf22⟩
  refine (JL.norm (i := 1) hf1 (JL.norm (i := 2) hf2 (JL.norm (i := 22) hf22 ?_)))
  refine JL.move .none rfl ?_
  refine JL.cut 3 (fun f => f 1 = .int .i64 by_ ∧ f 2 = .pointer (some ⟨b1, 0, none⟩) ∧ f 26 = .bool (((!y2) || (decide (by_ < 0))) || (decide (12 < by_)))) ?_ ?_
  ·intro hJ5
   rcases bcases ((!y2) || (decide (by_ < 0))) with hc6 | hc6
   ·skip
    refine JL.skip (.bool rfl rfl rfl hc6) rfl ?_
    refine JL.skip (.bool rfl rfl rfl hc6) rfl ?_
    refine JL.pick_t (b := ((!y2) || (decide (by_ < 0)))) rfl hc6 .none rfl ?_
    exact hJ5 _ ⟨rfl, rfl, or_t hc6 rfl⟩
   ·skip
    refine JL.move (.some rfl rfl rfl hc6) rfl ?_
    refine JL.bin rfl rfl rfl (.some rfl rfl rfl hc6) rfl ?_
    refine JL.pick_f (b := ((!y2) || (decide (by_ < 0)))) rfl hc6 .none rfl ?_
    exact hJ5 _ ⟨rfl, rfl, or_f hc6 rfl⟩
  ·rintro f ⟨hf1, hf2, hf26⟩
   refine (JL.norm (i := 1) hf1 (JL.norm (i := 2) hf2 (JL.norm (i := 26) hf26 ?_)))
   refine JL.done hQ (JQ.go ?_)
   rcases ite_some hF with ⟨hc7, hF⟩ | ⟨hc7, hF⟩
   ·refine JC.cond_t (b := (((!y2) || (decide (by_ < 0))) || (decide (12 < by_)))) rfl hc7 ?_
    refine JC.seq (JC.region (by rfl) ?_)
    intro hQ
    obtain ⟨y8, hy8, hF⟩ := bind_some hF
    refine JL.callS (c_law03_works n H y8 hy8) rfl en_11 .none rfl ?_
    refine JL.assign .none rfl ?_
    refine JL.done hQ (JQ.go (JC.ret (JQ.ret_then ?_)))
    obtain rfl := Option.some.inj hF
    exact JQ.outS rfl (.tmp .nil) rfl
   ·refine JC.cond_f (b := (((!y2) || (decide (by_ < 0))) || (decide (12 < by_)))) rfl hc7 ?_
    refine JC.skip (JQ.go (JC.seq (JC.region (by rfl) ?_)))
    intro hQ
    refine JL.loadOwn 0 az_25 rfl rfl rfl .none rfl ?_
    obtain ⟨y9, hy9, hF⟩ := bind_some hF
    refine JL.callH (c_ref03_Copy n H s s_v2 hs_2 s_v3 hs_3 s_v4 hs_4 y9 hy9) rfl en_12 .none rfl ?_
    rintro H10 vv11 hs10 ⟨y9a_v2, y9a_v3, y9a_v4, rfl, hy9a_2, hy9a_3, hy9a_4⟩
    refine JL.alloc ze_25 .none rfl ?_
    intro b12
    refine JL.storeOwn 0 (cs := [.int .i64 y9.Width, .int .i64 y9.Length, y9a_v2, y9a_v3, y9a_v4]) az_25 rfl rfl rfl (one_cons rfl (one_cons rfl (one_cons (SL.one hy9a_2) (one_cons (SL.one hy9a_3) (one_cons (SL.one hy9a_4) one_nil))))) rfl rfl .none ?_
    refine JL.done hQ (JQ.go (JC.seq (JC.region (by rfl) ?_)))
    intro hQ
    refine JL.fieldAddr fo_25_1 rfl .none rfl ?_
    refine JL.loadOwn 0 az_3 rfl rfl rfl .none rfl ?_
    refine JL.move .none rfl ?_
    refine JL.bin rfl rfl rfl .none rfl ?_
    refine JL.fieldAddr fo_25_1 rfl .none rfl ?_
    refine JL.storeOwn 0 (cs := [.int .i64 (w64 (y9.Length + by_))]) az_3 rfl rfl rfl (one_cons rfl one_nil) rfl rfl .none ?_
    refine JL.done hQ (JQ.go (JC.seq (JC.seq (JC.region (by rfl) ?_))))
    intro hQ
    refine JL.loadOwn 0 az_25 rfl rfl rfl .none rfl ?_
    obtain ⟨y13, hy13, hF⟩ := bind_some hF
    refine JL.callS (c_law03_ready n H10 (Lap.mk y9.Width (w64 (y9.Length + by_)) y9.Faults y9.Flaws y9.Panels) y9a_v2 hy9a_2 y9a_v3 hy9a_3 y9a_v4 hy9a_4 y13 hy13) rfl en_10 .none rfl ?_
    refine JL.not rfl .none rfl ?_
    refine JL.done hQ (JQ.go (JC.fresh (fun f => f 2 = .pointer (some ⟨b1, 0, none⟩) ∧ f 5 = .pointer (some ⟨b12, 0, none⟩) ∧ f 37 = .bool (!y13)) ⟨rfl, rfl, rfl⟩ ?_))
    rintro f ⟨hf2, hf5, hf37⟩
    refine (JC.norm (i := 2) hf2 (JC.norm (i := 5) hf5 (JC.norm (i := 37) hf37 ?_)))
    rcases ite_some hF with ⟨hc14, hF⟩ | ⟨hc14, hF⟩
    ·refine JC.cond_t (b := (!y13)) rfl hc14 ?_
     refine JC.seq (JC.region (by rfl) ?_)
     intro hQ
     obtain ⟨y15, hy15, hF⟩ := bind_some hF
     refine JL.callS (c_law03_works n H10 y15 hy15) rfl en_11 .none rfl ?_
     refine JL.assign .none rfl ?_
     refine JL.done hQ (JQ.go (JC.ret (JQ.ret_then ?_)))
     obtain rfl := Option.some.inj hF
     exact JQ.outS rfl (.tmp .nil) rfl
    ·refine JC.cond_f (b := (!y13)) rfl hc14 ?_
     refine JC.skip (JQ.go (JC.seq (JC.region (by rfl) ?_)))
     intro hQ
     refine JL.loadOwn 1 az_25 rfl rfl rfl .none rfl ?_
     obtain ⟨y16, hy16, hF⟩ := bind_some hF
     refine JL.callS (c_lays_Least n H10 s s_v2 (SL.mono R_Cell_mono hs10 hs_2) s_v3 (SL.mono R_Cell_mono hs10 hs_3) s_v4 (SL.mono R_Panel_mono hs10 hs_4) y16 hy16) rfl en_14 .none rfl ?_
     refine JL.move .none rfl ?_
     refine JL.extract rfl rfl .none rfl ?_
     refine JL.extract rfl rfl .none rfl ?_
     refine JL.assign .none rfl ?_
     refine JL.assign .none rfl ?_
     refine JL.done hQ (JQ.go (JC.seq (JC.region (by rfl) ?_)))
     intro hQ
     refine JL.loadOwn 0 az_25 rfl rfl rfl .none rfl ?_
     obtain ⟨y17, hy17, hF⟩ := bind_some hF
     refine JL.callS (c_lays_Least n H10 (Lap.mk y9.Width (w64 (y9.Length + by_)) y9.Faults y9.Flaws y9.Panels) y9a_v2 hy9a_2 y9a_v3 hy9a_3 y9a_v4 hy9a_4 y17 hy17) rfl en_14 .none rfl ?_
     refine JL.move .none rfl ?_
     refine JL.extract rfl rfl .none rfl ?_
     refine JL.extract rfl rfl .none rfl ?_
     refine JL.assign .none rfl ?_
     refine JL.assign .none rfl ?_
     refine JL.done hQ (JQ.go (JC.fresh (fun f => f 2 = .pointer (some ⟨b1, 0, none⟩) ∧ f 5 = .pointer (some ⟨b12, 0, none⟩) ∧ f 6 = .int .i64 y16.1 ∧ f 7 = .int .i64 y16.2 ∧ f 8 = .int .i64 y17.1 ∧ f 9 = .int .i64 y17.2) ⟨rfl, rfl, rfl, rfl, rfl, rfl⟩ ?_))
     rintro f ⟨hf2, hf5, hf6, hf7, hf8, hf9⟩
     refine (JC.norm (i := 2) hf2 (JC.norm (i := 5) hf5 (JC.norm (i := 6) hf6 (JC.norm (i := 7) hf7 (JC.norm (i := 8) hf8 (JC.norm (i := 9) hf9 ?_))))))
     refine JC.seq (JC.region (by rfl) ?_)
     intro hQ
     refine JL.loadOwn 1 az_25 rfl rfl rfl .none rfl ?_
     obtain ⟨y18, hy18, hF⟩ := bind_some hF
     refine JL.callS (c_lays_Hopes n H10 s s_v2 (SL.mono R_Cell_mono hs10 hs_2) s_v3 (SL.mono R_Cell_mono hs10 hs_3) s_v4 (SL.mono R_Panel_mono hs10 hs_4) y18 hy18) rfl en_17 .none rfl ?_
     refine JL.move .none rfl ?_
     refine JL.extract rfl rfl .none rfl ?_
     refine JL.extract rfl rfl .none rfl ?_
     refine JL.assign .none rfl ?_
     refine JL.assign .none rfl ?_
     refine JL.done hQ (JQ.go (JC.seq (JC.region (by rfl) ?_)))
     intro hQ
     refine JL.loadOwn 0 az_25 rfl rfl rfl .none rfl ?_
     obtain ⟨y19, hy19, hF⟩ := bind_some hF
     refine JL.callS (c_lays_Hopes n H10 (Lap.mk y9.Width (w64 (y9.Length + by_)) y9.Faults y9.Flaws y9.Panels) y9a_v2 hy9a_2 y9a_v3 hy9a_3 y9a_v4 hy9a_4 y19 hy19) rfl en_17 .none rfl ?_
     refine JL.move .none rfl ?_
     refine JL.extract rfl rfl .none rfl ?_
     refine JL.extract rfl rfl .none rfl ?_
     refine JL.assign .none rfl ?_
     refine JL.assign .none rfl ?_
     refine JL.done hQ (JQ.go (JC.fresh (fun f => f 5 = .pointer (some ⟨b12, 0, none⟩) ∧ f 6 = .int .i64 y16.1 ∧ f 7 = .int .i64 y16.2 ∧ f 8 = .int .i64 y17.1 ∧ f 9 = .int .i64 y17.2 ∧ f 10 = .int .i64 y18.1 ∧ f 11 = .int .i64 y18.2 ∧ f 12 = .int .i64 y19.1 ∧ f 13 = .int .i64 y19.2) ⟨rfl, rfl, rfl, rfl, rfl, rfl, rfl, rfl, rfl⟩ ?_))
     rintro f ⟨hf5, hf6, hf7, hf8, hf9, hf10, hf11, hf12, hf13⟩
     refine (JC.norm (i := 5) hf5 (JC.norm (i := 6) hf6 (JC.norm (i := 7) hf7 (JC.norm (i := 8) hf8 (JC.norm (i := 9) hf9 (JC.norm (i := 10) hf10 (JC.norm (i := 11) hf11 (JC.norm (i := 12) hf12 (JC.norm (i := 13) hf13 ?_)))))))))
     refine JC.seq (JC.seq (JC.region (by rfl) ?_))
     intro hQ
     refine JL.move .none rfl ?_
     obtain ⟨y20, hy20, hF⟩ := bind_some hF
     refine JL.callS (c_law03_isKnown n H10 y16.2 y20 hy20) rfl en_19 .none rfl ?_
     refine JL.not rfl .none rfl ?_
     refine JL.move .none rfl ?_
     obtain ⟨p22, hp22, hF⟩ := bind_some hF
     refine JL.cut 4 (fun f => f 5 = .pointer (some ⟨b12, 0, none⟩) ∧ f 6 = .int .i64 y16.1 ∧ f 7 = .int .i64 y16.2 ∧ f 8 = .int .i64 y17.1 ∧ f 9 = .int .i64 y17.2 ∧ f 10 = .int .i64 y18.1 ∧ f 11 = .int .i64 y18.2 ∧ f 12 = .int .i64 y19.1 ∧ f 13 = .int .i64 y19.2 ∧ f 66 = .bool p22) ?_ ?_
     ·intro hJ23
      rcases ite_some hp22 with ⟨hc24, hF⟩ | ⟨hc24, hF⟩
      ·skip
       refine JL.skip (.bool rfl rfl rfl hc24) rfl ?_
       refine JL.skip (.bool rfl rfl rfl hc24) rfl ?_
       refine JL.skip (.bool rfl rfl rfl hc24) rfl ?_
       refine JL.pick_t (b := (!y20)) rfl hc24 .none rfl ?_
       obtain rfl := Option.some.inj hF
       exact hJ23 _ ⟨rfl, rfl, rfl, rfl, rfl, rfl, rfl, rfl, rfl, rfl⟩
      ·skip
       refine JL.move (.some rfl rfl rfl hc24) rfl ?_
       obtain ⟨y25, hy25, hF⟩ := bind_some hF
       refine JL.callS (c_law03_isKnown n H10 y17.2 y25 hy25) rfl en_19 (.some rfl rfl rfl hc24) rfl ?_
       refine JL.not rfl (.some rfl rfl rfl hc24) rfl ?_
       refine JL.pick_f (b := (!y20)) rfl hc24 .none rfl ?_
       obtain rfl := Option.some.inj hF
       exact hJ23 _ ⟨rfl, rfl, rfl, rfl, rfl, rfl, rfl, rfl, rfl, rfl⟩
     ·rintro f ⟨hf5, hf6, hf7, hf8, hf9, hf10, hf11, hf12, hf13, hf66⟩
      refine (JL.norm (i := 5) hf5 (JL.norm (i := 6) hf6 (JL.norm (i := 7) hf7 (JL.norm (i := 8) hf8 (JL.norm (i := 9) hf9 (JL.norm (i := 10) hf10 (JL.norm (i := 11) hf11 (JL.norm (i := 12) hf12 (JL.norm (i := 13) hf13 (JL.norm (i := 66) hf66 ?_))))))))))
      refine JL.move .none rfl ?_
      obtain ⟨p27, hp27, hF⟩ := bind_some hF
      refine JL.cut 4 (fun f => f 5 = .pointer (some ⟨b12, 0, none⟩) ∧ f 6 = .int .i64 y16.1 ∧ f 7 = .int .i64 y16.2 ∧ f 8 = .int .i64 y17.1 ∧ f 9 = .int .i64 y17.2 ∧ f 10 = .int .i64 y18.1 ∧ f 11 = .int .i64 y18.2 ∧ f 12 = .int .i64 y19.1 ∧ f 13 = .int .i64 y19.2 ∧ f 71 = .bool p27) ?_ ?_
      ·intro hJ28
       rcases ite_some hp27 with ⟨hc29, hF⟩ | ⟨hc29, hF⟩
       ·skip
        refine JL.skip (.bool rfl rfl rfl hc29) rfl ?_
        refine JL.skip (.bool rfl rfl rfl hc29) rfl ?_
        refine JL.skip (.bool rfl rfl rfl hc29) rfl ?_
        refine JL.pick_t (b := p22) rfl hc29 .none rfl ?_
        obtain rfl := Option.some.inj hF
        exact hJ28 _ ⟨rfl, rfl, rfl, rfl, rfl, rfl, rfl, rfl, rfl, rfl⟩
       ·skip
        refine JL.move (.some rfl rfl rfl hc29) rfl ?_
        obtain ⟨y30, hy30, hF⟩ := bind_some hF
        refine JL.callS (c_law03_isKnown n H10 y18.2 y30 hy30) rfl en_19 (.some rfl rfl rfl hc29) rfl ?_
        refine JL.not rfl (.some rfl rfl rfl hc29) rfl ?_
        refine JL.pick_f (b := p22) rfl hc29 .none rfl ?_
        obtain rfl := Option.some.inj hF
        exact hJ28 _ ⟨rfl, rfl, rfl, rfl, rfl, rfl, rfl, rfl, rfl, rfl⟩
      ·rintro f ⟨hf5, hf6, hf7, hf8, hf9, hf10, hf11, hf12, hf13, hf71⟩
       refine (JL.norm (i := 5) hf5 (JL.norm (i := 6) hf6 (JL.norm (i := 7) hf7 (JL.norm (i := 8) hf8 (JL.norm (i := 9) hf9 (JL.norm (i := 10) hf10 (JL.norm (i := 11) hf11 (JL.norm (i := 12) hf12 (JL.norm (i := 13) hf13 (JL.norm (i := 71) hf71 ?_))))))))))
       refine JL.move .none rfl ?_
       obtain ⟨p32, hp32, hF⟩ := bind_some hF
       refine JL.cut 4 (fun f => f 5 = .pointer (some ⟨b12, 0, none⟩) ∧ f 6 = .int .i64 y16.1 ∧ f 7 = .int .i64 y16.2 ∧ f 8 = .int .i64 y17.1 ∧ f 9 = .int .i64 y17.2 ∧ f 10 = .int .i64 y18.1 ∧ f 11 = .int .i64 y18.2 ∧ f 12 = .int .i64 y19.1 ∧ f 13 = .int .i64 y19.2 ∧ f 76 = .bool p32) ?_ ?_
       ·intro hJ33
        rcases ite_some hp32 with ⟨hc34, hF⟩ | ⟨hc34, hF⟩
        ·skip
         refine JL.skip (.bool rfl rfl rfl hc34) rfl ?_
         refine JL.skip (.bool rfl rfl rfl hc34) rfl ?_
         refine JL.skip (.bool rfl rfl rfl hc34) rfl ?_
         refine JL.pick_t (b := p27) rfl hc34 .none rfl ?_
         obtain rfl := Option.some.inj hF
         exact hJ33 _ ⟨rfl, rfl, rfl, rfl, rfl, rfl, rfl, rfl, rfl, rfl⟩
        ·skip
         refine JL.move (.some rfl rfl rfl hc34) rfl ?_
         obtain ⟨y35, hy35, hF⟩ := bind_some hF
         refine JL.callS (c_law03_isKnown n H10 y19.2 y35 hy35) rfl en_19 (.some rfl rfl rfl hc34) rfl ?_
         refine JL.not rfl (.some rfl rfl rfl hc34) rfl ?_
         refine JL.pick_f (b := p27) rfl hc34 .none rfl ?_
         obtain rfl := Option.some.inj hF
         exact hJ33 _ ⟨rfl, rfl, rfl, rfl, rfl, rfl, rfl, rfl, rfl, rfl⟩
       ·rintro f ⟨hf5, hf6, hf7, hf8, hf9, hf10, hf11, hf12, hf13, hf76⟩
        refine (JL.norm (i := 5) hf5 (JL.norm (i := 6) hf6 (JL.norm (i := 7) hf7 (JL.norm (i := 8) hf8 (JL.norm (i := 9) hf9 (JL.norm (i := 10) hf10 (JL.norm (i := 11) hf11 (JL.norm (i := 12) hf12 (JL.norm (i := 13) hf13 (JL.norm (i := 76) hf76 ?_))))))))))
        refine JL.move .none rfl ?_
        refine JL.cut 12 (fun f => f 5 = .pointer (some ⟨b12, 0, none⟩) ∧ f 8 = .int .i64 y17.1 ∧ f 9 = .int .i64 y17.2 ∧ f 10 = .int .i64 y18.1 ∧ f 11 = .int .i64 y18.2 ∧ f 12 = .int .i64 y19.1 ∧ f 13 = .int .i64 y19.2 ∧ f 89 = .bool (p32 || ((y16.2 == 0) && ((y17.2 != 0) || (y16.1 != y17.1))))) ?_ ?_
        ·intro hJ42
         rcases bcases p32 with hc43 | hc43
         ·skip
          refine JL.skip (.bool rfl rfl rfl hc43) rfl ?_
          refine JL.skip (.bool rfl rfl rfl hc43) rfl ?_
          refine JL.skip (.bool rfl rfl rfl hc43) rfl ?_
          refine JL.skip (.no rfl rfl rfl) rfl ?_
          refine JL.skip (.no rfl rfl rfl) rfl ?_
          refine JL.skip (.no rfl rfl rfl) rfl ?_
          refine JL.skip (.no rfl rfl rfl) rfl ?_
          refine JL.skip (.no rfl rfl rfl) rfl ?_
          refine JL.skip (.no rfl rfl rfl) rfl ?_
          refine JL.skip (.no rfl rfl rfl) rfl ?_
          refine JL.skip (.bool rfl rfl rfl hc43) rfl ?_
          refine JL.pick_t (b := p32) rfl hc43 .none rfl ?_
          exact hJ42 _ ⟨rfl, rfl, rfl, rfl, rfl, rfl, rfl, or_t hc43 rfl⟩
         ·skip
          refine JL.move (.some rfl rfl rfl hc43) rfl ?_
          refine JL.bin rfl rfl rfl (.some rfl rfl rfl hc43) rfl ?_
          refine JL.move (.some rfl rfl rfl hc43) rfl ?_
          refine JL.cut 8 (fun f => f 5 = .pointer (some ⟨b12, 0, none⟩) ∧ f 8 = .int .i64 y17.1 ∧ f 9 = .int .i64 y17.2 ∧ f 10 = .int .i64 y18.1 ∧ f 11 = .int .i64 y18.2 ∧ f 12 = .int .i64 y19.1 ∧ f 13 = .int .i64 y19.2 ∧ f 77 = .bool p32 ∧ f 88 = .bool ((y16.2 == 0) && ((y17.2 != 0) || (y16.1 != y17.1)))) ?_ ?_
          ·intro hJ46
           rcases bcases (y16.2 == 0) with hc47 | hc47
           ·skip
            refine JL.move (.some rfl rfl rfl hc47) rfl ?_
            refine JL.bin rfl rfl rfl (.some rfl rfl rfl hc47) rfl ?_
            refine JL.move (.some rfl rfl rfl hc47) rfl ?_
            refine JL.cut 4 (fun f => f 5 = .pointer (some ⟨b12, 0, none⟩) ∧ f 8 = .int .i64 y17.1 ∧ f 9 = .int .i64 y17.2 ∧ f 10 = .int .i64 y18.1 ∧ f 11 = .int .i64 y18.2 ∧ f 12 = .int .i64 y19.1 ∧ f 13 = .int .i64 y19.2 ∧ f 77 = .bool p32 ∧ f 80 = .bool (y16.2 == 0) ∧ f 87 = .bool ((y17.2 != 0) || (y16.1 != y17.1))) ?_ ?_
            ·intro hJ48
             rcases bcases (y17.2 != 0) with hc49 | hc49
             ·skip
              refine JL.skip (.bool rfl rfl rfl hc49) rfl ?_
              refine JL.skip (.bool rfl rfl rfl hc49) rfl ?_
              refine JL.skip (.bool rfl rfl rfl hc49) rfl ?_
              refine JL.pick_t (b := (y17.2 != 0)) rfl hc49 (.some rfl rfl rfl hc47) rfl ?_
              exact hJ48 _ ⟨rfl, rfl, rfl, rfl, rfl, rfl, rfl, rfl, rfl, or_t hc49 rfl⟩
             ·skip
              refine JL.move (.some rfl rfl rfl hc49) rfl ?_
              refine JL.move (.some rfl rfl rfl hc49) rfl ?_
              refine JL.bin rfl rfl rfl (.some rfl rfl rfl hc49) rfl ?_
              refine JL.pick_f (b := (y17.2 != 0)) rfl hc49 (.some rfl rfl rfl hc47) rfl ?_
              exact hJ48 _ ⟨rfl, rfl, rfl, rfl, rfl, rfl, rfl, rfl, rfl, or_f hc49 rfl⟩
            ·rintro f ⟨hf5, hf8, hf9, hf10, hf11, hf12, hf13, hf77, hf80, hf87⟩
             refine (JL.norm (i := 5) hf5 (JL.norm (i := 8) hf8 (JL.norm (i := 9) hf9 (JL.norm (i := 10) hf10 (JL.norm (i := 11) hf11 (JL.norm (i := 12) hf12 (JL.norm (i := 13) hf13 (JL.norm (i := 77) hf77 (JL.norm (i := 80) hf80 (JL.norm (i := 87) hf87 ?_))))))))))
             refine JL.pick_t (b := (y16.2 == 0)) rfl hc47 (.some rfl rfl rfl hc43) rfl ?_
             exact hJ46 _ ⟨rfl, rfl, rfl, rfl, rfl, rfl, rfl, rfl, and_t hc47 rfl⟩
           ·skip
            refine JL.skip (.bool rfl rfl rfl hc47) rfl ?_
            refine JL.skip (.bool rfl rfl rfl hc47) rfl ?_
            refine JL.skip (.bool rfl rfl rfl hc47) rfl ?_
            refine JL.skip (.no rfl rfl rfl) rfl ?_
            refine JL.skip (.no rfl rfl rfl) rfl ?_
            refine JL.skip (.no rfl rfl rfl) rfl ?_
            refine JL.skip (.bool rfl rfl rfl hc47) rfl ?_
            refine JL.pick_f (b := (y16.2 == 0)) rfl hc47 (.some rfl rfl rfl hc43) rfl ?_
            exact hJ46 _ ⟨rfl, rfl, rfl, rfl, rfl, rfl, rfl, rfl, and_f hc47 rfl⟩
          ·rintro f ⟨hf5, hf8, hf9, hf10, hf11, hf12, hf13, hf77, hf88⟩
           refine (JL.norm (i := 5) hf5 (JL.norm (i := 8) hf8 (JL.norm (i := 9) hf9 (JL.norm (i := 10) hf10 (JL.norm (i := 11) hf11 (JL.norm (i := 12) hf12 (JL.norm (i := 13) hf13 (JL.norm (i := 77) hf77 (JL.norm (i := 88) hf88 ?_)))))))))
           refine JL.pick_f (b := p32) rfl hc43 .none rfl ?_
           exact hJ42 _ ⟨rfl, rfl, rfl, rfl, rfl, rfl, rfl, or_f hc43 rfl⟩
        ·rintro f ⟨hf5, hf8, hf9, hf10, hf11, hf12, hf13, hf89⟩
         refine (JL.norm (i := 5) hf5 (JL.norm (i := 8) hf8 (JL.norm (i := 9) hf9 (JL.norm (i := 10) hf10 (JL.norm (i := 11) hf11 (JL.norm (i := 12) hf12 (JL.norm (i := 13) hf13 (JL.norm (i := 89) hf89 ?_))))))))
         refine JL.move .none rfl ?_
         refine JL.cut 12 (fun f => f 5 = .pointer (some ⟨b12, 0, none⟩) ∧ f 8 = .int .i64 y17.1 ∧ f 9 = .int .i64 y17.2 ∧ f 12 = .int .i64 y19.1 ∧ f 102 = .bool ((p32 || ((y16.2 == 0) && ((y17.2 != 0) || (y16.1 != y17.1)))) || ((y18.2 == 0) && ((y19.2 != 0) || (y18.1 != y19.1))))) ?_ ?_
         ·intro hJ56
          rcases bcases (p32 || ((y16.2 == 0) && ((y17.2 != 0) || (y16.1 != y17.1)))) with hc57 | hc57
          ·skip
           refine JL.skip (.bool rfl rfl rfl hc57) rfl ?_
           refine JL.skip (.bool rfl rfl rfl hc57) rfl ?_
           refine JL.skip (.bool rfl rfl rfl hc57) rfl ?_
           refine JL.skip (.no rfl rfl rfl) rfl ?_
           refine JL.skip (.no rfl rfl rfl) rfl ?_
           refine JL.skip (.no rfl rfl rfl) rfl ?_
           refine JL.skip (.no rfl rfl rfl) rfl ?_
           refine JL.skip (.no rfl rfl rfl) rfl ?_
           refine JL.skip (.no rfl rfl rfl) rfl ?_
           refine JL.skip (.no rfl rfl rfl) rfl ?_
           refine JL.skip (.bool rfl rfl rfl hc57) rfl ?_
           refine JL.pick_t (b := (p32 || ((y16.2 == 0) && ((y17.2 != 0) || (y16.1 != y17.1))))) rfl hc57 .none rfl ?_
           exact hJ56 _ ⟨rfl, rfl, rfl, rfl, or_t hc57 rfl⟩
          ·skip
           refine JL.move (.some rfl rfl rfl hc57) rfl ?_
           refine JL.bin rfl rfl rfl (.some rfl rfl rfl hc57) rfl ?_
           refine JL.move (.some rfl rfl rfl hc57) rfl ?_
           refine JL.cut 8 (fun f => f 5 = .pointer (some ⟨b12, 0, none⟩) ∧ f 8 = .int .i64 y17.1 ∧ f 9 = .int .i64 y17.2 ∧ f 12 = .int .i64 y19.1 ∧ f 90 = .bool (p32 || ((y16.2 == 0) && ((y17.2 != 0) || (y16.1 != y17.1)))) ∧ f 101 = .bool ((y18.2 == 0) && ((y19.2 != 0) || (y18.1 != y19.1)))) ?_ ?_
           ·intro hJ60
            rcases bcases (y18.2 == 0) with hc61 | hc61
            ·skip
             refine JL.move (.some rfl rfl rfl hc61) rfl ?_
             refine JL.bin rfl rfl rfl (.some rfl rfl rfl hc61) rfl ?_
             refine JL.move (.some rfl rfl rfl hc61) rfl ?_
             refine JL.cut 4 (fun f => f 5 = .pointer (some ⟨b12, 0, none⟩) ∧ f 8 = .int .i64 y17.1 ∧ f 9 = .int .i64 y17.2 ∧ f 12 = .int .i64 y19.1 ∧ f 90 = .bool (p32 || ((y16.2 == 0) && ((y17.2 != 0) || (y16.1 != y17.1)))) ∧ f 93 = .bool (y18.2 == 0) ∧ f 100 = .bool ((y19.2 != 0) || (y18.1 != y19.1))) ?_ ?_
             ·intro hJ62
              rcases bcases (y19.2 != 0) with hc63 | hc63
              ·skip
               refine JL.skip (.bool rfl rfl rfl hc63) rfl ?_
               refine JL.skip (.bool rfl rfl rfl hc63) rfl ?_
               refine JL.skip (.bool rfl rfl rfl hc63) rfl ?_
               refine JL.pick_t (b := (y19.2 != 0)) rfl hc63 (.some rfl rfl rfl hc61) rfl ?_
               exact hJ62 _ ⟨rfl, rfl, rfl, rfl, rfl, rfl, or_t hc63 rfl⟩
              ·skip
               refine JL.move (.some rfl rfl rfl hc63) rfl ?_
               refine JL.move (.some rfl rfl rfl hc63) rfl ?_
               refine JL.bin rfl rfl rfl (.some rfl rfl rfl hc63) rfl ?_
               refine JL.pick_f (b := (y19.2 != 0)) rfl hc63 (.some rfl rfl rfl hc61) rfl ?_
               exact hJ62 _ ⟨rfl, rfl, rfl, rfl, rfl, rfl, or_f hc63 rfl⟩
             ·rintro f ⟨hf5, hf8, hf9, hf12, hf90, hf93, hf100⟩
              refine (JL.norm (i := 5) hf5 (JL.norm (i := 8) hf8 (JL.norm (i := 9) hf9 (JL.norm (i := 12) hf12 (JL.norm (i := 90) hf90 (JL.norm (i := 93) hf93 (JL.norm (i := 100) hf100 ?_)))))))
              refine JL.pick_t (b := (y18.2 == 0)) rfl hc61 (.some rfl rfl rfl hc57) rfl ?_
              exact hJ60 _ ⟨rfl, rfl, rfl, rfl, rfl, and_t hc61 rfl⟩
            ·skip
             refine JL.skip (.bool rfl rfl rfl hc61) rfl ?_
             refine JL.skip (.bool rfl rfl rfl hc61) rfl ?_
             refine JL.skip (.bool rfl rfl rfl hc61) rfl ?_
             refine JL.skip (.no rfl rfl rfl) rfl ?_
             refine JL.skip (.no rfl rfl rfl) rfl ?_
             refine JL.skip (.no rfl rfl rfl) rfl ?_
             refine JL.skip (.bool rfl rfl rfl hc61) rfl ?_
             refine JL.pick_f (b := (y18.2 == 0)) rfl hc61 (.some rfl rfl rfl hc57) rfl ?_
             exact hJ60 _ ⟨rfl, rfl, rfl, rfl, rfl, and_f hc61 rfl⟩
           ·rintro f ⟨hf5, hf8, hf9, hf12, hf90, hf101⟩
            refine (JL.norm (i := 5) hf5 (JL.norm (i := 8) hf8 (JL.norm (i := 9) hf9 (JL.norm (i := 12) hf12 (JL.norm (i := 90) hf90 (JL.norm (i := 101) hf101 ?_))))))
            refine JL.pick_f (b := (p32 || ((y16.2 == 0) && ((y17.2 != 0) || (y16.1 != y17.1))))) rfl hc57 .none rfl ?_
            exact hJ56 _ ⟨rfl, rfl, rfl, rfl, or_f hc57 rfl⟩
         ·rintro f ⟨hf5, hf8, hf9, hf12, hf102⟩
          refine (JL.norm (i := 5) hf5 (JL.norm (i := 8) hf8 (JL.norm (i := 9) hf9 (JL.norm (i := 12) hf12 (JL.norm (i := 102) hf102 ?_)))))
          refine JL.done hQ (JQ.go ?_)
          rcases ite_some hF with ⟨hc64, hF⟩ | ⟨hc64, hF⟩
          ·refine JC.cond_t (b := ((p32 || ((y16.2 == 0) && ((y17.2 != 0) || (y16.1 != y17.1)))) || ((y18.2 == 0) && ((y19.2 != 0) || (y18.1 != y19.1))))) rfl hc64 ?_
           refine JC.seq (JC.region (by rfl) ?_)
           intro hQ
           refine JL.assign .none rfl ?_
           refine JL.done hQ (JQ.go (JC.ret (JQ.ret_then ?_)))
           obtain rfl := Option.some.inj hF
           exact JQ.outS rfl (.tmp .nil) rfl
          ·refine JC.cond_f (b := ((p32 || ((y16.2 == 0) && ((y17.2 != 0) || (y16.1 != y17.1)))) || ((y18.2 == 0) && ((y19.2 != 0) || (y18.1 != y19.1))))) rfl hc64 ?_
           refine JC.skip (JQ.go (JC.seq (JC.region (by rfl) ?_)))
           intro hQ
           refine JL.loadOwn 0 az_25 rfl rfl rfl .none rfl ?_
           obtain ⟨y65, hy65, hF⟩ := bind_some hF
           refine JL.callS (c_lays_Waste n H10 (Lap.mk y9.Width (w64 (y9.Length + by_)) y9.Faults y9.Flaws y9.Panels) y9a_v2 hy9a_2 y9a_v3 hy9a_3 y9a_v4 hy9a_4 y65 hy65) rfl en_26 .none rfl ?_
           refine JL.move .none rfl ?_
           refine JL.extract rfl rfl .none rfl ?_
           refine JL.extract rfl rfl .none rfl ?_
           refine JL.alloc ze_46 .none rfl ?_
           intro b66
           refine JL.storeOwn 0 (cs := [.int .i64 y65.1.Low, .int .i64 y65.1.High]) az_46 rfl rfl rfl (one_cons rfl (one_cons rfl one_nil)) rfl rfl .none ?_
           refine JL.assign .none rfl ?_
           refine JL.done hQ (JQ.go (JC.seq (JC.seq (JC.region (by rfl) ?_))))
           intro hQ
           refine JL.move .none rfl ?_
           refine JL.bin rfl rfl rfl .none rfl ?_
           refine JL.done hQ (JQ.go (JC.fresh (fun f => f 5 = .pointer (some ⟨b12, 0, none⟩) ∧ f 8 = .int .i64 y17.1 ∧ f 12 = .int .i64 y19.1 ∧ f 14 = .pointer (some ⟨b66, 0, none⟩) ∧ f 15 = .int .i64 y65.2 ∧ f 109 = .bool (y17.2 != 0)) ⟨rfl, rfl, rfl, rfl, rfl, rfl⟩ ?_))
           rintro f ⟨hf5, hf8, hf12, hf14, hf15, hf109⟩
           refine (JC.norm (i := 5) hf5 (JC.norm (i := 8) hf8 (JC.norm (i := 12) hf12 (JC.norm (i := 14) hf14 (JC.norm (i := 15) hf15 (JC.norm (i := 109) hf109 ?_))))))
           rcases ite_some hF with ⟨hc67, hF⟩ | ⟨hc67, hF⟩
           ·refine JC.cond_t (b := (y17.2 != 0)) rfl hc67 ?_
            refine JC.seq (JC.region (by rfl) ?_)
            intro hQ
            refine JL.move .none rfl ?_
            refine JL.bin rfl rfl rfl .none rfl ?_
            refine JL.move .none rfl ?_
            obtain ⟨p69, hp69, hF⟩ := bind_some hF
            refine JL.cut 2 (fun f => f 114 = .bool p69) ?_ ?_
            ·intro hJ70
             rcases ite_some hp69 with ⟨hc71, hF⟩ | ⟨hc71, hF⟩
             ·skip
              obtain ⟨y72, hy72, hF⟩ := bind_some hF
              refine JL.callS (c_law03_works n H10 y72 hy72) rfl en_11 (.some rfl rfl rfl hc71) rfl ?_
              refine JL.pick_t (b := (y65.2 == 3)) rfl hc71 .none rfl ?_
              obtain rfl := Option.some.inj hF
              exact hJ70 _ (rfl)
             ·skip
              refine JL.skip (.bool rfl rfl rfl hc71) rfl ?_
              refine JL.pick_f (b := (y65.2 == 3)) rfl hc71 .none rfl ?_
              obtain rfl := Option.some.inj hF
              exact hJ70 _ (rfl)
            ·rintro f hf114
             refine (JL.norm (i := 114) hf114 ?_)
             refine JL.assign .none rfl ?_
             refine JL.done hQ (JQ.go (JC.ret (JQ.ret_then ?_)))
             obtain rfl := Option.some.inj hF
             exact JQ.outS rfl (.tmp .nil) rfl
           ·refine JC.cond_f (b := (y17.2 != 0)) rfl hc67 ?_
            refine JC.skip (JQ.go (JC.seq (JC.region (by rfl) ?_)))
            intro hQ
            refine JL.move .none rfl ?_
            refine JL.bin rfl rfl rfl .none rfl ?_
            refine JL.move .none rfl ?_
            refine JL.cut 13 (fun f => f 14 = .pointer (some ⟨b66, 0, none⟩) ∧ f 130 = .bool ((y65.2 == 0) && ((w64 (y65.1.High - y65.1.Low)) == (w64 (y9.Width * (w64 (y17.1 - y19.1))))))) ?_ ?_
            ·intro hJ73
             rcases bcases (y65.2 == 0) with hc74 | hc74
             ·skip
              refine JL.fieldAddr fo_46_1 rfl (.some rfl rfl rfl hc74) rfl ?_
              refine JL.loadOwn 0 az_3 rfl rfl rfl (.some rfl rfl rfl hc74) rfl ?_
              refine JL.fieldAddr fo_46_0 rfl (.some rfl rfl rfl hc74) rfl ?_
              refine JL.loadOwn 0 az_3 rfl rfl rfl (.some rfl rfl rfl hc74) rfl ?_
              refine JL.bin rfl rfl rfl (.some rfl rfl rfl hc74) rfl ?_
              refine JL.fieldAddr fo_25_0 rfl (.some rfl rfl rfl hc74) rfl ?_
              refine JL.loadOwn 1 az_3 rfl rfl rfl (.some rfl rfl rfl hc74) rfl ?_
              refine JL.move (.some rfl rfl rfl hc74) rfl ?_
              refine JL.move (.some rfl rfl rfl hc74) rfl ?_
              refine JL.bin rfl rfl rfl (.some rfl rfl rfl hc74) rfl ?_
              refine JL.bin rfl rfl rfl (.some rfl rfl rfl hc74) rfl ?_
              refine JL.bin rfl rfl rfl (.some rfl rfl rfl hc74) rfl ?_
              refine JL.pick_t (b := (y65.2 == 0)) rfl hc74 .none rfl ?_
              exact hJ73 _ ⟨rfl, and_t hc74 rfl⟩
             ·skip
              refine JL.skip (.bool rfl rfl rfl hc74) rfl ?_
              refine JL.skip (.bool rfl rfl rfl hc74) rfl ?_
              refine JL.skip (.bool rfl rfl rfl hc74) rfl ?_
              refine JL.skip (.bool rfl rfl rfl hc74) rfl ?_
              refine JL.skip (.bool rfl rfl rfl hc74) rfl ?_
              refine JL.skip (.bool rfl rfl rfl hc74) rfl ?_
              refine JL.skip (.bool rfl rfl rfl hc74) rfl ?_
              refine JL.skip (.bool rfl rfl rfl hc74) rfl ?_
              refine JL.skip (.bool rfl rfl rfl hc74) rfl ?_
              refine JL.skip (.bool rfl rfl rfl hc74) rfl ?_
              refine JL.skip (.bool rfl rfl rfl hc74) rfl ?_
              refine JL.skip (.bool rfl rfl rfl hc74) rfl ?_
              refine JL.pick_f (b := (y65.2 == 0)) rfl hc74 .none rfl ?_
              exact hJ73 _ ⟨rfl, and_f hc74 rfl⟩
            ·rintro f ⟨hf14, hf130⟩
             refine (JL.norm (i := 14) hf14 (JL.norm (i := 130) hf130 ?_))
             refine JL.move .none rfl ?_
             refine JL.cut 4 (fun f => f 135 = .bool (((y65.2 == 0) && ((w64 (y65.1.High - y65.1.Low)) == (w64 (y9.Width * (w64 (y17.1 - y19.1)))))) && (decide (0 ≤ y65.1.Low)))) ?_ ?_
             ·intro hJ75
              rcases bcases ((y65.2 == 0) && ((w64 (y65.1.High - y65.1.Low)) == (w64 (y9.Width * (w64 (y17.1 - y19.1)))))) with hc76 | hc76
              ·skip
               refine JL.fieldAddr fo_46_0 rfl (.some rfl rfl rfl hc76) rfl ?_
               refine JL.loadOwn 0 az_3 rfl rfl rfl (.some rfl rfl rfl hc76) rfl ?_
               refine JL.bin rfl rfl rfl (.some rfl rfl rfl hc76) rfl ?_
               refine JL.pick_t (b := ((y65.2 == 0) && ((w64 (y65.1.High - y65.1.Low)) == (w64 (y9.Width * (w64 (y17.1 - y19.1))))))) rfl hc76 .none rfl ?_
               exact hJ75 _ (and_t hc76 rfl)
              ·skip
               refine JL.skip (.bool rfl rfl rfl hc76) rfl ?_
               refine JL.skip (.bool rfl rfl rfl hc76) rfl ?_
               refine JL.skip (.bool rfl rfl rfl hc76) rfl ?_
               refine JL.pick_f (b := ((y65.2 == 0) && ((w64 (y65.1.High - y65.1.Low)) == (w64 (y9.Width * (w64 (y17.1 - y19.1))))))) rfl hc76 .none rfl ?_
               exact hJ75 _ (and_f hc76 rfl)
             ·rintro f hf135
              refine (JL.norm (i := 135) hf135 ?_)
              refine JL.move .none rfl ?_
              obtain ⟨p78, hp78, hF⟩ := bind_some hF
              refine JL.cut 2 (fun f => f 138 = .bool p78) ?_ ?_
              ·intro hJ79
               rcases ite_some hp78 with ⟨hc80, hF⟩ | ⟨hc80, hF⟩
               ·skip
                obtain ⟨y81, hy81, hF⟩ := bind_some hF
                refine JL.callS (c_law03_works n H10 y81 hy81) rfl en_11 (.some rfl rfl rfl hc80) rfl ?_
                refine JL.pick_t (b := (((y65.2 == 0) && ((w64 (y65.1.High - y65.1.Low)) == (w64 (y9.Width * (w64 (y17.1 - y19.1)))))) && (decide (0 ≤ y65.1.Low)))) rfl hc80 .none rfl ?_
                obtain rfl := Option.some.inj hF
                exact hJ79 _ (rfl)
               ·skip
                refine JL.skip (.bool rfl rfl rfl hc80) rfl ?_
                refine JL.pick_f (b := (((y65.2 == 0) && ((w64 (y65.1.High - y65.1.Low)) == (w64 (y9.Width * (w64 (y17.1 - y19.1)))))) && (decide (0 ≤ y65.1.Low)))) rfl hc80 .none rfl ?_
                obtain rfl := Option.some.inj hF
                exact hJ79 _ (rfl)
              ·rintro f hf138
               refine (JL.norm (i := 138) hf138 ?_)
               refine JL.assign .none rfl ?_
               refine JL.done hQ (JQ.go (JC.ret ?_))
               obtain rfl := Option.some.inj hF
               exact JQ.outS rfl (.tmp .nil) rfl
end Go.Proofs.Ytflhjlgimihmgaa
end
section
namespace Go.Proofs.Ytflhjlgimihmgaa
open Go Go.RowKit Go.Dec
theorem law_LaysLonger (s : Lap) (by_ : Int) (hs : W_Lap s) (_ : I64 by_) : ∃ n, F_law03_LaysLonger n s by_ = some true := by
  obtain ⟨n, hn⟩ : ∃ n : Nat, n = 2000000 := ⟨_, rfl⟩
  refine ⟨n, ?_⟩
  have hn2 : 2000000 ≤ n := by omega
  have hn1 : 1000000 ≤ n := by omega
  have hw : F_law03_works n = some true := by rw [hn]; exact works_ok
  rw [F_law03_LaysLonger]
  obtain ⟨b, e, q⟩ := p_ready hn1 s hs.np
  rw [e]
  simp only [Option.bind_some]
  by_cases hb : b = true ∧ 0 ≤ by_ ∧ by_ ≤ 12
  · obtain ⟨rfl, h0, h12⟩ := hb
    have hE := q.1 rfl
    have hV := hE.v
    have hsm := hV.small
    have hL := hV.l
    rw [decide_eq_false (show ¬ by_ < 0 by omega), decide_eq_false (show ¬ 12 < by_ by omega)]
    simp only [Bool.not_true, Bool.or_self, Bool.false_eq_true, if_false, p_Copy hn1 s hsm, Option.bind_some]
    rw [w64_id (show -9223372036854775808 ≤ s.Length + by_ by omega) (by omega)]
    obtain ⟨b2, e2, q2⟩ := p_ready hn1 ⟨s.Width, s.Length + by_, s.Faults, s.Flaws, s.Panels⟩ hs.np
    rw [e2]
    simp only [Option.bind_some]
    cases b2 with
    | false => simp only [Bool.not_false, if_true, hw, Option.bind_some]
    | true =>
      have hV2 := (q2.1 rfl).v
      have hl2 := hV2.l
      have hw2 := hV2.w
      simp only at hl2 hw2
      obtain ⟨m1, l1, f1, _, g1⟩ := p_Least hn2 hV
      obtain ⟨m2, l2, f2, _, g2⟩ := p_Least hn2 hV2
      obtain ⟨m3, l3, f3, g3⟩ := p_Hopes hn2 hV
      obtain ⟨m4, l4, f4, g4⟩ := p_Hopes hn2 hV2
      obtain ⟨W1, W2⟩ := p_Waste hn2 hV2 f2 f4 g2 g4
      simp only at W1 W2
      rw [f1, f2, f3, f4]
      simp only [Option.bind_some, isKnown_ans, Bool.not_true, Bool.false_eq_true, if_false, Bool.false_or]
      have same : ∀ {bad : Int → Int → Prop} {m m' : Int} {l l' : List Place}, LeastIs s bad m l → LeastIs ⟨s.Width, s.Length + by_, s.Faults, s.Flaws, s.Panels⟩ bad m' l' → (((ans m).2 == 0) && (((ans m').2 != 0) || ((ans m).1 != (ans m').1))) = false := fun {bad m m' l l'} h h' => by
        rcases h.m_eq with k | k
        · obtain ⟨k1, k2⟩ := LeastIs.le (a := s) (b := ⟨s.Width, s.Length + by_, s.Faults, s.Flaws, s.Panels⟩) (bad := bad) (bad' := bad) (by simp only; omega) (fun _ _ h => h) h h' k
          have k3 : m = m' := by
            rcases h' with ⟨_, hl, _⟩ | ⟨h', _⟩
            · rcases h with ⟨_, _, hno⟩ | ⟨h, _⟩
              · rcases Int.lt_or_le m' m with hlt | hle
                · exact absurd ⟨_, hl⟩ (hno m' k1 hlt)
                · omega
              · omega
            · omega
          subst k3
          rw [ans_ok k]; simp
        · rw [ans_no k]; rfl
      rw [same g1 g2, same g3 g4]
      simp only [Bool.or_self, Bool.false_eq_true, if_false, W1, Option.bind_some]
      rcases g2.m_eq with k | k
      · obtain ⟨k1, k2, k3⟩ := W2 k
        rw [ans_ok k, ans_ok k1, if_pos k]
        simp only
        have hm2 : m2 ≤ s.Length + by_ := by
          rcases g2 with ⟨⟨_, h⟩, _⟩ | ⟨h, _⟩
          · exact h
          · omega
        obtain ⟨x1, x2⟩ := mul_in (x := s.Width) (y := m2) (A := 8) (C := 12) (by omega) (by omega) (by omega) (by omega)
        obtain ⟨x3, x4⟩ := mul_in (x := s.Width) (y := m4) (A := 8) (C := 12) (by omega) (by omega) (by omega) (by omega)
        obtain ⟨x5, x6⟩ := mul_in (x := s.Width) (y := m2 - m4) (A := 8) (C := 12) (by omega) (by omega) (by omega) (by omega)
        have hdist : s.Width * (m2 - m4) = s.Width * m2 - s.Width * m4 := Int.mul_sub ..
        rw [w64_id (show -9223372036854775808 ≤ m2 - m4 by omega) (by omega), w64_id (show -9223372036854775808 ≤ s.Width * (m2 - m4) by omega) (by omega), hdist]
        rw [w64_id (by omega) (by omega), decide_eq_true k3]
        have hsub : s.Width * m2 - (areaP s.Panels : Int) - (s.Width * m4 - areaP s.Panels) = s.Width * m2 - s.Width * m4 := by omega
        rw [hsub]
        simp only [bne_self_eq_false, Bool.false_eq_true, if_false, beq_self_eq_true, Bool.and_self, if_true, hw, Option.bind_some]
      · rw [ans_no k, if_neg (show ¬ 0 ≤ m2 by omega)]
        rw [hw]; rfl
  · rw [if_pos ?_, hw]; rfl
    cases b with
    | false => rfl
    | true =>
      by_cases h0 : by_ < 0
      · rw [decide_eq_true h0]; rfl
      · rw [decide_eq_true (show 12 < by_ by have : ¬ (0 ≤ by_ ∧ by_ ≤ 12) := fun h => hb ⟨rfl, h⟩; omega), Bool.or_true]
end Go.Proofs.Ytflhjlgimihmgaa
end
section
namespace Go.Proofs.Ytflhjlgimihmgaa
open Go Go.RowKit Go.Dec Go.ChangeShapes Go.WideShapes Go.ChangeAt
set_option linter.unusedVariables false
theorem cl_laidOut : laidOutB Try.prog = true := by kernel_rfl
theorem cl_own : ownKnob Try.prog.godebug = none := by kernel_rfl
set_option maxRecDepth 100000 in
set_option maxHeartbeats 1000000 in
theorem laysLonger_contract (law : ∀ (x0 : Lap) (x1 : Int), W_Lap x0 → I64 x1 → ∃ n, F_law03_LaysLonger n x0 x1 = some true)
    (T : Type) (enc : TypeId × Value → T) (W : World) (base : Nat) (args : Array Value) (ds gs : List (DataW T)) (before : List MemPlace)
    (hval : ∀ (j : Nat) t v, Try.f7.params[j]? = some t → args[j]? = some v → Value.okWide Try.prog W .any base t v)
    (hW : DataW.Whole enc Try.prog Try.f7.params.toList Rows.laysLongerSpec.vars false W args.toList ds gs before) :
    Calls Try.prog 7 args W fun e W' => ∃ v, e = .returned v ∧ Rows.laysLongerSpec.post enc Try.prog Try.f7 false true false false W args v W' := by
  have hW' := hW
  obtain ⟨p, q, hA0, hV, rfl, hfz, hnd⟩ := hW
  have hA : DataW.TrodAll enc Try.prog W 0 (fun _ => true) true Try.f7.params.toList args.toList ds p := hA0
  rw [Try.params7] at hA hval
  obtain ⟨v0, vs0, d0, ds0, p0, q0, hargs, rfl, rfl, h0, r0⟩ := trodAll_cons hA
  obtain ⟨v1, vs1, d1, ds1, p1, q1, rfl, rfl, rfl, h1, r1⟩ := trodAll_cons r0
  obtain ⟨rfl, rfl, rfl⟩ := trodAll_nil r1
  obtain rfl : args = #[v0, v1] := by rw [← Array.toArray_toList (xs := args), hargs]
  obtain ⟨rfl, rfl⟩ := trodVars_none hV
  obtain ⟨cs0, rfl, hs0⟩ := okWide_struct Try.underlying25 (hval 0 25 v0 rfl rfl)
  obtain ⟨n1, rfl⟩ := okWide_int Try.underlying3 (hval 1 3 v1 rfl rfl)
  have k0 := h0
  obtain ⟨f0, e0⟩ := h0
  have k1 := h1
  obtain ⟨f1, e1⟩ := h1
  obtain ⟨_, x0, r0, w0⟩ := o_Lap _ _ _ _ _ _ _ e0
  obtain ⟨_, x1, r1, w1⟩ := (Opens.int (by kernel_rfl)) _ _ _ _ _ _ _ e1
  obtain ⟨n, hn⟩ := law x0 x1 w0 w1
  obtain ⟨u0_0, u0_1, u0_2, q0, s0_0, s0_1, s0_2⟩ := r0
  have q0 : cs0.toList = _ := q0
  obtain rfl : cs0 = _ := by rw [← Array.toArray_toList (xs := cs0), q0]
  have q1 : [Value.int .i64 n1] = [Value.int .i64 x1] := r1
  obtain rfl : x1 = n1 := by simpa using q1.symm
  have hlt : ∀ x ∈ p0 ++ (p1 ++ []), x.block < W.heap.size := fun x hx => hW'.lt x (by simpa using hx)
  refine ((c_law03_LaysLonger n (hw W) x0 u0_0 s0_0 u0_1 s0_1 u0_2 s0_2 x1 true hn) W (hw_le W)).mono fun e W' ⟨he, hb0⟩ => ?_
  have hb := hb0.plain rfl
  subst he
  refine ⟨_, rfl, _, _, _, [], p0 ++ (p1 ++ []), [], hW', trodAll_cons_mk (shut_bool Try.underlying4 _) trodAll_mk0, ?_, rfl, hb.frame _, fun h => by cases h⟩
  exact trodAll_cons_mk (Below.trod cl_laidOut (by kernel_rfl) (of_decide_eq_true (by kernel_rfl)) k0 hb (fun x hx => hlt x (List.mem_append_left _ hx))) (trodAll_cons_mk (Below.trod cl_laidOut (by kernel_rfl) (of_decide_eq_true (by kernel_rfl)) k1 hb (fun x hx => hlt x (List.mem_append_right _ (List.mem_append_left _ hx)))) trodAll_mk0)
set_option maxRecDepth 100000 in
theorem laysLonger_lifted (law : ∀ (x0 : Lap) (x1 : Int), W_Lap x0 → I64 x1 → ∃ n, F_law03_LaysLonger n x0 x1 = some true)
    (os : Os) (started : os.Started) (H : Type) (enc : TypeId × Value → H) :
    ReturnsInHanded {} Try.checked os 7 .any (Rows.laysLongerSpec.pre6 enc Try.prog Try.f7 Rows.laysLongerRow.domain false) (Rows.laysLongerSpec.post enc Try.prog Try.f7 false true false false) := by
  refine returnsInHanded_of_change (C := Try.checked) cl_own started (by kernel_rfl) Try.func7
    (ChangeSpec.witness6 (enc := enc) (C := Try.checked) false ⟨#[], #[.agg #[.int .i64 0, .int .i64 0, .slice none 0 0, .slice none 0 0, .slice none 0 0], .int .i64 0], []⟩ 8 (by kernel_rfl) (by kernel_rfl) (by kernel_rfl) (by kernel_rfl)) ?_
  intro W base args ds gs before hval hW _ _
  exact laysLonger_contract law H enc W base args ds gs before hval hW
theorem laysLonger_holds (law : ∀ (x0 : Lap) (x1 : Int), W_Lap x0 → I64 x1 → ∃ n, F_law03_LaysLonger n x0 x1 = some true) : Rows.LaysLongerSaid :=
  OpenClaim.holds_of_wide 7 Try.f7 rfl rfl rfl rfl rfl rfl rfl ⟨rfl, rfl, rfl, rfl, rfl⟩ rfl rfl rfl rfl rfl (by kernel_rfl) Try.func7 (by kernel_rfl)
    (of_decide_eq_true (by kernel_rfl)) (by unfold Func.isWrapper; first | (rw [if_pos (by decide +kernel)]; kernel_rfl) | (rw [if_neg (by decide +kernel)]; exact ⟨rfl, rfl⟩))
    (fun os started H enc _ => laysLonger_lifted law os started H enc)
theorem laysLonger_proved : Rows.LaysLongerSaid := laysLonger_holds law_LaysLonger
end Go.Proofs.Ytflhjlgimihmgaa
end
