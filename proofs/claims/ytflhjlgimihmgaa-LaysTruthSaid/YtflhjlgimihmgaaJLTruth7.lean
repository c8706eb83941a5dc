/-
  LaysTruth holds of every input that can be given, without a condition.
-/
import Derived.Test.YtflhjlgimihmgaaJLTruth6
import Derived.JoinedCond
section
set_option maxRecDepth 100000
set_option maxHeartbeats 40000000
namespace Go.Proofs.Ytflhjlgimihmgaa
open Go Go.RowKit Go.Dec
set_option linter.unusedVariables false
-- 5 ferrule/ferrulelaw03.LaysTruth
def F_law03_LaysTruth_s1 (n : Nat) (s : Lap) (bits : Int) : Int × List Cell → Option ((Int × List Cell) ⊕ (List Cell))
 | (i_778, out_779) => if decide (i_778 < (s.Flaws.length : Int)) = true then ((nneg (IntKind.u64.wrap i_778)).bind fun _ => (if ((band .i64 (bshr .i64 bits (IntKind.u64.wrap i_778)) 1) == 1) = true then ((geti s.Flaws i_778).bind fun y864 => (lim (out_779 ++ [y864])).bind fun l870 => some l870) else (some out_779)).bind fun out_855 => some (Sum.inl ((w64 (i_778 + 1)), out_855))) else (some (Sum.inr out_779))
def F_law03_LaysTruth_s2 (n : Nat) (flaw : Int) (y9 : (List Int) × Int) : Bool × Int → Option ((Bool × Int) ⊕ Bool)
 | (matters_1119, r_1120) => if decide (r_1120 < (y9.1.length : Int)) = true then ((if matters_1119 = true then (some true) else ((geti y9.1 r_1120).bind fun y1133 => some (y1133 == flaw)) : Option Bool).bind fun p1130 => some (Sum.inl (p1130, (w64 (r_1120 + 1))))) else (some (Sum.inr matters_1119))
def F_law03_LaysTruth (n : Nat) (s : Lap) (bits : Int) (flaw : Int) : Option Bool :=
 (F_law03_ready n s).bind fun y2 => if ((!y2) || (decide (bits < 0))) = true then ((F_law03_works n).bind fun y6 => some y6) else ((F_lays_Least n s).bind fun y7 => (F_lays_Hopes n s).bind fun y8 => (F_lays_Matters n s).bind fun y9 => (F_law03_isKnown n y7.2).bind fun y12 => (if (!y12) = true then (some true) else ((F_law03_isKnown n y8.2).bind fun y17 => some (!y17)) : Option Bool).bind fun p14 => if ((p14 || (y9.2 != 0)) || (decide ((s.Flaws.length : Int) < (y9.1.length : Int)))) = true then (some false) else ((F_ref03_Copy n s).bind fun y23 => (loopO n (F_law03_LaysTruth_s1 n s bits) (0, y23.Faults)).bind fun out_479 => (F_law03_ready n (Lap.mk y23.Width y23.Length out_479 ([] : List Cell) y23.Panels)).bind fun y931 => if (!y931) = true then ((F_law03_works n).bind fun y933 => some y933) else ((F_lays_Least n (Lap.mk y23.Width y23.Length out_479 ([] : List Cell) y23.Panels)).bind fun y937 => (F_law03_isKnown n y937.2).bind fun y938 => if (((!y938) || ((y937.2 == 0) && ((y8.2 != 0) || (decide (y937.1 < y8.1))))) || ((y7.2 == 0) && ((y937.2 != 0) || (decide (y7.1 < y937.1))))) = true then (some false) else (if ((decide (flaw < 0)) || (decide ((s.Flaws.length : Int) ≤ flaw))) = true then ((F_law03_works n).bind fun y971 => some y971) else ((F_ref03_Copy n s).bind fun y972 => (slc y972.Flaws 0 flaw).bind fun y982 => (slc s.Flaws (w64 (flaw + 1)) s.Flaws.length).bind fun y986 => (lim (y982 ++ y986)).bind fun l989 => (F_lays_Least n (Lap.mk y972.Width y972.Length y972.Faults l989 y972.Panels)).bind fun y1044 => (loopO n (F_law03_LaysTruth_s2 n flaw y9) (false, 0)).bind fun matters_1090 => (F_law03_isKnown n y1044.2).bind fun y1138 => (if (y1138 && (matters_1090 == ((y1044.2 == 0) && ((y7.2 != 0) || (decide (y1044.1 < y7.1)))))) = true then ((F_law03_works n).bind fun y1157 => some y1157) else (some false) : Option Bool).bind fun p1154 => some p1154)))))
theorem c_law03_LaysTruth (n : Nat) (H : Hp) (s : Lap) (s_v2 : Value) (hs_2 : SL H 2 R_Cell s_v2 s.Faults) (s_v3 : Value) (hs_3 : SL H 2 R_Cell s_v3 s.Flaws) (s_v4 : Value) (hs_4 : SL H 1 R_Panel s_v4 s.Panels) (bits : Int) (flaw : Int) (y : Bool) (hF : F_law03_LaysTruth n s bits flaw = some y) : SC Try.prog 5 [.agg [.int .i64 s.Width, .int .i64 s.Length, s_v2, s_v3, s_v4].toArray, .int .i64 bits, .int .i64 flaw] (.bool y) H := by
 rw [F_law03_LaysTruth] at hF
 refine SC.of (N := 192) Try.func5 rfl rfl rfl fun w => ?_
 refine JC.seq (JC.region (by rfl) ?_)
 intro hQ
 refine JL.box (cs := [.int .i64 s.Width, .int .i64 s.Length, s_v2, s_v3, s_v4]) rfl .none rfl ?_
 intro b1
 refine JL.assign .none rfl ?_
 refine JL.done hQ (JQ.go (JC.seq (JC.seq (JC.region (by rfl) ?_))))
 intro hQ
 refine JL.loadOwn 0 az_25 rfl rfl rfl .none rfl ?_
 obtain ⟨y2, hy2, hF⟩ := bind_some hF
 refine JL.callS (c_law03_ready n H s s_v2 hs_2 s_v3 hs_3 s_v4 hs_4 y2 hy2) rfl en_10 .none rfl ?_
 refine JL.not rfl .none rfl ?_
 refine JL.move .none rfl ?_
 refine JL.cut 3 (fun f => f 1 = .int .i64 bits ∧ f 2 = .int .i64 flaw ∧ f 3 = .pointer (some ⟨b1, 0, none⟩) ∧ f 28 = .bool ((!y2) || (decide (bits < 0)))) ?_ ?_
 ·intro hJ3
  rcases bcases (!y2) with hc4 | hc4
  ·skip
   refine JL.skip (.bool rfl rfl rfl hc4) rfl ?_
   refine JL.skip (.bool rfl rfl rfl hc4) rfl ?_
   refine JL.pick_t (b := (!y2)) rfl hc4 .none rfl ?_
   exact hJ3 _ ⟨rfl, rfl, rfl, or_t hc4 rfl⟩
  ·skip
   refine JL.move (.some rfl rfl rfl hc4) rfl ?_
   refine JL.bin rfl rfl rfl (.some rfl rfl rfl hc4) rfl ?_
   refine JL.pick_f (b := (!y2)) rfl hc4 .none rfl ?_
   exact hJ3 _ ⟨rfl, rfl, rfl, or_f hc4 rfl⟩
 ·rintro f ⟨hf1, hf2, hf3, hf28⟩
  refine (JL.norm (i := 1) hf1 (JL.norm (i := 2) hf2 (JL.norm (i := 3) hf3 (JL.norm (i := 28) hf28 ?_))))
  refine JL.done hQ (JQ.go ?_)
  rcases ite_some hF with ⟨hc5, hF⟩ | ⟨hc5, hF⟩
  ·refine JC.cond_t (b := ((!y2) || (decide (bits < 0)))) rfl hc5 ?_
   refine JC.seq (JC.region (by rfl) ?_)
   intro hQ
   obtain ⟨y6, hy6, hF⟩ := bind_some hF
   refine JL.callS (c_law03_works n H y6 hy6) rfl en_11 .none rfl ?_
   refine JL.assign .none rfl ?_
   refine JL.done hQ (JQ.go (JC.ret (JQ.ret_then ?_)))
   obtain rfl := Option.some.inj hF
   exact JQ.outS rfl (.tmp .nil) rfl
  ·refine JC.cond_f (b := ((!y2) || (decide (bits < 0)))) rfl hc5 ?_
   refine JC.skip (JQ.go (JC.seq (JC.region (by rfl) ?_)))
   intro hQ
   refine JL.loadOwn 0 az_25 rfl rfl rfl .none rfl ?_
   obtain ⟨y7, hy7, hF⟩ := bind_some hF
   refine JL.callS (c_lays_Least n H s s_v2 hs_2 s_v3 hs_3 s_v4 hs_4 y7 hy7) rfl en_14 .none rfl ?_
   refine JL.move .none rfl ?_
   refine JL.extract rfl rfl .none rfl ?_
   refine JL.extract rfl rfl .none rfl ?_
   refine JL.assign .none rfl ?_
   refine JL.assign .none rfl ?_
   refine JL.done hQ (JQ.go (JC.seq (JC.region (by rfl) ?_)))
   intro hQ
   refine JL.loadOwn 0 az_25 rfl rfl rfl .none rfl ?_
   obtain ⟨y8, hy8, hF⟩ := bind_some hF
   refine JL.callS (c_lays_Hopes n H s s_v2 hs_2 s_v3 hs_3 s_v4 hs_4 y8 hy8) rfl en_17 .none rfl ?_
   refine JL.move .none rfl ?_
   refine JL.extract rfl rfl .none rfl ?_
   refine JL.extract rfl rfl .none rfl ?_
   refine JL.assign .none rfl ?_
   refine JL.assign .none rfl ?_
   refine JL.done hQ (JQ.go (JC.fresh (fun f => f 1 = .int .i64 bits ∧ f 2 = .int .i64 flaw ∧ f 3 = .pointer (some ⟨b1, 0, none⟩) ∧ f 7 = .int .i64 y7.1 ∧ f 8 = .int .i64 y7.2 ∧ f 9 = .int .i64 y8.1 ∧ f 10 = .int .i64 y8.2) ⟨rfl, rfl, rfl, rfl, rfl, rfl, rfl⟩ ?_))
   rintro f ⟨hf1, hf2, hf3, hf7, hf8, hf9, hf10⟩
   refine (JC.norm (i := 1) hf1 (JC.norm (i := 2) hf2 (JC.norm (i := 3) hf3 (JC.norm (i := 7) hf7 (JC.norm (i := 8) hf8 (JC.norm (i := 9) hf9 (JC.norm (i := 10) hf10 ?_)))))))
   refine JC.seq (JC.region (by rfl) ?_)
   intro hQ
   refine JL.loadOwn 0 az_25 rfl rfl rfl .none rfl ?_
   obtain ⟨y9, hy9, hF⟩ := bind_some hF
   refine JL.callH (c_lays_Matters n H s s_v2 hs_2 s_v3 hs_3 s_v4 hs_4 y9 hy9) rfl en_18 .none rfl ?_
   rintro H10 vv11 hs10 ⟨y9a_v0, rfl, hy9a_0⟩
   refine JL.move .none rfl ?_
   refine JL.extract rfl rfl .none rfl ?_
   refine JL.extract rfl rfl .none rfl ?_
   refine JL.assign .none rfl ?_
   refine JL.assign .none rfl ?_
   refine JL.done hQ (JQ.go (JC.seq (JC.seq (JC.region (by rfl) ?_))))
   intro hQ
   refine JL.move .none rfl ?_
   obtain ⟨y12, hy12, hF⟩ := bind_some hF
   refine JL.callS (c_law03_isKnown n H10 y7.2 y12 hy12) rfl en_19 .none rfl ?_
   refine JL.not rfl .none rfl ?_
   refine JL.move .none rfl ?_
   obtain ⟨p14, hp14, hF⟩ := bind_some hF
   refine JL.cut 4 (fun f => f 1 = .int .i64 bits ∧ f 2 = .int .i64 flaw ∧ f 3 = .pointer (some ⟨b1, 0, none⟩) ∧ f 7 = .int .i64 y7.1 ∧ f 8 = .int .i64 y7.2 ∧ f 9 = .int .i64 y8.1 ∧ f 10 = .int .i64 y8.2 ∧ f 11 = y9a_v0 ∧ f 12 = .int .i64 y9.2 ∧ f 52 = .bool p14) ?_ ?_
   ·intro hJ15
    rcases ite_some hp14 with ⟨hc16, hF⟩ | ⟨hc16, hF⟩
    ·skip
     refine JL.skip (.bool rfl rfl rfl hc16) rfl ?_
     refine JL.skip (.bool rfl rfl rfl hc16) rfl ?_
     refine JL.skip (.bool rfl rfl rfl hc16) rfl ?_
     refine JL.pick_t (b := (!y12)) rfl hc16 .none rfl ?_
     obtain rfl := Option.some.inj hF
     exact hJ15 _ ⟨rfl, rfl, rfl, rfl, rfl, rfl, rfl, rfl, rfl, rfl⟩
    ·skip
     refine JL.move (.some rfl rfl rfl hc16) rfl ?_
     obtain ⟨y17, hy17, hF⟩ := bind_some hF
     refine JL.callS (c_law03_isKnown n H10 y8.2 y17 hy17) rfl en_19 (.some rfl rfl rfl hc16) rfl ?_
     refine JL.not rfl (.some rfl rfl rfl hc16) rfl ?_
     refine JL.pick_f (b := (!y12)) rfl hc16 .none rfl ?_
     obtain rfl := Option.some.inj hF
     exact hJ15 _ ⟨rfl, rfl, rfl, rfl, rfl, rfl, rfl, rfl, rfl, rfl⟩
   ·rintro f ⟨hf1, hf2, hf3, hf7, hf8, hf9, hf10, hf11, hf12, hf52⟩
    refine (JL.norm (i := 1) hf1 (JL.norm (i := 2) hf2 (JL.norm (i := 3) hf3 (JL.norm (i := 7) hf7 (JL.norm (i := 8) hf8 (JL.norm (i := 9) hf9 (JL.norm (i := 10) hf10 (JL.norm (i := 11) hf11 (JL.norm (i := 12) hf12 (JL.norm (i := 52) hf52 ?_))))))))))
    refine JL.move .none rfl ?_
    refine JL.cut 3 (fun f => f 1 = .int .i64 bits ∧ f 2 = .int .i64 flaw ∧ f 3 = .pointer (some ⟨b1, 0, none⟩) ∧ f 7 = .int .i64 y7.1 ∧ f 8 = .int .i64 y7.2 ∧ f 9 = .int .i64 y8.1 ∧ f 10 = .int .i64 y8.2 ∧ f 11 = y9a_v0 ∧ f 56 = .bool (p14 || (y9.2 != 0))) ?_ ?_
    ·intro hJ18
     rcases bcases p14 with hc19 | hc19
     ·skip
      refine JL.skip (.bool rfl rfl rfl hc19) rfl ?_
      refine JL.skip (.bool rfl rfl rfl hc19) rfl ?_
      refine JL.pick_t (b := p14) rfl hc19 .none rfl ?_
      exact hJ18 _ ⟨rfl, rfl, rfl, rfl, rfl, rfl, rfl, rfl, or_t hc19 rfl⟩
     ·skip
      refine JL.move (.some rfl rfl rfl hc19) rfl ?_
      refine JL.bin rfl rfl rfl (.some rfl rfl rfl hc19) rfl ?_
      refine JL.pick_f (b := p14) rfl hc19 .none rfl ?_
      exact hJ18 _ ⟨rfl, rfl, rfl, rfl, rfl, rfl, rfl, rfl, or_f hc19 rfl⟩
    ·rintro f ⟨hf1, hf2, hf3, hf7, hf8, hf9, hf10, hf11, hf56⟩
     refine (JL.norm (i := 1) hf1 (JL.norm (i := 2) hf2 (JL.norm (i := 3) hf3 (JL.norm (i := 7) hf7 (JL.norm (i := 8) hf8 (JL.norm (i := 9) hf9 (JL.norm (i := 10) hf10 (JL.norm (i := 11) hf11 (JL.norm (i := 56) hf56 ?_)))))))))
     refine JL.move .none rfl ?_
     refine JL.cut 7 (fun f => f 1 = .int .i64 bits ∧ f 2 = .int .i64 flaw ∧ f 3 = .pointer (some ⟨b1, 0, none⟩) ∧ f 7 = .int .i64 y7.1 ∧ f 8 = .int .i64 y7.2 ∧ f 9 = .int .i64 y8.1 ∧ f 10 = .int .i64 y8.2 ∧ f 11 = y9a_v0 ∧ f 64 = .bool ((p14 || (y9.2 != 0)) || (decide ((s.Flaws.length : Int) < (y9.1.length : Int))))) ?_ ?_
     ·intro hJ20
      rcases bcases (p14 || (y9.2 != 0)) with hc21 | hc21
      ·skip
       refine JL.skip (.bool rfl rfl rfl hc21) rfl ?_
       refine JL.skip (.bool rfl rfl rfl hc21) rfl ?_
       refine JL.skip (.bool rfl rfl rfl hc21) rfl ?_
       refine JL.skip (.bool rfl rfl rfl hc21) rfl ?_
       refine JL.skip (.bool rfl rfl rfl hc21) rfl ?_
       refine JL.skip (.bool rfl rfl rfl hc21) rfl ?_
       refine JL.pick_t (b := (p14 || (y9.2 != 0))) rfl hc21 .none rfl ?_
       exact hJ20 _ ⟨rfl, rfl, rfl, rfl, rfl, rfl, rfl, rfl, or_t hc21 rfl⟩
      ·skip
       refine JL.move (.some rfl rfl rfl hc21) rfl ?_
       refine JL.lenSL (R := RInt) ul_48 hy9a_0 (.some rfl rfl rfl hc21) rfl ?_
       refine JL.fieldAddr fo_25_3 rfl (.some rfl rfl rfl hc21) rfl ?_
       refine JL.loadOwn 0 az_22 rfl rfl rfl (.some rfl rfl rfl hc21) rfl ?_
       refine JL.lenSL (R := R_Cell) ul_22 (SL.mono R_Cell_mono hs10 hs_3) (.some rfl rfl rfl hc21) rfl ?_
       refine JL.bin rfl rfl rfl (.some rfl rfl rfl hc21) rfl ?_
       refine JL.pick_f (b := (p14 || (y9.2 != 0))) rfl hc21 .none rfl ?_
       exact hJ20 _ ⟨rfl, rfl, rfl, rfl, rfl, rfl, rfl, rfl, or_f hc21 rfl⟩
     ·rintro f ⟨hf1, hf2, hf3, hf7, hf8, hf9, hf10, hf11, hf64⟩
      refine (JL.norm (i := 1) hf1 (JL.norm (i := 2) hf2 (JL.norm (i := 3) hf3 (JL.norm (i := 7) hf7 (JL.norm (i := 8) hf8 (JL.norm (i := 9) hf9 (JL.norm (i := 10) hf10 (JL.norm (i := 11) hf11 (JL.norm (i := 64) hf64 ?_)))))))))
      refine JL.done hQ (JQ.go ?_)
      rcases ite_some hF with ⟨hc22, hF⟩ | ⟨hc22, hF⟩
      ·refine JC.cond_t (b := ((p14 || (y9.2 != 0)) || (decide ((s.Flaws.length : Int) < (y9.1.length : Int))))) rfl hc22 ?_
       refine JC.seq (JC.region (by rfl) ?_)
       intro hQ
       refine JL.assign .none rfl ?_
       refine JL.done hQ (JQ.go (JC.ret (JQ.ret_then ?_)))
       obtain rfl := Option.some.inj hF
       exact JQ.outS rfl (.tmp .nil) rfl
      ·refine JC.cond_f (b := ((p14 || (y9.2 != 0)) || (decide ((s.Flaws.length : Int) < (y9.1.length : Int))))) rfl hc22 ?_
       refine JC.skip (JQ.go (JC.seq (JC.region (by rfl) ?_)))
       intro hQ
       refine JL.loadOwn 0 az_25 rfl rfl rfl .none rfl ?_
       obtain ⟨y23, hy23, hF⟩ := bind_some hF
       refine JL.callXC (x_ref03_Copy n H10 s s_v2 (SL.mono R_Cell_mono hs10 hs_2) s_v3 (SL.mono R_Cell_mono hs10 hs_3) s_v4 (SL.mono R_Panel_mono hs10 hs_4) y23 hy23) rfl en_12 .none rfl ?_
       rintro H24 vv25 _ hs24 ⟨y23_v0, y23_xs0, y23_v1, y23_xs1, y23_v2, y23_xs2, rfl, rfl, hy23_0, hy23_1, hy23_2⟩
       refine JL.alloc ze_25 .none rfl ?_
       intro b29
       refine JL.oneG 2 rfl (fun ho30 => ?_)
       refine JL.oneG 1 rfl (fun ho31 => ?_)
       refine JL.oneG 0 rfl (fun ho32 => ?_)
       refine JL.storeOwn 0 (cs := [.int .i64 y23.Width, .int .i64 y23.Length, y23_v0, y23_v1, y23_v2]) az_25 rfl rfl rfl (one_cons rfl (one_cons rfl (one_cons ho30.1 (one_cons ho31.1 (one_cons ho32.1 one_nil))))) rfl rfl .none ?_
       refine JL.done hQ (JQ.go (JC.seq (JC.region (by rfl) ?_)))
       intro hQ
       refine JL.fieldAddr fo_25_3 rfl .none rfl ?_
       refine JL.storeOwn 0 (cs := [.slice none 0 0]) az_22 rfl rfl rfl (one_cons rfl one_nil) rfl rfl .none ?_
       refine JL.done hQ (JQ.go (JC.seq (JC.seq (JC.region (by rfl) ?_))))
       intro hQ
       refine JL.assign .none rfl ?_
       refine JL.done hQ (JQ.go ?_)
       obtain ⟨r481, hlr481, hKr481⟩ := bind_some hF
       refine JC.join (fun (out_479 : List Cell) H480 f bs gs => ∃ (vout_479 : Value) (xsout_479 : List Value), f 2 = .int .i64 flaw ∧ f 3 = .pointer (some ⟨b1, 0, none⟩) ∧ f 7 = .int .i64 y7.1 ∧ f 8 = .int .i64 y7.2 ∧ f 9 = .int .i64 y8.1 ∧ f 10 = .int .i64 y8.2 ∧ f 11 = y9a_v0 ∧ f 13 = .pointer (some ⟨b29, 0, none⟩) ∧ bs = [(b29, .cells [.int .i64 y23.Width, .int .i64 y23.Length, vout_479, .slice none 0 0, y23_v2].toArray 25), (b1, .cells [.int .i64 s.Width, .int .i64 s.Length, s_v2, s_v3, s_v4].toArray 25)] ∧ gs = [⟨y23_v2, 30, 1, y23.Panels.length, y23_xs2⟩, ⟨vout_479, 27, 2, out_479.length, xsout_479⟩] ∧ CH H480 2 R_Cell xsout_479 out_479 ∧ HSub H24 H480 ∧ out_479 = r481) ?_ ?_
       ·skip
        refine JC.block (JC.mask [true, true] [true, false, true] ?_)
        refine JC.loop hlr481 (fun (x : Int × List Cell) H780 f bs gs => match x with | (i_778, out_779) => ∃ (vout_779 : Value) (xsout_779 : List Value), f 1 = .int .i64 bits ∧ f 2 = .int .i64 flaw ∧ f 3 = .pointer (some ⟨b1, 0, none⟩) ∧ f 7 = .int .i64 y7.1 ∧ f 8 = .int .i64 y7.2 ∧ f 9 = .int .i64 y8.1 ∧ f 10 = .int .i64 y8.2 ∧ f 11 = y9a_v0 ∧ f 13 = .pointer (some ⟨b29, 0, none⟩) ∧ f 14 = .int .i64 i_778 ∧ bs = [(b29, .cells [.int .i64 y23.Width, .int .i64 y23.Length, vout_779, .slice none 0 0, y23_v2].toArray 25), (b1, .cells [.int .i64 s.Width, .int .i64 s.Length, s_v2, s_v3, s_v4].toArray 25)] ∧ gs = [⟨y23_v2, 30, 1, y23.Panels.length, y23_xs2⟩, ⟨vout_779, 27, 2, out_779.length, xsout_779⟩] ∧ CH H780 2 R_Cell xsout_779 out_779 ∧ HSub H24 H780) ⟨y23_v0, y23_xs0, rfl, rfl, rfl, rfl, rfl, rfl, rfl, rfl, rfl, rfl, rfl, rfl, hy23_0, (HSub.refl _)⟩ ?_
        rintro ⟨i_778, out_779⟩ x782 H780 f bs gs ⟨vout_779, xsout_779, hf1, hf2, hf3, hf7, hf8, hf9, hf10, hf11, hf13, hf14, rfl, rfl, hout_779, hs780⟩ hF hr781
        rw [F_law03_LaysTruth_s1] at hF
        refine (JC.norm (i := 1) hf1 (JC.norm (i := 2) hf2 (JC.norm (i := 3) hf3 (JC.norm (i := 7) hf7 (JC.norm (i := 8) hf8 (JC.norm (i := 9) hf9 (JC.norm (i := 10) hf10 (JC.norm (i := 11) hf11 (JC.norm (i := 13) hf13 (JC.norm (i := 14) hf14 ?_))))))))))
        refine JC.seq (JC.seq (JC.region (by rfl) ?_))
        intro hQ
        refine JL.move .none rfl ?_
        refine JL.fieldAddr fo_25_3 rfl .none rfl ?_
        refine JL.loadOwn 1 az_22 rfl rfl rfl .none rfl ?_
        refine JL.lenSL (R := R_Cell) ul_22 (SL.mono R_Cell_mono (HSub.trans hs10 (HSub.trans hs24 hs780)) hs_3) .none rfl ?_
        refine JL.bin rfl rfl rfl .none rfl ?_
        refine JL.done hQ (JQ.go ?_)
        rcases ite_some hF with ⟨hc783, hF⟩ | ⟨hc783, hF⟩
        ·refine JC.cond_t (b := decide (i_778 < (s.Flaws.length : Int))) rfl hc783 ?_
         refine JC.skip (JQ.go (JC.seq (JC.block (JC.seq (JC.region (by rfl) ?_)))))
         intro hQ
         refine JL.move .none rfl ?_
         refine JL.move .none rfl ?_
         refine JL.conv un_3 un_52 rfl .none rfl ?_
         obtain ⟨u784, hu784, hF⟩ := bind_some hF
         refine JL.shr rfl rfl (nneg_some hu784) .none rfl ?_
         refine JL.and rfl rfl .none rfl ?_
         refine JL.bin rfl rfl rfl .none rfl ?_
         refine JL.done hQ (JQ.go (JC.fresh (fun f => f 1 = .int .i64 bits ∧ f 2 = .int .i64 flaw ∧ f 3 = .pointer (some ⟨b1, 0, none⟩) ∧ f 7 = .int .i64 y7.1 ∧ f 8 = .int .i64 y7.2 ∧ f 9 = .int .i64 y8.1 ∧ f 10 = .int .i64 y8.2 ∧ f 11 = y9a_v0 ∧ f 13 = .pointer (some ⟨b29, 0, none⟩) ∧ f 14 = .int .i64 i_778 ∧ f 80 = .bool ((band .i64 (bshr .i64 bits (IntKind.u64.wrap i_778)) 1) == 1)) ⟨rfl, rfl, rfl, rfl, rfl, rfl, rfl, rfl, rfl, rfl, rfl⟩ ?_))
         rintro f ⟨hf1, hf2, hf3, hf7, hf8, hf9, hf10, hf11, hf13, hf14, hf80⟩
         refine (JC.norm (i := 1) hf1 (JC.norm (i := 2) hf2 (JC.norm (i := 3) hf3 (JC.norm (i := 7) hf7 (JC.norm (i := 8) hf8 (JC.norm (i := 9) hf9 (JC.norm (i := 10) hf10 (JC.norm (i := 11) hf11 (JC.norm (i := 13) hf13 (JC.norm (i := 14) hf14 (JC.norm (i := 80) hf80 ?_)))))))))))
         obtain ⟨r857, hlr857, hKr857⟩ := bind_some hF
         refine JC.join (fun (out_855 : List Cell) H856 f bs gs => ∃ (vout_855 : Value) (xsout_855 : List Value), f 1 = .int .i64 bits ∧ f 2 = .int .i64 flaw ∧ f 3 = .pointer (some ⟨b1, 0, none⟩) ∧ f 7 = .int .i64 y7.1 ∧ f 8 = .int .i64 y7.2 ∧ f 9 = .int .i64 y8.1 ∧ f 10 = .int .i64 y8.2 ∧ f 11 = y9a_v0 ∧ f 13 = .pointer (some ⟨b29, 0, none⟩) ∧ f 14 = .int .i64 i_778 ∧ bs = [(b29, .cells [.int .i64 y23.Width, .int .i64 y23.Length, vout_855, .slice none 0 0, y23_v2].toArray 25), (b1, .cells [.int .i64 s.Width, .int .i64 s.Length, s_v2, s_v3, s_v4].toArray 25)] ∧ gs = [⟨y23_v2, 30, 1, y23.Panels.length, y23_xs2⟩, ⟨vout_855, 27, 2, out_855.length, xsout_855⟩] ∧ CH H856 2 R_Cell xsout_855 out_855 ∧ HSub H780 H856 ∧ out_855 = r857) ?_ ?_
         ·have hF := hlr857
          rcases ite_some hF with ⟨hc858, hF⟩ | ⟨hc858, hF⟩
          ·refine JC.cond_t (b := ((band .i64 (bshr .i64 bits (IntKind.u64.wrap i_778)) 1) == 1)) rfl hc858 ?_
           obtain ⟨y864, hy864, hF⟩ := bind_some hF
           obtain ⟨l870, hl870, hF⟩ := bind_some hF
           refine JC.mixed 10 11 #[false, false, false, false, false, false, false, false, false, false, false] [(b29, .cells [.int .i64 y23.Width, .int .i64 y23.Length, vout_779, .slice none 0 0, y23_v2].toArray 25), (b1, .cells [.int .i64 s.Width, .int .i64 s.Length, s_v2, s_v3, s_v4].toArray 25)] (by rfl) mo_ (by kernel_rfl) (by kernel_rfl) ?_
           intro hQ hE
           refine JA.take 0 (listed' := #[true, false, false, false, false, false, false, false, false, false, false]) hQ rfl (by kernel_rfl) (by kernel_rfl) (by kernel_rfl) (by kernel_rfl) (by kernel_rfl) hE (HSub.refl _) (.cons_cons _ (.cons_cons _ (List.nil_sublist _))) ?_
           refine JL.fieldAddr fo_25_2 rfl .none rfl ?_
           refine JA.cont ?_
           refine JA.take 1 (listed' := #[true, true, false, false, false, false, false, false, false, false, false]) hQ rfl (by kernel_rfl) (by kernel_rfl) (by kernel_rfl) (by kernel_rfl) (by kernel_rfl) hE (HSub.refl _) (.cons_cons _ (.cons_cons _ (List.nil_sublist _))) ?_
           refine JL.loadOwn 0 az_22 rfl rfl rfl .none rfl ?_
           refine JA.cont ?_
           refine JA.take 2 (listed' := #[true, true, true, false, false, false, false, false, false, false, false]) hQ rfl (by kernel_rfl) (by kernel_rfl) (by kernel_rfl) (by kernel_rfl) (by kernel_rfl) hE (HSub.refl _) (.cons_cons _ (.cons_cons _ (List.nil_sublist _))) ?_
           refine JL.fieldAddr fo_25_3 rfl .none rfl ?_
           refine JA.cont ?_
           refine JA.take 3 (listed' := #[true, true, true, true, false, false, false, false, false, false, false]) hQ rfl (by kernel_rfl) (by kernel_rfl) (by kernel_rfl) (by kernel_rfl) (by kernel_rfl) hE (HSub.refl _) (.cons_cons _ (.cons_cons _ (List.nil_sublist _))) ?_
           refine JL.loadOwn 1 az_22 rfl rfl rfl .none rfl ?_
           refine JA.cont ?_
           refine JA.take 4 (listed' := #[true, true, true, true, true, false, false, false, false, false, false]) hQ rfl (by kernel_rfl) (by kernel_rfl) (by kernel_rfl) (by kernel_rfl) (by kernel_rfl) hE (HSub.refl _) (.cons_cons _ (.cons_cons _ (List.nil_sublist _))) ?_
           refine JL.move .none rfl ?_
           refine JA.cont ?_
           refine JA.take 5 (listed' := #[true, true, true, true, true, true, false, false, false, false, false]) hQ rfl (by kernel_rfl) (by kernel_rfl) (by kernel_rfl) (by kernel_rfl) (by kernel_rfl) hE (HSub.refl _) (.cons_cons _ (.cons_cons _ (List.nil_sublist _))) ?_
           refine JL.indexSL (R := R_Cell) sl_22 (SL.mono R_Cell_mono (HSub.trans hs10 (HSub.trans hs24 hs780)) hs_3) rfl hy864 .none rfl ?_
           rintro b919 o920 cs921 hc922 - rfl
           refine JA.cont ?_
           refine JA.take 6 (listed' := #[true, true, true, true, true, true, true, false, false, false, false]) hQ rfl (by kernel_rfl) (by kernel_rfl) (by kernel_rfl) (by kernel_rfl) (by kernel_rfl) hE (HSub.refl _) (.cons_cons _ (.cons_cons _ (List.nil_sublist _))) ?_
           refine JL.loadH 0 az_27 rfl hc922 rfl .none rfl ?_
           refine JA.cont ?_
           refine JA.many [7] (by kernel_rfl) (by simp) (all_one ⟨_, #[true, true, true, true, true, true, true, true, false, false, false], rfl, (by kernel_rfl), ?_⟩)
           refine JL.buildSlice (e := 27) (l := [.int .i64 y864.Row, .int .i64 y864.Col]) (by kernel_rfl) .none rfl ?_
           intro b923
           refine JA.after hE (HSub.refl _) (.cons _ (.cons_cons _ (.cons_cons _ (List.nil_sublist _)))) ?_
           refine JA.many [8] (by kernel_rfl) (by simp) (all_one ⟨_, #[true, true, true, true, true, true, true, true, true, false, false], rfl, (by kernel_rfl), ?_⟩)
           refine JL.appO (R := R_Cell) 1 0 (l := out_779) (m := [y864]) ap_22 rfl ⟨rfl, rfl⟩ rfl hout_779 rfl rfl rfl (CH.cons (cs := [.int .i64 y864.Row, .int .i64 y864.Col]) rfl rfl CH.nil) rfl (one_cons rfl (one_cons rfl one_nil)) hl870 .none rfl ?_
           intro v924 xs925 hch926
           refine JA.after hE (HSub.refl _) (.cons _ (.cons_cons _ (.cons_cons _ (List.nil_sublist _)))) ?_
           refine JA.take 9 (listed' := #[true, true, true, true, true, true, true, true, true, true, false]) hQ rfl (by kernel_rfl) (by kernel_rfl) (by kernel_rfl) (by kernel_rfl) (by kernel_rfl) hE (HSub.refl _) (.cons _ (.cons_cons _ (.cons_cons _ (List.nil_sublist _)))) ?_
           refine JL.fieldAddr fo_25_2 rfl .none rfl ?_
           refine JA.cont ?_
           refine JA.many [10] (by kernel_rfl) (by simp) (all_one ⟨_, #[true, true, true, true, true, true, true, true, true, true, true], rfl, (by kernel_rfl), ?_⟩)
           refine JL.oneG 1 rfl (fun ho927 => ?_)
           refine JL.storeOwn 1 (cs := [v924]) az_22 rfl ho927.2 rfl (one_cons ho927.1 one_nil) rfl rfl .none ?_
           refine JA.sink (by kernel_rfl) ?_
           refine JA.done hQ (by kernel_rfl) ?_
           obtain rfl := Option.some.inj hF
           refine JQ.mask [false, true, true] [true, true] ?_
           exact JQ.join l870 ⟨v924, xs925, rfl, rfl, rfl, rfl, rfl, rfl, rfl, rfl, rfl, rfl, rfl, rfl, hch926, (HSub.refl _), rfl⟩
          ·refine JC.cond_f (b := ((band .i64 (bshr .i64 bits (IntKind.u64.wrap i_778)) 1) == 1)) rfl hc858 ?_
           refine JC.skip ?_
           obtain rfl := Option.some.inj hF
           exact JQ.join out_779 ⟨vout_779, xsout_779, rfl, rfl, rfl, rfl, rfl, rfl, rfl, rfl, rfl, rfl, rfl, rfl, hout_779, (HSub.refl _), rfl⟩
         ·rintro out_855 H856 f bs gs ⟨vout_855, xsout_855, hf1, hf2, hf3, hf7, hf8, hf9, hf10, hf11, hf13, hf14, rfl, rfl, hout_855, hs856, rfl⟩
          have hF := hKr857
          try dsimp only at hF
          refine (JQ.norm (i := 1) hf1 (JQ.norm (i := 2) hf2 (JQ.norm (i := 3) hf3 (JQ.norm (i := 7) hf7 (JQ.norm (i := 8) hf8 (JQ.norm (i := 9) hf9 (JQ.norm (i := 10) hf10 (JQ.norm (i := 11) hf11 (JQ.norm (i := 13) hf13 (JQ.norm (i := 14) hf14 ?_))))))))))
          refine JQ.normal_block (JQ.go (JC.region (by rfl) ?_))
          intro hQ
          refine JL.move .none rfl ?_
          refine JL.bin rfl rfl rfl .none rfl ?_
          refine JL.assign .none rfl ?_
          refine JL.done hQ ?_
          obtain rfl := Option.some.inj hF
          exact JQ.next rfl ⟨vout_855, xsout_855, rfl, rfl, rfl, rfl, rfl, rfl, rfl, rfl, rfl, rfl, rfl, rfl, hout_855, (HSub.trans hs780 hs856)⟩
        ·refine JC.cond_f (b := decide (i_778 < (s.Flaws.length : Int))) rfl hc783 ?_
         refine JC.exit (JQ.exit_then (JQ.exit_then (JQ.exit_block ?_)))
         obtain rfl := Option.some.inj hF
         have ehr781 := hr781 _ rfl
         subst ehr781
         exact JQ.join out_779 ⟨vout_779, xsout_779, rfl, rfl, rfl, rfl, rfl, rfl, rfl, rfl, rfl, rfl, hout_779, hs780, rfl⟩
       ·rintro out_479 H480 f bs gs ⟨vout_479, xsout_479, hf2, hf3, hf7, hf8, hf9, hf10, hf11, hf13, rfl, rfl, hout_479, hs480, rfl⟩
        have hF := hKr481
        try dsimp only at hF
        refine (JQ.norm (i := 2) hf2 (JQ.norm (i := 3) hf3 (JQ.norm (i := 7) hf7 (JQ.norm (i := 8) hf8 (JQ.norm (i := 9) hf9 (JQ.norm (i := 10) hf10 (JQ.norm (i := 11) hf11 (JQ.norm (i := 13) hf13 ?_))))))))
        refine JQ.go (JC.seq (JC.seq (JC.region (by rfl) ?_)))
        intro hQ
        refine JL.loadOwn 0 az_25 rfl rfl rfl .none rfl ?_
        obtain ⟨y931, hy931, hF⟩ := bind_some hF
        refine JL.callLG2 (R := R_Cell) (S := R_Panel) 1 0 rfl R_Cell_mono hout_479 rfl rfl R_Panel_mono (CH.mono R_Panel_mono hs480 hy23_2) rfl (fun H928 hs928 hg929 hg930 => c_law03_ready n H928 (Lap.mk y23.Width y23.Length out_479 ([] : List Cell) y23.Panels) vout_479 hg929 (.slice none 0 0) SL.nil y23_v2 hg930 y931 hy931) rfl en_10 .none rfl ?_
        refine JL.not rfl .none rfl ?_
        refine JL.done hQ (JQ.go ?_)
        rcases ite_some hF with ⟨hc932, hF⟩ | ⟨hc932, hF⟩
        ·refine JC.cond_t (b := (!y931)) rfl hc932 ?_
         refine JC.seq (JC.region (by rfl) ?_)
         intro hQ
         obtain ⟨y933, hy933, hF⟩ := bind_some hF
         refine JL.callS (c_law03_works n H480 y933 hy933) rfl en_11 .none rfl ?_
         refine JL.assign .none rfl ?_
         refine JL.done hQ (JQ.go (JC.ret (JQ.ret_then ?_)))
         obtain rfl := Option.some.inj hF
         exact JQ.outS rfl (.tmp .nil) rfl
        ·refine JC.cond_f (b := (!y931)) rfl hc932 ?_
         refine JC.skip (JQ.go (JC.seq (JC.region (by rfl) ?_)))
         intro hQ
         refine JL.loadOwn 0 az_25 rfl rfl rfl .none rfl ?_
         obtain ⟨y937, hy937, hF⟩ := bind_some hF
         refine JL.callLG2 (R := R_Cell) (S := R_Panel) 1 0 rfl R_Cell_mono hout_479 rfl rfl R_Panel_mono (CH.mono R_Panel_mono hs480 hy23_2) rfl (fun H934 hs934 hg935 hg936 => c_lays_Least n H934 (Lap.mk y23.Width y23.Length out_479 ([] : List Cell) y23.Panels) vout_479 hg935 (.slice none 0 0) SL.nil y23_v2 hg936 y937 hy937) rfl en_14 .none rfl ?_
         refine JL.move .none rfl ?_
         refine JL.extract rfl rfl .none rfl ?_
         refine JL.extract rfl rfl .none rfl ?_
         refine JL.assign .none rfl ?_
         refine JL.assign .none rfl ?_
         refine JL.done hQ (JQ.go (JC.fresh (fun f => f 2 = .int .i64 flaw ∧ f 3 = .pointer (some ⟨b1, 0, none⟩) ∧ f 7 = .int .i64 y7.1 ∧ f 8 = .int .i64 y7.2 ∧ f 9 = .int .i64 y8.1 ∧ f 10 = .int .i64 y8.2 ∧ f 11 = y9a_v0 ∧ f 15 = .int .i64 y937.1 ∧ f 16 = .int .i64 y937.2) ⟨rfl, rfl, rfl, rfl, rfl, rfl, rfl, rfl, rfl⟩ ?_))
         rintro f ⟨hf2, hf3, hf7, hf8, hf9, hf10, hf11, hf15, hf16⟩
         refine (JC.norm (i := 2) hf2 (JC.norm (i := 3) hf3 (JC.norm (i := 7) hf7 (JC.norm (i := 8) hf8 (JC.norm (i := 9) hf9 (JC.norm (i := 10) hf10 (JC.norm (i := 11) hf11 (JC.norm (i := 15) hf15 (JC.norm (i := 16) hf16 ?_)))))))))
         refine JC.seq (JC.seq (JC.region (by rfl) ?_))
         intro hQ
         refine JL.move .none rfl ?_
         obtain ⟨y938, hy938, hF⟩ := bind_some hF
         refine JL.callS (c_law03_isKnown n H480 y937.2 y938 hy938) rfl en_19 .none rfl ?_
         refine JL.not rfl .none rfl ?_
         refine JL.move .none rfl ?_
         refine JL.cut 12 (fun f => f 2 = .int .i64 flaw ∧ f 3 = .pointer (some ⟨b1, 0, none⟩) ∧ f 7 = .int .i64 y7.1 ∧ f 8 = .int .i64 y7.2 ∧ f 11 = y9a_v0 ∧ f 15 = .int .i64 y937.1 ∧ f 16 = .int .i64 y937.2 ∧ f 115 = .bool ((!y938) || ((y937.2 == 0) && ((y8.2 != 0) || (decide (y937.1 < y8.1)))))) ?_ ?_
         ·intro hJ945
          rcases bcases (!y938) with hc946 | hc946
          ·skip
           refine JL.skip (.bool rfl rfl rfl hc946) rfl ?_
           refine JL.skip (.bool rfl rfl rfl hc946) rfl ?_
           refine JL.skip (.bool rfl rfl rfl hc946) rfl ?_
           refine JL.skip (.no rfl rfl rfl) rfl ?_
           refine JL.skip (.no rfl rfl rfl) rfl ?_
           refine JL.skip (.no rfl rfl rfl) rfl ?_
           refine JL.skip (.no rfl rfl rfl) rfl ?_
           refine JL.skip (.no rfl rfl rfl) rfl ?_
           refine JL.skip (.no rfl rfl rfl) rfl ?_
           refine JL.skip (.no rfl rfl rfl) rfl ?_
           refine JL.skip (.bool rfl rfl rfl hc946) rfl ?_
           refine JL.pick_t (b := (!y938)) rfl hc946 .none rfl ?_
           exact hJ945 _ ⟨rfl, rfl, rfl, rfl, rfl, rfl, rfl, or_t hc946 rfl⟩
          ·skip
           refine JL.move (.some rfl rfl rfl hc946) rfl ?_
           refine JL.bin rfl rfl rfl (.some rfl rfl rfl hc946) rfl ?_
           refine JL.move (.some rfl rfl rfl hc946) rfl ?_
           refine JL.cut 8 (fun f => f 2 = .int .i64 flaw ∧ f 3 = .pointer (some ⟨b1, 0, none⟩) ∧ f 7 = .int .i64 y7.1 ∧ f 8 = .int .i64 y7.2 ∧ f 11 = y9a_v0 ∧ f 15 = .int .i64 y937.1 ∧ f 16 = .int .i64 y937.2 ∧ f 103 = .bool (!y938) ∧ f 114 = .bool ((y937.2 == 0) && ((y8.2 != 0) || (decide (y937.1 < y8.1))))) ?_ ?_
           ·intro hJ949
            rcases bcases (y937.2 == 0) with hc950 | hc950
            ·skip
             refine JL.move (.some rfl rfl rfl hc950) rfl ?_
             refine JL.bin rfl rfl rfl (.some rfl rfl rfl hc950) rfl ?_
             refine JL.move (.some rfl rfl rfl hc950) rfl ?_
             refine JL.cut 4 (fun f => f 2 = .int .i64 flaw ∧ f 3 = .pointer (some ⟨b1, 0, none⟩) ∧ f 7 = .int .i64 y7.1 ∧ f 8 = .int .i64 y7.2 ∧ f 11 = y9a_v0 ∧ f 15 = .int .i64 y937.1 ∧ f 16 = .int .i64 y937.2 ∧ f 103 = .bool (!y938) ∧ f 106 = .bool (y937.2 == 0) ∧ f 113 = .bool ((y8.2 != 0) || (decide (y937.1 < y8.1)))) ?_ ?_
             ·intro hJ951
              rcases bcases (y8.2 != 0) with hc952 | hc952
              ·skip
               refine JL.skip (.bool rfl rfl rfl hc952) rfl ?_
               refine JL.skip (.bool rfl rfl rfl hc952) rfl ?_
               refine JL.skip (.bool rfl rfl rfl hc952) rfl ?_
               refine JL.pick_t (b := (y8.2 != 0)) rfl hc952 (.some rfl rfl rfl hc950) rfl ?_
               exact hJ951 _ ⟨rfl, rfl, rfl, rfl, rfl, rfl, rfl, rfl, rfl, or_t hc952 rfl⟩
              ·skip
               refine JL.move (.some rfl rfl rfl hc952) rfl ?_
               refine JL.move (.some rfl rfl rfl hc952) rfl ?_
               refine JL.bin rfl rfl rfl (.some rfl rfl rfl hc952) rfl ?_
               refine JL.pick_f (b := (y8.2 != 0)) rfl hc952 (.some rfl rfl rfl hc950) rfl ?_
               exact hJ951 _ ⟨rfl, rfl, rfl, rfl, rfl, rfl, rfl, rfl, rfl, or_f hc952 rfl⟩
             ·rintro f ⟨hf2, hf3, hf7, hf8, hf11, hf15, hf16, hf103, hf106, hf113⟩
              refine (JL.norm (i := 2) hf2 (JL.norm (i := 3) hf3 (JL.norm (i := 7) hf7 (JL.norm (i := 8) hf8 (JL.norm (i := 11) hf11 (JL.norm (i := 15) hf15 (JL.norm (i := 16) hf16 (JL.norm (i := 103) hf103 (JL.norm (i := 106) hf106 (JL.norm (i := 113) hf113 ?_))))))))))
              refine JL.pick_t (b := (y937.2 == 0)) rfl hc950 (.some rfl rfl rfl hc946) rfl ?_
              exact hJ949 _ ⟨rfl, rfl, rfl, rfl, rfl, rfl, rfl, rfl, and_t hc950 rfl⟩
            ·skip
             refine JL.skip (.bool rfl rfl rfl hc950) rfl ?_
             refine JL.skip (.bool rfl rfl rfl hc950) rfl ?_
             refine JL.skip (.bool rfl rfl rfl hc950) rfl ?_
             refine JL.skip (.no rfl rfl rfl) rfl ?_
             refine JL.skip (.no rfl rfl rfl) rfl ?_
             refine JL.skip (.no rfl rfl rfl) rfl ?_
             refine JL.skip (.bool rfl rfl rfl hc950) rfl ?_
             refine JL.pick_f (b := (y937.2 == 0)) rfl hc950 (.some rfl rfl rfl hc946) rfl ?_
             exact hJ949 _ ⟨rfl, rfl, rfl, rfl, rfl, rfl, rfl, rfl, and_f hc950 rfl⟩
           ·rintro f ⟨hf2, hf3, hf7, hf8, hf11, hf15, hf16, hf103, hf114⟩
            refine (JL.norm (i := 2) hf2 (JL.norm (i := 3) hf3 (JL.norm (i := 7) hf7 (JL.norm (i := 8) hf8 (JL.norm (i := 11) hf11 (JL.norm (i := 15) hf15 (JL.norm (i := 16) hf16 (JL.norm (i := 103) hf103 (JL.norm (i := 114) hf114 ?_)))))))))
            refine JL.pick_f (b := (!y938)) rfl hc946 .none rfl ?_
            exact hJ945 _ ⟨rfl, rfl, rfl, rfl, rfl, rfl, rfl, or_f hc946 rfl⟩
         ·rintro f ⟨hf2, hf3, hf7, hf8, hf11, hf15, hf16, hf115⟩
          refine (JL.norm (i := 2) hf2 (JL.norm (i := 3) hf3 (JL.norm (i := 7) hf7 (JL.norm (i := 8) hf8 (JL.norm (i := 11) hf11 (JL.norm (i := 15) hf15 (JL.norm (i := 16) hf16 (JL.norm (i := 115) hf115 ?_))))))))
          refine JL.move .none rfl ?_
          refine JL.cut 12 (fun f => f 2 = .int .i64 flaw ∧ f 3 = .pointer (some ⟨b1, 0, none⟩) ∧ f 7 = .int .i64 y7.1 ∧ f 8 = .int .i64 y7.2 ∧ f 11 = y9a_v0 ∧ f 128 = .bool (((!y938) || ((y937.2 == 0) && ((y8.2 != 0) || (decide (y937.1 < y8.1))))) || ((y7.2 == 0) && ((y937.2 != 0) || (decide (y7.1 < y937.1)))))) ?_ ?_
          ·intro hJ959
           rcases bcases ((!y938) || ((y937.2 == 0) && ((y8.2 != 0) || (decide (y937.1 < y8.1))))) with hc960 | hc960
           ·skip
            refine JL.skip (.bool rfl rfl rfl hc960) rfl ?_
            refine JL.skip (.bool rfl rfl rfl hc960) rfl ?_
            refine JL.skip (.bool rfl rfl rfl hc960) rfl ?_
            refine JL.skip (.no rfl rfl rfl) rfl ?_
            refine JL.skip (.no rfl rfl rfl) rfl ?_
            refine JL.skip (.no rfl rfl rfl) rfl ?_
            refine JL.skip (.no rfl rfl rfl) rfl ?_
            refine JL.skip (.no rfl rfl rfl) rfl ?_
            refine JL.skip (.no rfl rfl rfl) rfl ?_
            refine JL.skip (.no rfl rfl rfl) rfl ?_
            refine JL.skip (.bool rfl rfl rfl hc960) rfl ?_
            refine JL.pick_t (b := ((!y938) || ((y937.2 == 0) && ((y8.2 != 0) || (decide (y937.1 < y8.1)))))) rfl hc960 .none rfl ?_
            exact hJ959 _ ⟨rfl, rfl, rfl, rfl, rfl, or_t hc960 rfl⟩
           ·skip
            refine JL.move (.some rfl rfl rfl hc960) rfl ?_
            refine JL.bin rfl rfl rfl (.some rfl rfl rfl hc960) rfl ?_
            refine JL.move (.some rfl rfl rfl hc960) rfl ?_
            refine JL.cut 8 (fun f => f 2 = .int .i64 flaw ∧ f 3 = .pointer (some ⟨b1, 0, none⟩) ∧ f 7 = .int .i64 y7.1 ∧ f 8 = .int .i64 y7.2 ∧ f 11 = y9a_v0 ∧ f 116 = .bool ((!y938) || ((y937.2 == 0) && ((y8.2 != 0) || (decide (y937.1 < y8.1))))) ∧ f 127 = .bool ((y7.2 == 0) && ((y937.2 != 0) || (decide (y7.1 < y937.1))))) ?_ ?_
            ·intro hJ963
             rcases bcases (y7.2 == 0) with hc964 | hc964
             ·skip
              refine JL.move (.some rfl rfl rfl hc964) rfl ?_
              refine JL.bin rfl rfl rfl (.some rfl rfl rfl hc964) rfl ?_
              refine JL.move (.some rfl rfl rfl hc964) rfl ?_
              refine JL.cut 4 (fun f => f 2 = .int .i64 flaw ∧ f 3 = .pointer (some ⟨b1, 0, none⟩) ∧ f 7 = .int .i64 y7.1 ∧ f 8 = .int .i64 y7.2 ∧ f 11 = y9a_v0 ∧ f 116 = .bool ((!y938) || ((y937.2 == 0) && ((y8.2 != 0) || (decide (y937.1 < y8.1))))) ∧ f 119 = .bool (y7.2 == 0) ∧ f 126 = .bool ((y937.2 != 0) || (decide (y7.1 < y937.1)))) ?_ ?_
              ·intro hJ965
               rcases bcases (y937.2 != 0) with hc966 | hc966
               ·skip
                refine JL.skip (.bool rfl rfl rfl hc966) rfl ?_
                refine JL.skip (.bool rfl rfl rfl hc966) rfl ?_
                refine JL.skip (.bool rfl rfl rfl hc966) rfl ?_
                refine JL.pick_t (b := (y937.2 != 0)) rfl hc966 (.some rfl rfl rfl hc964) rfl ?_
                exact hJ965 _ ⟨rfl, rfl, rfl, rfl, rfl, rfl, rfl, or_t hc966 rfl⟩
               ·skip
                refine JL.move (.some rfl rfl rfl hc966) rfl ?_
                refine JL.move (.some rfl rfl rfl hc966) rfl ?_
                refine JL.bin rfl rfl rfl (.some rfl rfl rfl hc966) rfl ?_
                refine JL.pick_f (b := (y937.2 != 0)) rfl hc966 (.some rfl rfl rfl hc964) rfl ?_
                exact hJ965 _ ⟨rfl, rfl, rfl, rfl, rfl, rfl, rfl, or_f hc966 rfl⟩
              ·rintro f ⟨hf2, hf3, hf7, hf8, hf11, hf116, hf119, hf126⟩
               refine (JL.norm (i := 2) hf2 (JL.norm (i := 3) hf3 (JL.norm (i := 7) hf7 (JL.norm (i := 8) hf8 (JL.norm (i := 11) hf11 (JL.norm (i := 116) hf116 (JL.norm (i := 119) hf119 (JL.norm (i := 126) hf126 ?_))))))))
               refine JL.pick_t (b := (y7.2 == 0)) rfl hc964 (.some rfl rfl rfl hc960) rfl ?_
               exact hJ963 _ ⟨rfl, rfl, rfl, rfl, rfl, rfl, and_t hc964 rfl⟩
             ·skip
              refine JL.skip (.bool rfl rfl rfl hc964) rfl ?_
              refine JL.skip (.bool rfl rfl rfl hc964) rfl ?_
              refine JL.skip (.bool rfl rfl rfl hc964) rfl ?_
              refine JL.skip (.no rfl rfl rfl) rfl ?_
              refine JL.skip (.no rfl rfl rfl) rfl ?_
              refine JL.skip (.no rfl rfl rfl) rfl ?_
              refine JL.skip (.bool rfl rfl rfl hc964) rfl ?_
              refine JL.pick_f (b := (y7.2 == 0)) rfl hc964 (.some rfl rfl rfl hc960) rfl ?_
              exact hJ963 _ ⟨rfl, rfl, rfl, rfl, rfl, rfl, and_f hc964 rfl⟩
            ·rintro f ⟨hf2, hf3, hf7, hf8, hf11, hf116, hf127⟩
             refine (JL.norm (i := 2) hf2 (JL.norm (i := 3) hf3 (JL.norm (i := 7) hf7 (JL.norm (i := 8) hf8 (JL.norm (i := 11) hf11 (JL.norm (i := 116) hf116 (JL.norm (i := 127) hf127 ?_)))))))
             refine JL.pick_f (b := ((!y938) || ((y937.2 == 0) && ((y8.2 != 0) || (decide (y937.1 < y8.1)))))) rfl hc960 .none rfl ?_
             exact hJ959 _ ⟨rfl, rfl, rfl, rfl, rfl, or_f hc960 rfl⟩
          ·rintro f ⟨hf2, hf3, hf7, hf8, hf11, hf128⟩
           refine (JL.norm (i := 2) hf2 (JL.norm (i := 3) hf3 (JL.norm (i := 7) hf7 (JL.norm (i := 8) hf8 (JL.norm (i := 11) hf11 (JL.norm (i := 128) hf128 ?_))))))
           refine JL.done hQ (JQ.go ?_)
           rcases ite_some hF with ⟨hc967, hF⟩ | ⟨hc967, hF⟩
           ·refine JC.cond_t (b := (((!y938) || ((y937.2 == 0) && ((y8.2 != 0) || (decide (y937.1 < y8.1))))) || ((y7.2 == 0) && ((y937.2 != 0) || (decide (y7.1 < y937.1)))))) rfl hc967 ?_
            refine JC.seq (JC.region (by rfl) ?_)
            intro hQ
            refine JL.assign .none rfl ?_
            refine JL.done hQ (JQ.go (JC.ret (JQ.ret_then ?_)))
            obtain rfl := Option.some.inj hF
            exact JQ.outS rfl (.tmp .nil) rfl
           ·refine JC.cond_f (b := (((!y938) || ((y937.2 == 0) && ((y8.2 != 0) || (decide (y937.1 < y8.1))))) || ((y7.2 == 0) && ((y937.2 != 0) || (decide (y7.1 < y937.1)))))) rfl hc967 ?_
            refine JC.skip (JQ.go (JC.seq (JC.seq (JC.region (by rfl) ?_))))
            intro hQ
            refine JL.move .none rfl ?_
            refine JL.bin rfl rfl rfl .none rfl ?_
            refine JL.move .none rfl ?_
            refine JL.cut 6 (fun f => f 2 = .int .i64 flaw ∧ f 3 = .pointer (some ⟨b1, 0, none⟩) ∧ f 7 = .int .i64 y7.1 ∧ f 8 = .int .i64 y7.2 ∧ f 11 = y9a_v0 ∧ f 137 = .bool ((decide (flaw < 0)) || (decide ((s.Flaws.length : Int) ≤ flaw)))) ?_ ?_
            ·intro hJ968
             rcases bcases (decide (flaw < 0)) with hc969 | hc969
             ·skip
              refine JL.skip (.bool rfl rfl rfl hc969) rfl ?_
              refine JL.skip (.bool rfl rfl rfl hc969) rfl ?_
              refine JL.skip (.bool rfl rfl rfl hc969) rfl ?_
              refine JL.skip (.bool rfl rfl rfl hc969) rfl ?_
              refine JL.skip (.bool rfl rfl rfl hc969) rfl ?_
              refine JL.pick_t (b := decide (flaw < 0)) rfl hc969 .none rfl ?_
              exact hJ968 _ ⟨rfl, rfl, rfl, rfl, rfl, or_t hc969 rfl⟩
             ·skip
              refine JL.move (.some rfl rfl rfl hc969) rfl ?_
              refine JL.fieldAddr fo_25_3 rfl (.some rfl rfl rfl hc969) rfl ?_
              refine JL.loadOwn 1 az_22 rfl rfl rfl (.some rfl rfl rfl hc969) rfl ?_
              refine JL.lenSL (R := R_Cell) ul_22 (SL.mono R_Cell_mono (HSub.trans hs10 (HSub.trans hs24 hs480)) hs_3) (.some rfl rfl rfl hc969) rfl ?_
              refine JL.bin rfl rfl rfl (.some rfl rfl rfl hc969) rfl ?_
              refine JL.pick_f (b := decide (flaw < 0)) rfl hc969 .none rfl ?_
              exact hJ968 _ ⟨rfl, rfl, rfl, rfl, rfl, or_f hc969 rfl⟩
            ·rintro f ⟨hf2, hf3, hf7, hf8, hf11, hf137⟩
             refine (JL.norm (i := 2) hf2 (JL.norm (i := 3) hf3 (JL.norm (i := 7) hf7 (JL.norm (i := 8) hf8 (JL.norm (i := 11) hf11 (JL.norm (i := 137) hf137 ?_))))))
             refine JL.done hQ (JQ.go ?_)
             rcases ite_some hF with ⟨hc970, hF⟩ | ⟨hc970, hF⟩
             ·refine JC.cond_t (b := ((decide (flaw < 0)) || (decide ((s.Flaws.length : Int) ≤ flaw)))) rfl hc970 ?_
              refine JC.seq (JC.region (by rfl) ?_)
              intro hQ
              obtain ⟨y971, hy971, hF⟩ := bind_some hF
              refine JL.callS (c_law03_works n H480 y971 hy971) rfl en_11 .none rfl ?_
              refine JL.assign .none rfl ?_
              refine JL.done hQ (JQ.go (JC.ret (JQ.ret_then ?_)))
              obtain rfl := Option.some.inj hF
              exact JQ.outS rfl (.tmp .nil) rfl
             ·refine JC.cond_f (b := ((decide (flaw < 0)) || (decide ((s.Flaws.length : Int) ≤ flaw)))) rfl hc970 ?_
              refine JC.skip (JQ.go (JC.seq (JC.region (by rfl) ?_)))
              intro hQ
              refine JL.loadOwn 1 az_25 rfl rfl rfl .none rfl ?_
              obtain ⟨y972, hy972, hF⟩ := bind_some hF
              refine JL.callXC (x_ref03_Copy n H480 s s_v2 (SL.mono R_Cell_mono (HSub.trans hs10 (HSub.trans hs24 hs480)) hs_2) s_v3 (SL.mono R_Cell_mono (HSub.trans hs10 (HSub.trans hs24 hs480)) hs_3) s_v4 (SL.mono R_Panel_mono (HSub.trans hs10 (HSub.trans hs24 hs480)) hs_4) y972 hy972) rfl en_12 .none rfl ?_
              rintro H973 vv974 _ hs973 ⟨y972_v0, y972_xs0, y972_v1, y972_xs1, y972_v2, y972_xs2, rfl, rfl, hy972_0, hy972_1, hy972_2⟩
              refine JL.alloc ze_25 .none rfl ?_
              intro b978
              refine JL.oneG 2 rfl (fun ho979 => ?_)
              refine JL.oneG 1 rfl (fun ho980 => ?_)
              refine JL.oneG 0 rfl (fun ho981 => ?_)
              refine JL.storeOwn 0 (cs := [.int .i64 y972.Width, .int .i64 y972.Length, y972_v0, y972_v1, y972_v2]) az_25 rfl rfl rfl (one_cons rfl (one_cons rfl (one_cons ho979.1 (one_cons ho980.1 (one_cons ho981.1 one_nil))))) rfl rfl .none ?_
              refine JL.done hQ (JQ.go (JC.seq ?_))
              obtain ⟨y982, hy982, hF⟩ := bind_some hF
              obtain ⟨y986, hy986, hF⟩ := bind_some hF
              obtain ⟨l989, hl989, hF⟩ := bind_some hF
              refine JC.mixed 11 12 #[false, false, false, false, false, false, false, false, false, false, false, false] [(b978, .cells [.int .i64 y972.Width, .int .i64 y972.Length, y972_v0, y972_v1, y972_v2].toArray 25), (b29, .cells [.int .i64 y23.Width, .int .i64 y23.Length, vout_479, .slice none 0 0, y23_v2].toArray 25), (b1, .cells [.int .i64 s.Width, .int .i64 s.Length, s_v2, s_v3, s_v4].toArray 25)] (by rfl) mo_ (by kernel_rfl) (by kernel_rfl) ?_
              intro hQ hE
              refine JA.take 0 (listed' := #[true, false, false, false, false, false, false, false, false, false, false, false]) hQ rfl (by kernel_rfl) (by kernel_rfl) (by kernel_rfl) (by kernel_rfl) (by kernel_rfl) hE (HSub.refl _) (.cons_cons _ (.cons_cons _ (.cons_cons _ (List.nil_sublist _)))) ?_
              refine JL.fieldAddr fo_25_3 rfl .none rfl ?_
              refine JA.cont ?_
              refine JA.take 1 (listed' := #[true, true, false, false, false, false, false, false, false, false, false, false]) hQ rfl (by kernel_rfl) (by kernel_rfl) (by kernel_rfl) (by kernel_rfl) (by kernel_rfl) hE (HSub.refl _) (.cons_cons _ (.cons_cons _ (.cons_cons _ (List.nil_sublist _)))) ?_
              refine JL.loadOwn 0 az_22 rfl rfl rfl .none rfl ?_
              refine JA.cont ?_
              refine JA.take 2 (listed' := #[true, true, true, false, false, false, false, false, false, false, false, false]) hQ rfl (by kernel_rfl) (by kernel_rfl) (by kernel_rfl) (by kernel_rfl) (by kernel_rfl) hE (HSub.refl _) (.cons_cons _ (.cons_cons _ (.cons_cons _ (List.nil_sublist _)))) ?_
              refine JL.move .none rfl ?_
              refine JA.cont ?_
              refine JA.take 4 (listed' := #[true, true, true, false, true, false, false, false, false, false, false, false]) hQ rfl (by kernel_rfl) (by kernel_rfl) (by kernel_rfl) (by kernel_rfl) (by kernel_rfl) hE (HSub.refl _) (.cons_cons _ (.cons_cons _ (.cons_cons _ (List.nil_sublist _)))) ?_
              refine JL.fieldAddr fo_25_3 rfl .none rfl ?_
              refine JA.cont ?_
              refine JA.take 5 (listed' := #[true, true, true, false, true, true, false, false, false, false, false, false]) hQ rfl (by kernel_rfl) (by kernel_rfl) (by kernel_rfl) (by kernel_rfl) (by kernel_rfl) hE (HSub.refl _) (.cons_cons _ (.cons_cons _ (.cons_cons _ (List.nil_sublist _)))) ?_
              refine JL.loadOwn 2 az_22 rfl rfl rfl .none rfl ?_
              refine JA.cont ?_
              refine JA.take 6 (listed' := #[true, true, true, false, true, true, true, false, false, false, false, false]) hQ rfl (by kernel_rfl) (by kernel_rfl) (by kernel_rfl) (by kernel_rfl) (by kernel_rfl) hE (HSub.refl _) (.cons_cons _ (.cons_cons _ (.cons_cons _ (List.nil_sublist _)))) ?_
              refine JL.move .none rfl ?_
              refine JA.cont ?_
              refine JA.take 7 (listed' := #[true, true, true, false, true, true, true, true, false, false, false, false]) hQ rfl (by kernel_rfl) (by kernel_rfl) (by kernel_rfl) (by kernel_rfl) (by kernel_rfl) hE (HSub.refl _) (.cons_cons _ (.cons_cons _ (.cons_cons _ (List.nil_sublist _)))) ?_
              refine JL.bin rfl rfl rfl .none rfl ?_
              refine JA.cont ?_
              refine JA.take 8 (listed' := #[true, true, true, false, true, true, true, true, true, false, false, false]) hQ rfl (by kernel_rfl) (by kernel_rfl) (by kernel_rfl) (by kernel_rfl) (by kernel_rfl) hE (HSub.refl _) (.cons_cons _ (.cons_cons _ (.cons_cons _ (List.nil_sublist _)))) ?_
              refine JL.sliceLo (R := R_Cell) sl_22 (SL.mono R_Cell_mono (HSub.trans hs10 (HSub.trans hs24 (HSub.trans hs480 hs973))) hs_3) rfl hy986 .none rfl ?_
              intro v1029 hv1030
              refine JA.cont ?_
              refine JA.many [3] (by kernel_rfl) (by simp) (all_one ⟨_, #[true, true, true, true, true, true, true, true, true, false, false, false], rfl, (by kernel_rfl), ?_⟩)
              refine JL.sliceG (R := R_Cell) (l := y972.Flaws) 1 sl_22 rfl ⟨rfl, rfl⟩ rfl rfl hy972_1 rfl hy982 .none rfl ?_
              intro v1031 xs1032 hch1033
              refine JA.after hE (HSub.refl _) (.cons_cons _ (.cons_cons _ (.cons_cons _ (List.nil_sublist _)))) ?_
              refine JA.many [9] (by kernel_rfl) (by simp) (all_one ⟨_, #[true, true, true, true, true, true, true, true, true, true, false, false], rfl, (by kernel_rfl), ?_⟩)
              refine JL.appD (R := R_Cell) 1 (l := y982) (m := y986) ap_22 rfl ⟨rfl, rfl⟩ rfl hch1033 rfl hv1030 (R_Cell_one _) hl989 .none rfl ?_
              intro v1034 xs1035 hch1036
              refine JA.after hE (HSub.refl _) (.cons_cons _ (.cons_cons _ (.cons_cons _ (List.nil_sublist _)))) ?_
              refine JA.take 10 (listed' := #[true, true, true, true, true, true, true, true, true, true, true, false]) hQ rfl (by kernel_rfl) (by kernel_rfl) (by kernel_rfl) (by kernel_rfl) (by kernel_rfl) hE (HSub.refl _) (.cons_cons _ (.cons_cons _ (.cons_cons _ (List.nil_sublist _)))) ?_
              refine JL.fieldAddr fo_25_3 rfl .none rfl ?_
              refine JA.cont ?_
              refine JA.many [11] (by kernel_rfl) (by simp) (all_one ⟨_, #[true, true, true, true, true, true, true, true, true, true, true, true], rfl, (by kernel_rfl), ?_⟩)
              refine JL.oneG 1 rfl (fun ho1037 => ?_)
              refine JL.storeOwn 0 (cs := [v1034]) az_22 rfl ho1037.2 rfl (one_cons ho1037.1 one_nil) rfl rfl .none ?_
              refine JA.sink (by kernel_rfl) ?_
              refine JA.done hQ (by kernel_rfl) ?_
              refine JQ.go (JC.fresh (fun f => f 2 = .int .i64 flaw ∧ f 7 = .int .i64 y7.1 ∧ f 8 = .int .i64 y7.2 ∧ f 11 = y9a_v0 ∧ f 17 = .pointer (some ⟨b978, 0, none⟩)) ⟨rfl, rfl, rfl, rfl, rfl⟩ ?_)
              rintro f ⟨hf2, hf7, hf8, hf11, hf17⟩
              refine (JC.norm (i := 2) hf2 (JC.norm (i := 7) hf7 (JC.norm (i := 8) hf8 (JC.norm (i := 11) hf11 (JC.norm (i := 17) hf17 ?_)))))
              refine JC.seq (JC.region (by rfl) ?_)
              intro hQ
              refine JL.loadOwn 0 az_25 rfl rfl rfl .none rfl ?_
              refine JL.freezeG 2 (R := R_Cell) rfl R_Cell_mono hy972_0 rfl ?_
              intro H1038 hs1038 hg1039
              refine JL.freezeG 1 (R := R_Cell) rfl R_Cell_mono (CH.mono R_Cell_mono hs1038 hch1036) rfl ?_
              intro H1040 hs1040 hg1041
              refine JL.freezeG 0 (R := R_Panel) rfl R_Panel_mono (CH.mono R_Panel_mono (HSub.trans hs1038 hs1040) hy972_2) rfl ?_
              intro H1042 hs1042 hg1043
              obtain ⟨y1044, hy1044, hF⟩ := bind_some hF
              refine JL.callS (c_lays_Least n H1042 (Lap.mk y972.Width y972.Length y972.Faults l989 y972.Panels) y972_v0 (SL.mono R_Cell_mono (HSub.trans hs1040 hs1042) hg1039) v1034 (SL.mono R_Cell_mono hs1042 hg1041) y972_v2 hg1043 y1044 hy1044) rfl en_14 .none rfl ?_
              refine JL.move .none rfl ?_
              refine JL.extract rfl rfl .none rfl ?_
              refine JL.extract rfl rfl .none rfl ?_
              refine JL.assign .none rfl ?_
              refine JL.assign .none rfl ?_
              refine JL.done hQ (JQ.go (JC.seq (JC.region (by rfl) ?_)))
              intro hQ
              refine JL.assign .none rfl ?_
              refine JL.done hQ (JQ.go (JC.seq (JC.seq (JC.region (by rfl) ?_))))
              intro hQ
              refine JL.assign .none rfl ?_
              refine JL.done hQ (JQ.go ?_)
              obtain ⟨r1092, hlr1092, hKr1092⟩ := bind_some hF
              refine JC.join (fun (matters_1090 : Bool) H1091 f bs gs => f 7 = .int .i64 y7.1 ∧ f 8 = .int .i64 y7.2 ∧ f 18 = .int .i64 y1044.1 ∧ f 19 = .int .i64 y1044.2 ∧ f 20 = .bool matters_1090 ∧ bs = [] ∧ gs = [] ∧ HSub H1042 H1091 ∧ matters_1090 = r1092) ?_ ?_
              ·skip
               refine JC.block (JC.mask [false, false, false] [false, false] ?_)
               refine JC.loop hlr1092 (fun (x : Bool × Int) H1121 f bs gs => match x with | (matters_1119, r_1120) => f 2 = .int .i64 flaw ∧ f 7 = .int .i64 y7.1 ∧ f 8 = .int .i64 y7.2 ∧ f 11 = y9a_v0 ∧ f 18 = .int .i64 y1044.1 ∧ f 19 = .int .i64 y1044.2 ∧ f 20 = .bool matters_1119 ∧ f 21 = .int .i64 r_1120 ∧ bs = [] ∧ gs = [] ∧ HSub H1042 H1121) ⟨rfl, rfl, rfl, rfl, rfl, rfl, rfl, rfl, rfl, rfl, (HSub.refl _)⟩ ?_
               rintro ⟨matters_1119, r_1120⟩ x1123 H1121 f bs gs ⟨hf2, hf7, hf8, hf11, hf18, hf19, hf20, hf21, rfl, rfl, hs1121⟩ hF hr1122
               rw [F_law03_LaysTruth_s2] at hF
               refine (JC.norm (i := 2) hf2 (JC.norm (i := 7) hf7 (JC.norm (i := 8) hf8 (JC.norm (i := 11) hf11 (JC.norm (i := 18) hf18 (JC.norm (i := 19) hf19 (JC.norm (i := 20) hf20 (JC.norm (i := 21) hf21 ?_))))))))
               refine JC.seq (JC.seq (JC.region (by rfl) ?_))
               intro hQ
               refine JL.move .none rfl ?_
               refine JL.move .none rfl ?_
               refine JL.lenSL (R := RInt) ul_48 (SL.mono RInt.mono (HSub.trans hs24 (HSub.trans hs480 (HSub.trans hs973 (HSub.trans hs1038 (HSub.trans hs1040 (HSub.trans hs1042 hs1121)))))) hy9a_0) .none rfl ?_
               refine JL.bin rfl rfl rfl .none rfl ?_
               refine JL.done hQ (JQ.go ?_)
               rcases ite_some hF with ⟨hc1124, hF⟩ | ⟨hc1124, hF⟩
               ·refine JC.cond_t (b := decide (r_1120 < (y9.1.length : Int))) rfl hc1124 ?_
                refine JC.skip (JQ.go (JC.seq (JC.block (JC.region (by rfl) ?_))))
                intro hQ
                refine JL.move .none rfl ?_
                refine JL.move .none rfl ?_
                obtain ⟨p1130, hp1130, hF⟩ := bind_some hF
                refine JL.cut 7 (fun f => f 2 = .int .i64 flaw ∧ f 7 = .int .i64 y7.1 ∧ f 8 = .int .i64 y7.2 ∧ f 11 = y9a_v0 ∧ f 18 = .int .i64 y1044.1 ∧ f 19 = .int .i64 y1044.2 ∧ f 21 = .int .i64 r_1120 ∧ f 171 = .bool p1130) ?_ ?_
                ·intro hJ1131
                 rcases ite_some hp1130 with ⟨hc1132, hF⟩ | ⟨hc1132, hF⟩
                 ·skip
                  refine JL.skip (.bool rfl rfl rfl hc1132) rfl ?_
                  refine JL.skip (.bool rfl rfl rfl hc1132) rfl ?_
                  refine JL.skip (.bool rfl rfl rfl hc1132) rfl ?_
                  refine JL.skip (.bool rfl rfl rfl hc1132) rfl ?_
                  refine JL.skip (.bool rfl rfl rfl hc1132) rfl ?_
                  refine JL.skip (.bool rfl rfl rfl hc1132) rfl ?_
                  refine JL.pick_t (b := matters_1119) rfl hc1132 .none rfl ?_
                  obtain rfl := Option.some.inj hF
                  exact hJ1131 _ ⟨rfl, rfl, rfl, rfl, rfl, rfl, rfl, rfl⟩
                 ·skip
                  refine JL.move (.some rfl rfl rfl hc1132) rfl ?_
                  refine JL.move (.some rfl rfl rfl hc1132) rfl ?_
                  obtain ⟨y1133, hy1133, hF⟩ := bind_some hF
                  refine JL.indexSL (R := RInt) sl_48 (SL.mono RInt.mono (HSub.trans hs24 (HSub.trans hs480 (HSub.trans hs973 (HSub.trans hs1038 (HSub.trans hs1040 (HSub.trans hs1042 hs1121)))))) hy9a_0) rfl hy1133 (.some rfl rfl rfl hc1132) rfl ?_
                  rintro b1134 o1135 cs1136 hc1137 - rfl
                  refine JL.loadH 0 az_3 rfl hc1137 rfl (.some rfl rfl rfl hc1132) rfl ?_
                  refine JL.move (.some rfl rfl rfl hc1132) rfl ?_
                  refine JL.bin rfl rfl rfl (.some rfl rfl rfl hc1132) rfl ?_
                  refine JL.pick_f (b := matters_1119) rfl hc1132 .none rfl ?_
                  obtain rfl := Option.some.inj hF
                  exact hJ1131 _ ⟨rfl, rfl, rfl, rfl, rfl, rfl, rfl, rfl⟩
                ·rintro f ⟨hf2, hf7, hf8, hf11, hf18, hf19, hf21, hf171⟩
                 refine (JL.norm (i := 2) hf2 (JL.norm (i := 7) hf7 (JL.norm (i := 8) hf8 (JL.norm (i := 11) hf11 (JL.norm (i := 18) hf18 (JL.norm (i := 19) hf19 (JL.norm (i := 21) hf21 (JL.norm (i := 171) hf171 ?_))))))))
                 refine JL.assign .none rfl ?_
                 refine JL.done hQ (JQ.normal_block (JQ.go (JC.region (by rfl) ?_)))
                 intro hQ
                 refine JL.move .none rfl ?_
                 refine JL.bin rfl rfl rfl .none rfl ?_
                 refine JL.assign .none rfl ?_
                 refine JL.done hQ ?_
                 obtain rfl := Option.some.inj hF
                 exact JQ.next rfl ⟨rfl, rfl, rfl, rfl, rfl, rfl, rfl, rfl, rfl, rfl, hs1121⟩
               ·refine JC.cond_f (b := decide (r_1120 < (y9.1.length : Int))) rfl hc1124 ?_
                refine JC.exit (JQ.exit_then (JQ.exit_then (JQ.exit_block ?_)))
                obtain rfl := Option.some.inj hF
                have ehr1122 := hr1122 _ rfl
                subst ehr1122
                exact JQ.join matters_1119 ⟨rfl, rfl, rfl, rfl, rfl, rfl, rfl, hs1121, rfl⟩
              ·rintro matters_1090 H1091 f bs gs ⟨hf7, hf8, hf18, hf19, hf20, rfl, rfl, hs1091, rfl⟩
               have hF := hKr1092
               try dsimp only at hF
               refine (JQ.norm (i := 7) hf7 (JQ.norm (i := 8) hf8 (JQ.norm (i := 18) hf18 (JQ.norm (i := 19) hf19 (JQ.norm (i := 20) hf20 ?_)))))
               refine JQ.go (JC.seq (JC.region (by rfl) ?_))
               intro hQ
               refine JL.move .none rfl ?_
               obtain ⟨y1138, hy1138, hF⟩ := bind_some hF
               refine JL.callS (c_law03_isKnown n H1091 y1044.2 y1138 hy1138) rfl en_19 .none rfl ?_
               refine JL.move .none rfl ?_
               refine JL.cut 14 (fun f => f 188 = .bool (y1138 && (matters_1090 == ((y1044.2 == 0) && ((y7.2 != 0) || (decide (y1044.1 < y7.1))))))) ?_ ?_
               ·intro hJ1145
                rcases bcases y1138 with hc1146 | hc1146
                ·skip
                 refine JL.move (.some rfl rfl rfl hc1146) rfl ?_
                 refine JL.move (.some rfl rfl rfl hc1146) rfl ?_
                 refine JL.bin rfl rfl rfl (.some rfl rfl rfl hc1146) rfl ?_
                 refine JL.move (.some rfl rfl rfl hc1146) rfl ?_
                 refine JL.cut 8 (fun f => f 174 = .bool y1138 ∧ f 175 = .bool matters_1090 ∧ f 186 = .bool ((y1044.2 == 0) && ((y7.2 != 0) || (decide (y1044.1 < y7.1))))) ?_ ?_
                 ·intro hJ1149
                  rcases bcases (y1044.2 == 0) with hc1150 | hc1150
                  ·skip
                   refine JL.move (.some rfl rfl rfl hc1150) rfl ?_
                   refine JL.bin rfl rfl rfl (.some rfl rfl rfl hc1150) rfl ?_
                   refine JL.move (.some rfl rfl rfl hc1150) rfl ?_
                   refine JL.cut 4 (fun f => f 174 = .bool y1138 ∧ f 175 = .bool matters_1090 ∧ f 178 = .bool (y1044.2 == 0) ∧ f 185 = .bool ((y7.2 != 0) || (decide (y1044.1 < y7.1)))) ?_ ?_
                   ·intro hJ1151
                    rcases bcases (y7.2 != 0) with hc1152 | hc1152
                    ·skip
                     refine JL.skip (.bool rfl rfl rfl hc1152) rfl ?_
                     refine JL.skip (.bool rfl rfl rfl hc1152) rfl ?_
                     refine JL.skip (.bool rfl rfl rfl hc1152) rfl ?_
                     refine JL.pick_t (b := (y7.2 != 0)) rfl hc1152 (.some rfl rfl rfl hc1150) rfl ?_
                     exact hJ1151 _ ⟨rfl, rfl, rfl, or_t hc1152 rfl⟩
                    ·skip
                     refine JL.move (.some rfl rfl rfl hc1152) rfl ?_
                     refine JL.move (.some rfl rfl rfl hc1152) rfl ?_
                     refine JL.bin rfl rfl rfl (.some rfl rfl rfl hc1152) rfl ?_
                     refine JL.pick_f (b := (y7.2 != 0)) rfl hc1152 (.some rfl rfl rfl hc1150) rfl ?_
                     exact hJ1151 _ ⟨rfl, rfl, rfl, or_f hc1152 rfl⟩
                   ·rintro f ⟨hf174, hf175, hf178, hf185⟩
                    refine (JL.norm (i := 174) hf174 (JL.norm (i := 175) hf175 (JL.norm (i := 178) hf178 (JL.norm (i := 185) hf185 ?_))))
                    refine JL.pick_t (b := (y1044.2 == 0)) rfl hc1150 (.some rfl rfl rfl hc1146) rfl ?_
                    exact hJ1149 _ ⟨rfl, rfl, and_t hc1150 rfl⟩
                  ·skip
                   refine JL.skip (.bool rfl rfl rfl hc1150) rfl ?_
                   refine JL.skip (.bool rfl rfl rfl hc1150) rfl ?_
                   refine JL.skip (.bool rfl rfl rfl hc1150) rfl ?_
                   refine JL.skip (.no rfl rfl rfl) rfl ?_
                   refine JL.skip (.no rfl rfl rfl) rfl ?_
                   refine JL.skip (.no rfl rfl rfl) rfl ?_
                   refine JL.skip (.bool rfl rfl rfl hc1150) rfl ?_
                   refine JL.pick_f (b := (y1044.2 == 0)) rfl hc1150 (.some rfl rfl rfl hc1146) rfl ?_
                   exact hJ1149 _ ⟨rfl, rfl, and_f hc1150 rfl⟩
                 ·rintro f ⟨hf174, hf175, hf186⟩
                  refine (JL.norm (i := 174) hf174 (JL.norm (i := 175) hf175 (JL.norm (i := 186) hf186 ?_)))
                  refine JL.eqBool ub_4 rfl rfl (.some rfl rfl rfl hc1146) rfl ?_
                  refine JL.pick_t (b := y1138) rfl hc1146 .none rfl ?_
                  exact hJ1145 _ (and_t hc1146 rfl)
                ·skip
                 refine JL.skip (.bool rfl rfl rfl hc1146) rfl ?_
                 refine JL.skip (.bool rfl rfl rfl hc1146) rfl ?_
                 refine JL.skip (.bool rfl rfl rfl hc1146) rfl ?_
                 refine JL.skip (.bool rfl rfl rfl hc1146) rfl ?_
                 refine JL.skip (.no rfl rfl rfl) rfl ?_
                 refine JL.skip (.no rfl rfl rfl) rfl ?_
                 refine JL.skip (.no rfl rfl rfl) rfl ?_
                 refine JL.skip (.no rfl rfl rfl) rfl ?_
                 refine JL.skip (.no rfl rfl rfl) rfl ?_
                 refine JL.skip (.no rfl rfl rfl) rfl ?_
                 refine JL.skip (.no rfl rfl rfl) rfl ?_
                 refine JL.skip (.bool rfl rfl rfl hc1146) rfl ?_
                 refine JL.skip (.bool rfl rfl rfl hc1146) rfl ?_
                 refine JL.pick_f (b := y1138) rfl hc1146 .none rfl ?_
                 exact hJ1145 _ (and_f hc1146 rfl)
               ·rintro f hf188
                refine (JL.norm (i := 188) hf188 ?_)
                refine JL.move .none rfl ?_
                obtain ⟨p1154, hp1154, hF⟩ := bind_some hF
                refine JL.cut 2 (fun f => f 191 = .bool p1154) ?_ ?_
                ·intro hJ1155
                 rcases ite_some hp1154 with ⟨hc1156, hF⟩ | ⟨hc1156, hF⟩
                 ·skip
                  obtain ⟨y1157, hy1157, hF⟩ := bind_some hF
                  refine JL.callS (c_law03_works n H1091 y1157 hy1157) rfl en_11 (.some rfl rfl rfl hc1156) rfl ?_
                  refine JL.pick_t (b := (y1138 && (matters_1090 == ((y1044.2 == 0) && ((y7.2 != 0) || (decide (y1044.1 < y7.1))))))) rfl hc1156 .none rfl ?_
                  obtain rfl := Option.some.inj hF
                  exact hJ1155 _ (rfl)
                 ·skip
                  refine JL.skip (.bool rfl rfl rfl hc1156) rfl ?_
                  refine JL.pick_f (b := (y1138 && (matters_1090 == ((y1044.2 == 0) && ((y7.2 != 0) || (decide (y1044.1 < y7.1))))))) rfl hc1156 .none rfl ?_
                  obtain rfl := Option.some.inj hF
                  exact hJ1155 _ (rfl)
                ·rintro f hf191
                 refine (JL.norm (i := 191) hf191 ?_)
                 refine JL.assign .none rfl ?_
                 refine JL.done hQ (JQ.go (JC.ret ?_))
                 obtain rfl := Option.some.inj hF
                 exact JQ.outS rfl (.tmp .nil) rfl
end Go.Proofs.Ytflhjlgimihmgaa
end
section
namespace Go.Proofs.Ytflhjlgimihmgaa
open Go Go.RowKit Go.Dec
theorem p_truth {n : Nat} (hn : 1000000 ≤ n) {s : Lap} (hv : VL s) (bits : Int) : ∃ out, loopO n (F_law03_LaysTruth_s1 n s bits) (0, s.Faults) = some out ∧ (∀ c ∈ s.Faults, c ∈ out) ∧ (∀ c ∈ out, c ∈ s.Faults ∨ c ∈ s.Flaws) := by
  have h1 := hv.fa.2.2
  have h2 := hv.fl.2.2
  refine loop_nats (step := F_law03_LaysTruth_s1 n s bits) s.Flaws.length (fun i (z : List Cell) => ((i : Int), z)) (fun i z => z.length ≤ 20 + i ∧ (∀ c ∈ s.Faults, c ∈ z) ∧ (∀ c ∈ z, c ∈ s.Faults ∨ c ∈ s.Flaws))
    (fun z => (∀ c ∈ s.Faults, c ∈ z) ∧ (∀ c ∈ z, c ∈ s.Faults ∨ c ∈ s.Flaws)) (n := n) s.Faults ⟨by omega, fun _ h => h, fun _ h => .inl h⟩ (fun i z hi hI => .inl ?_) (fun z hI => ⟨z, by rw [F_law03_LaysTruth_s1, dlt]; simp, hI.2⟩) (by omega)
  obtain ⟨x, hx⟩ : ∃ x, s.Flaws[i]? = some x := ⟨_, List.getElem?_eq_getElem hi⟩
  have hn0 : nneg (IntKind.u64.wrap (i : Int)) = some () := by
    have : IntKind.u64.wrap (i : Int) = (i : Int) % 18446744073709551616 := rfl
    unfold nneg; rw [if_neg (by rw [this]; omega)]
  rw [F_law03_LaysTruth_s1, dlt, decide_eq_true hi, hn0]
  simp only [if_true, Option.bind_some, geti_nat, hx, w64_nat (show i ≤ 4611686018427387904 by omega)]
  cases (band .i64 (bshr .i64 bits (IntKind.u64.wrap (i : Int))) 1 == 1) with
  | true =>
    rw [if_pos rfl, lim_ok (by rw [List.length_append]; simp; omega)]
    refine ⟨_, rfl, by rw [List.length_append]; simp; omega, fun c hc => List.mem_append_left _ (hI.2.1 c hc), fun c hc => ?_⟩
    rcases List.mem_append.1 hc with hc | hc
    · exact hI.2.2 c hc
    · rw [List.mem_singleton.1 hc]; exact .inr (List.mem_of_getElem? hx)
  | false =>
    rw [if_neg (by decide)]
    exact ⟨_, rfl, by omega, hI.2⟩
theorem law_LaysTruth (s : Lap) (bits flaw : Int) (hs : W_Lap s) (_ : I64 bits) (_ : I64 flaw) : ∃ n, F_law03_LaysTruth n s bits flaw = some true := by
  obtain ⟨n, hn⟩ : ∃ n : Nat, n = 2000000 := ⟨_, rfl⟩
  refine ⟨n, ?_⟩
  have hn2 : 2000000 ≤ n := by omega
  have hn1 : 1000000 ≤ n := by omega
  have hw : F_law03_works n = some true := by rw [hn]; exact works_ok
  rw [F_law03_LaysTruth]
  obtain ⟨b, e, q⟩ := p_ready hn1 s hs.np
  rw [e]
  simp only [Option.bind_some]
  by_cases hb : b = true ∧ 0 ≤ bits
  · obtain ⟨rfl, hb0⟩ := hb
    rw [decide_eq_false (show ¬ bits < 0 by omega)]
    simp only [Bool.not_true, Bool.or_self, Bool.false_eq_true, if_false]
    have hV := (q.1 rfl).v
    have hlen := hV.fl.2.2
    obtain ⟨m1, l1, f1, _, g1⟩ := p_Least hn2 hV
    obtain ⟨m2, l2, f2, g2⟩ := p_Hopes hn2 hV
    obtain ⟨M, f3, g3⟩ := p_Matters hn2 hV f1 g1
    rw [f1, f2, f3]
    simp only [Option.bind_some, isKnown_ans, Bool.not_true, Bool.false_eq_true, if_false, Bool.false_or, bne_self_eq_false]
    have hfl : (((List.range s.Flaws.length).filter M).map (fun i : Nat => (i : Int))).length ≤ s.Flaws.length := by
      rw [List.length_map]
      have := List.length_filter_le M (List.range s.Flaws.length)
      rwa [List.length_range] at this
    rw [decide_eq_false (by omega)]
    simp only [Bool.false_eq_true, if_false, p_Copy hn1 s hV.small, Option.bind_some]
    obtain ⟨out, hout, o1, o2⟩ := p_truth hn1 hV bits
    rw [hout]
    simp only [Option.bind_some]
    obtain ⟨b2, e2, q2⟩ := p_ready hn1 ⟨s.Width, s.Length, out, [], s.Panels⟩ hs.np
    rw [e2]
    simp only [Option.bind_some]
    cases b2 with
    | false => simp only [Bool.not_false, if_true, hw, Option.bind_some]
    | true =>
      have hV2 := (q2.1 rfl).v
      obtain ⟨m4, l4, f4, _, g4⟩ := p_Least hn2 hV2
      rw [f4]
      simp only [Option.bind_some, isKnown_ans, Bool.not_true, Bool.false_eq_true, if_false, Bool.false_or]
      have c1 : ∀ {m m' : Int}, (0 ≤ m ∨ m = -1) → (0 ≤ m → 0 ≤ m' ∧ m' ≤ m) → (((ans m).2 == 0) && (((ans m').2 != 0) || decide ((ans m).1 < (ans m').1))) = false := fun {m m'} h0 h => by
        rcases h0 with h0 | h0
        · obtain ⟨k1, k2⟩ := h h0
          rw [ans_ok h0, ans_ok k1, decide_eq_false (by omega)]; rfl
        · rw [ans_no h0]; rfl
      have w1 := c1 g4.m_eq (LeastIs.le (a := ⟨s.Width, s.Length, out, [], s.Panels⟩) (b := s) (Int.le_refl _) (fun k _ h => Has.mono (s := s) (bad := allB ⟨s.Width, s.Length, out, [], s.Panels⟩) (bad' := sureB s) (Int.le_refl _) (fun r c h' => allB_iff.2 (.inl (o1 _ (sureB_iff.1 h')))) h) g4 g2)
      have w2 := c1 g1.m_eq (LeastIs.le (a := s) (b := ⟨s.Width, s.Length, out, [], s.Panels⟩) (Int.le_refl _) (fun k _ h => Has.mono (s := s) (bad := allB s) (bad' := allB ⟨s.Width, s.Length, out, [], s.Panels⟩) (Int.le_refl _) (fun r c h' => allB_iff.2 (by
        rcases allB_iff.1 h' with h'' | h''
        · exact o2 _ h''
        · cases h'')) h) g1 g4)
      rw [w1, w2]
      simp only [Bool.or_self, Bool.false_eq_true, if_false]
      by_cases hf : flaw < 0 ∨ (s.Flaws.length : Int) ≤ flaw
      · rw [if_pos (by rcases hf with h | h <;> simp [h]), hw]; rfl
      · rw [if_neg (by simp; omega)]
        obtain ⟨i, hi⟩ : ∃ i : Nat, flaw = i := ⟨flaw.toNat, by omega⟩
        have hil : i < s.Flaws.length := by omega
        obtain ⟨k1, k2⟩ := slc_less (l := s.Flaws) (i := flaw) (by omega) (by omega) (by omega)
        rw [k1, k2, hi]
        simp only [Option.bind_some, Int.toNat_natCast]
        rw [lim_ok (by have := (less_sub s.Flaws i).length_le; unfold less at this; omega)]
        simp only [Option.bind_some]
        have hB := hV.lessF i
        obtain ⟨m5, l5, f5, _, g5⟩ := p_Least hn2 hB
        unfold lessF less at f5
        rw [f5]
        obtain ⟨m6, l6, g6, hM⟩ := g3 i hil
        have hm : m5 = m6 := LeastIs.eq (a := lessF s i) (b := s) (bad := allB (lessF s i)) (bad' := allB (lessF s i)) rfl (fun k _ => Iff.rfl) g5 g6
        subst hm
        -- is the flaw among those that matter?
        have hany : loopO n (F_law03_LaysTruth_s2 n (i : Int) (((List.range s.Flaws.length).filter M).map (fun i : Nat => (i : Int)), 0)) (false, 0) = some (M i) := by
          generalize hl : ((List.range s.Flaws.length).filter M).map (fun i : Nat => (i : Int)) = l at hfl ⊢
          have h := (loop_fold (step := F_law03_LaysTruth_s2 n (i : Int) (l, 0)) l (fun j (z : Bool) => (z, (j : Int))) (fun z y => z || (y == (i : Int))) (fun z => z) (fun _ _ => True) (n := n) false trivial (fun j y z hy _ => by
            have hj := (List.getElem?_eq_some_iff.1 hy).1
            refine ⟨?_, trivial⟩
            rw [F_law03_LaysTruth_s2, dlt, decide_eq_true hj]
            simp only [if_true, geti_nat, hy, Option.bind_some, w64_nat (show j ≤ 4611686018427387904 by omega)]
            cases z <;> rfl) (fun z _ => by rw [F_law03_LaysTruth_s2, dlt]; simp) (by omega)).1
          rw [show (false, (0 : Int)) = (false, ((0 : Nat) : Int)) from rfl, h]
          have ef : ∀ (l : List Int) (z : Bool), l.foldl (fun z y => z || (y == (i : Int))) z = (z || l.any (fun y => y == (i : Int))) := by
            intro l
            induction l with
            | nil => intro z; simp
            | cons a l ih => intro z; rw [List.foldl_cons, ih, List.any_cons, Bool.or_assoc]
          rw [ef, Bool.false_or]
          congr 1
          rw [Bool.eq_iff_iff, List.any_eq_true, ← hl]
          constructor
          · rintro ⟨y, hy, e⟩
            obtain ⟨j, hj, rfl⟩ := List.mem_map.1 hy
            have e' : j = i := by have := beq_iff_eq.1 e; omega
            subst e'
            exact (List.mem_filter.1 hj).2
          · intro h
            exact ⟨(i : Int), List.mem_map.2 ⟨i, List.mem_filter.2 ⟨List.mem_range.2 hil, h⟩, rfl⟩, by simp⟩
        rw [hany]
        simp only [Option.bind_some, isKnown_ans, Bool.true_and]
        have hcmp : M i = (((ans m5).2 == 0) && (((ans m1).2 != 0) || decide ((ans m5).1 < (ans m1).1))) := by
          rw [Bool.eq_iff_iff, hM]
          rcases g5.m_eq with h5 | h5
          · rw [ans_ok h5]
            rcases g1.m_eq with h1 | h1
            · rw [ans_ok h1]
              simp only [beq_self_eq_true, bne_self_eq_false, Bool.false_or, Bool.true_and, decide_eq_true_iff]
              exact ⟨fun h => h.2.resolve_left (by omega), fun h => ⟨h5, .inr h⟩⟩
            · rw [ans_no h1]
              exact iff_of_true ⟨h5, .inl h1⟩ rfl
          · rw [ans_no h5]
            exact iff_of_false (fun h => by omega) (by simp)
        rw [hcmp]
        simp only [beq_self_eq_true, if_true, hw, Option.bind_some]
  · rw [if_pos ?_, hw]; rfl
    cases b with
    | false => rfl
    | true => rw [decide_eq_true (show bits < 0 by have : ¬ 0 ≤ bits := fun h => hb ⟨rfl, h⟩; omega), Bool.or_true]
end Go.Proofs.Ytflhjlgimihmgaa
end
section
namespace Go.Proofs.Ytflhjlgimihmgaa
open Go Go.RowKit Go.Dec Go.ChangeShapes Go.WideShapes Go.ChangeAt
set_option linter.unusedVariables false
theorem cl_laidOut : laidOutB Try.prog = true := by kernel_rfl
theorem cl_own : ownKnob Try.prog.godebug = none := by kernel_rfl
set_option maxRecDepth 100000 in
set_option maxHeartbeats 1000000 in
theorem laysTruth_contract (law : ∀ (x0 : Lap) (x1 : Int) (x2 : Int), W_Lap x0 → I64 x1 → I64 x2 → ∃ n, F_law03_LaysTruth n x0 x1 x2 = some true)
    (T : Type) (enc : TypeId × Value → T) (W : World) (base : Nat) (args : Array Value) (ds gs : List (DataW T)) (before : List MemPlace)
    (hval : ∀ (j : Nat) t v, Try.f5.params[j]? = some t → args[j]? = some v → Value.okWide Try.prog W .any base t v)
    (hW : DataW.Whole enc Try.prog Try.f5.params.toList Rows.laysTruthSpec.vars false W args.toList ds gs before) :
    Calls Try.prog 5 args W fun e W' => ∃ v, e = .returned v ∧ Rows.laysTruthSpec.post enc Try.prog Try.f5 false true false false W args v W' := by
  have hW' := hW
  obtain ⟨p, q, hA0, hV, rfl, hfz, hnd⟩ := hW
  have hA : DataW.TrodAll enc Try.prog W 0 (fun _ => true) true Try.f5.params.toList args.toList ds p := hA0
  rw [Try.params5] at hA hval
  obtain ⟨v0, vs0, d0, ds0, p0, q0, hargs, rfl, rfl, h0, r0⟩ := trodAll_cons hA
  obtain ⟨v1, vs1, d1, ds1, p1, q1, rfl, rfl, rfl, h1, r1⟩ := trodAll_cons r0
  obtain ⟨v2, vs2, d2, ds2, p2, q2, rfl, rfl, rfl, h2, r2⟩ := trodAll_cons r1
  obtain ⟨rfl, rfl, rfl⟩ := trodAll_nil r2
  obtain rfl : args = #[v0, v1, v2] := by rw [← Array.toArray_toList (xs := args), hargs]
  obtain ⟨rfl, rfl⟩ := trodVars_none hV
  obtain ⟨cs0, rfl, hs0⟩ := okWide_struct Try.underlying25 (hval 0 25 v0 rfl rfl)
  obtain ⟨n1, rfl⟩ := okWide_int Try.underlying3 (hval 1 3 v1 rfl rfl)
  obtain ⟨n2, rfl⟩ := okWide_int Try.underlying3 (hval 2 3 v2 rfl rfl)
  have k0 := h0
  obtain ⟨f0, e0⟩ := h0
  have k1 := h1
  obtain ⟨f1, e1⟩ := h1
  have k2 := h2
  obtain ⟨f2, e2⟩ := h2
  obtain ⟨_, x0, r0, w0⟩ := o_Lap _ _ _ _ _ _ _ e0
  obtain ⟨_, x1, r1, w1⟩ := (Opens.int (by kernel_rfl)) _ _ _ _ _ _ _ e1
  obtain ⟨_, x2, r2, w2⟩ := (Opens.int (by kernel_rfl)) _ _ _ _ _ _ _ e2
  obtain ⟨n, hn⟩ := law x0 x1 x2 w0 w1 w2
  obtain ⟨u0_0, u0_1, u0_2, q0, s0_0, s0_1, s0_2⟩ := r0
  have q0 : cs0.toList = _ := q0
  obtain rfl : cs0 = _ := by rw [← Array.toArray_toList (xs := cs0), q0]
  have q1 : [Value.int .i64 n1] = [Value.int .i64 x1] := r1
  obtain rfl : x1 = n1 := by simpa using q1.symm
  have q2 : [Value.int .i64 n2] = [Value.int .i64 x2] := r2
  obtain rfl : x2 = n2 := by simpa using q2.symm
  have hlt : ∀ x ∈ p0 ++ (p1 ++ (p2 ++ [])), x.block < W.heap.size := fun x hx => hW'.lt x (by simpa using hx)
  refine ((c_law03_LaysTruth n (hw W) x0 u0_0 s0_0 u0_1 s0_1 u0_2 s0_2 x1 x2 true hn) W (hw_le W)).mono fun e W' ⟨he, hb0⟩ => ?_
  have hb := hb0.plain rfl
  subst he
  refine ⟨_, rfl, _, _, _, [], p0 ++ (p1 ++ (p2 ++ [])), [], hW', trodAll_cons_mk (shut_bool Try.underlying4 _) trodAll_mk0, ?_, rfl, hb.frame _, fun h => by cases h⟩
  exact trodAll_cons_mk (Below.trod cl_laidOut (by kernel_rfl) (of_decide_eq_true (by kernel_rfl)) k0 hb (fun x hx => hlt x (List.mem_append_left _ hx))) (trodAll_cons_mk (Below.trod cl_laidOut (by kernel_rfl) (of_decide_eq_true (by kernel_rfl)) k1 hb (fun x hx => hlt x (List.mem_append_right _ (List.mem_append_left _ hx)))) (trodAll_cons_mk (Below.trod cl_laidOut (by kernel_rfl) (of_decide_eq_true (by kernel_rfl)) k2 hb (fun x hx => hlt x (List.mem_append_right _ (List.mem_append_right _ (List.mem_append_left _ hx))))) trodAll_mk0))
set_option maxRecDepth 100000 in
theorem laysTruth_lifted (law : ∀ (x0 : Lap) (x1 : Int) (x2 : Int), W_Lap x0 → I64 x1 → I64 x2 → ∃ n, F_law03_LaysTruth n x0 x1 x2 = some true)
    (os : Os) (started : os.Started) (H : Type) (enc : TypeId × Value → H) :
    ReturnsInHanded {} Try.checked os 5 .any (Rows.laysTruthSpec.pre6 enc Try.prog Try.f5 Rows.laysTruthRow.domain false) (Rows.laysTruthSpec.post enc Try.prog Try.f5 false true false false) := by
  refine returnsInHanded_of_change (C := Try.checked) cl_own started (by kernel_rfl) Try.func5
    (ChangeSpec.witness6 (enc := enc) (C := Try.checked) false ⟨#[], #[.agg #[.int .i64 0, .int .i64 0, .slice none 0 0, .slice none 0 0, .slice none 0 0], .int .i64 0, .int .i64 0], []⟩ 8 (by kernel_rfl) (by kernel_rfl) (by kernel_rfl) (by kernel_rfl)) ?_
  intro W base args ds gs before hval hW _ _
  exact laysTruth_contract law H enc W base args ds gs before hval hW
theorem laysTruth_holds (law : ∀ (x0 : Lap) (x1 : Int) (x2 : Int), W_Lap x0 → I64 x1 → I64 x2 → ∃ n, F_law03_LaysTruth n x0 x1 x2 = some true) : Rows.LaysTruthSaid :=
  OpenClaim.holds_of_wide 5 Try.f5 rfl rfl rfl rfl rfl rfl rfl ⟨rfl, rfl, rfl, rfl, rfl⟩ rfl rfl rfl rfl rfl (by kernel_rfl) Try.func5 (by kernel_rfl)
    (of_decide_eq_true (by kernel_rfl)) (by unfold Func.isWrapper; first | (rw [if_pos (by decide +kernel)]; kernel_rfl) | (rw [if_neg (by decide +kernel)]; exact ⟨rfl, rfl⟩))
    (fun os started H enc _ => laysTruth_lifted law os started H enc)
theorem laysTruth_proved : Rows.LaysTruthSaid := laysTruth_holds law_LaysTruth
end Go.Proofs.Ytflhjlgimihmgaa
end
