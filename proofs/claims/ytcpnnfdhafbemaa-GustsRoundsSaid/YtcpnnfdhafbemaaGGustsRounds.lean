/-
  Printed by a program: functions of the translation as plain functions, and their contracts.
-/
import Derived.Test.YtcpnnfdhafbemaaGenK14
namespace Go.Proofs.Ytcpnnfdhafbemaa
open Go Go.RowKit Go.Dec
set_option linter.unusedVariables false
-- 5 ferrule/ferrulelaw05.GustsRounds
def F_law05_GustsRounds_s1 (n : Nat) (d : Canopy) (y10 : (List Int) × (List Int) × Int) (y17 : Int × (List Int) × Int) : Int → Option (Int ⊕ (Bool ⊕ Unit))
  | i_942 => if decide (i_942 < (y10.2.1.length : Int)) = true then ((geti y10.2.1 i_942).bind fun y1014 => (if decide (y1014 < 0) = true then (some true) else ((geti y10.2.1 i_942).bind fun y1027 => some (decide ((d.Ribs.length : Int) ≤ y1027))) : Option Bool).bind fun p1024 => (if p1024 = true then (some true) else ((if decide (0 < i_942) = true then ((geti y10.2.1 i_942).bind fun y1071 => (geti y10.2.1 (w64 (i_942 - 1))).bind fun y1076 => some (decide (y1071 ≤ y1076))) else (some false) : Option Bool).bind fun p1068 => some p1068) : Option Bool).bind fun p1055 => if p1055 = true then (some (Sum.inr (Sum.inl false))) else ((geti y10.2.1 i_942).bind fun y1082 => (F_law05_in n y17.2.1 y1082).bind fun y1087 => (if (!y1087) = true then ((geti y10.2.1 i_942).bind fun y1098 => (nz (d.Ribs.length : Int)).bind fun _ => (F_law05_in n y10.2.1 ((w64 (y1098 + 1)).tmod (d.Ribs.length : Int))).bind fun y1104 => some (!y1104)) else (some false) : Option Bool).bind fun p1095 => (if p1095 = true then ((geti y10.2.1 i_942).bind fun y1115 => (nz (d.Ribs.length : Int)).bind fun _ => (F_law05_in n y10.2.1 ((w64 ((w64 (y1115 + (d.Ribs.length : Int))) - 1)).tmod (d.Ribs.length : Int))).bind fun y1121 => some (!y1121)) else (some false) : Option Bool).bind fun p1112 => if p1112 = true then (some (Sum.inr (Sum.inl false))) else (some (Sum.inl (w64 (i_942 + 1)))))) else (some (Sum.inr (Sum.inr ())))
def F_law05_GustsRounds (n : Nat) (d : Canopy) (g : Gust) : Option Bool :=
  (F_law05_ready n d [g]).bind fun y7 => if (!y7) = true then ((F_law05_works n).bind fun y9 => some y9) else ((F_gusts_Goes n d g).bind fun y10 => (F_gusts_First n d [g]).bind fun y17 => (if ((((y10.2.2 != 0) || ((y17.2.2 != 0) && (y17.2.2 != 3))) || ((y17.2.2 == 0) != (decide (0 < (y10.2.1.length : Int))))) || (decide ((y10.2.1.length : Int) < (y17.2.1.length : Int)))) = true then (some true) else ((F_law05_subset n y10.1 y10.2.1).bind fun y34 => some (!y34)) : Option Bool).bind fun p31 => (if p31 = true then (some true) else ((F_law05_subset n y17.2.1 y10.2.1).bind fun y39 => some (!y39)) : Option Bool).bind fun p36 => if (p36 || (decide ((d.Ribs.length : Int) < (y10.2.1.length : Int)))) = true then (some false) else ((loopO n (F_law05_GustsRounds_s1 n d y10 y17) 0).bind fun r583 => match r583 with | .inl o => some o | .inr _ => (F_law05_works n).bind fun y1123 => some y1123))
set_option maxRecDepth 100000 in
set_option maxHeartbeats 40000000 in
theorem c_law05_GustsRounds (n : Nat) (H : Hp) (d : Canopy) (d_v0 : Value) (hd_0 : SL H 7 R_Section d_v0 d.Frame.Sections) (d_v7 : Value) (hd_7 : SL H 2 R_Span d_v7 d.Ribs) (d_v8 : Value) (hd_8 : SL H 1 RInt d_v8 d.Shares) (g : Gust) (y : Bool) (hF : F_law05_GustsRounds n d g = some y) : SC Try.prog 5 [.agg [d_v0, .int .i64 d.Frame.Low, .int .i64 d.Frame.High, .int .i64 d.Frame.Ease.Num, .int .i64 d.Frame.Ease.Den, .int .i64 d.Frame.Rod, .int .i64 d.Frame.Case, d_v7, d_v8].toArray, .agg [.int .i64 g.Force, .int .i64 g.At].toArray] (.bool y) H := by
  rw [F_law05_GustsRounds] at hF
  refine SC.of (N := 151) Try.func5 rfl rfl rfl fun w => ?_
  refine JC.seq ?_
  refine JC.region (by rfl) ?_
  intro hQ
  refine JL.box (cs := [d_v0, .int .i64 d.Frame.Low, .int .i64 d.Frame.High, .int .i64 d.Frame.Ease.Num, .int .i64 d.Frame.Ease.Den, .int .i64 d.Frame.Rod, .int .i64 d.Frame.Case, d_v7, d_v8]) rfl .none rfl ?_
  intro b1
  refine JL.box (cs := [.int .i64 g.Force, .int .i64 g.At]) rfl .none rfl ?_
  intro b2
  refine JL.assign .none rfl ?_
  refine JL.done hQ ?_
  refine JQ.go ?_
  refine JC.seq ?_
  refine JC.seq ?_
  refine JC.region (by rfl) ?_
  intro hQ
  refine JL.loadOwn 1 az_30 rfl rfl rfl .none rfl ?_
  refine JL.loadOwn 0 az_32 rfl rfl rfl .none rfl ?_
  refine JL.buildSlice (e := 32) (l := [.int .i64 g.Force, .int .i64 g.At]) (by kernel_rfl) .none rfl ?_
  intro b3
  refine JL.freezeC 0 (l := [.int .i64 g.Force, .int .i64 g.At]) rfl ?_
  intro H4 hs4 hc5
  have hg6 : SL H4 2 R_Gust (.slice (some ⟨b3, 0, none⟩) 1 1) [g] := CH.sl (l := [g]) (CH.cons (cs := [.int .i64 g.Force, .int .i64 g.At]) rfl rfl CH.nil) hc5 ⟨by simp, by simp⟩
  obtain ⟨y7, hy7, hF⟩ := bind_some hF
  refine JL.callS (c_law05_ready n H4 d d_v0 (SL.mono R_Section_mono hs4 hd_0) d_v7 (SL.mono R_Span_mono hs4 hd_7) d_v8 (SL.mono RInt.mono hs4 hd_8) [g] (.slice (some ⟨b3, 0, none⟩) 1 1) hg6 y7 hy7) rfl en_11 .none rfl ?_
  refine JL.not rfl .none rfl ?_
  refine JL.done hQ ?_
  refine JQ.go ?_
  rcases ite_some hF with ⟨hc8, hF⟩ | ⟨hc8, hF⟩
  · refine JC.cond_t (b := (!y7)) rfl hc8 ?_
    refine JC.seq ?_
    refine JC.region (by rfl) ?_
    intro hQ
    obtain ⟨y9, hy9, hF⟩ := bind_some hF
    refine JL.callS (c_law05_works n H4 y9 hy9) rfl en_12 .none rfl ?_
    refine JL.assign .none rfl ?_
    refine JL.done hQ ?_
    refine JQ.go ?_
    refine JC.ret ?_
    refine JQ.ret_then ?_
    obtain rfl := Option.some.inj hF
    exact JQ.outS rfl (.tmp .nil) rfl
  · refine JC.cond_f (b := (!y7)) rfl hc8 ?_
    refine JC.skip ?_
    refine JQ.go ?_
    refine JC.seq ?_
    refine JC.region (by rfl) ?_
    intro hQ
    refine JL.loadOwn 1 az_30 rfl rfl rfl .none rfl ?_
    refine JL.loadOwn 0 az_32 rfl rfl rfl .none rfl ?_
    obtain ⟨y10, hy10, hF⟩ := bind_some hF
    refine JL.callH (c_gusts_Goes n H4 d d_v0 (SL.mono R_Section_mono hs4 hd_0) d_v7 (SL.mono R_Span_mono hs4 hd_7) d_v8 (SL.mono RInt.mono hs4 hd_8) g y10 hy10) rfl en_14 .none rfl ?_
    rintro H11 vv12 hs11 ⟨y10a_v0, y10b_v0, rfl, hy10a_0, hy10b_0⟩
    refine JL.move .none rfl ?_
    refine JL.extract rfl rfl .none rfl ?_
    refine JL.extract rfl rfl .none rfl ?_
    refine JL.extract rfl rfl .none rfl ?_
    refine JL.assign .none rfl ?_
    refine JL.assign .none rfl ?_
    refine JL.assign .none rfl ?_
    refine JL.done hQ ?_
    refine JQ.go ?_
    refine JC.fresh (fun f => f 2 = .pointer (some ⟨b1, 0, none⟩) ∧ f 3 = .pointer (some ⟨b2, 0, none⟩) ∧ f 4 = .bool false ∧ f 5 = y10a_v0 ∧ f 6 = y10b_v0 ∧ f 7 = .int .i64 y10.2.2) ⟨rfl, rfl, rfl, rfl, rfl, rfl⟩ ?_
    rintro f ⟨hf2, hf3, hf4, hf5, hf6, hf7⟩
    refine (JC.norm (i := 2) hf2 (JC.norm (i := 3) hf3 (JC.norm (i := 4) hf4 (JC.norm (i := 5) hf5 (JC.norm (i := 6) hf6 (JC.norm (i := 7) hf7 ?_))))))
    refine JC.seq ?_
    refine JC.region (by rfl) ?_
    intro hQ
    refine JL.loadOwn 1 az_30 rfl rfl rfl .none rfl ?_
    refine JL.loadOwn 0 az_32 rfl rfl rfl .none rfl ?_
    refine JL.buildSlice (e := 32) (l := [.int .i64 g.Force, .int .i64 g.At]) (by kernel_rfl) .none rfl ?_
    intro b13
    refine JL.freezeC 0 (l := [.int .i64 g.Force, .int .i64 g.At]) rfl ?_
    intro H14 hs14 hc15
    have hg16 : SL H14 2 R_Gust (.slice (some ⟨b13, 0, none⟩) 1 1) [g] := CH.sl (l := [g]) (CH.cons (cs := [.int .i64 g.Force, .int .i64 g.At]) rfl rfl CH.nil) hc15 ⟨by simp, by simp⟩
    obtain ⟨y17, hy17, hF⟩ := bind_some hF
    refine JL.callH (c_gusts_First n H14 d d_v0 (SL.mono R_Section_mono (HSub.trans hs4 (HSub.trans hs11 hs14)) hd_0) d_v7 (SL.mono R_Span_mono (HSub.trans hs4 (HSub.trans hs11 hs14)) hd_7) d_v8 (SL.mono RInt.mono (HSub.trans hs4 (HSub.trans hs11 hs14)) hd_8) [g] (.slice (some ⟨b13, 0, none⟩) 1 1) hg16 y17 hy17) rfl en_26 .none rfl ?_
    rintro H18 vv19 hs18 ⟨y17b_v0, rfl, hy17b_0⟩
    refine JL.move .none rfl ?_
    refine JL.extract rfl rfl .none rfl ?_
    refine JL.extract rfl rfl .none rfl ?_
    refine JL.extract rfl rfl .none rfl ?_
    refine JL.assign .none rfl ?_
    refine JL.assign .none rfl ?_
    refine JL.assign .none rfl ?_
    refine JL.done hQ ?_
    refine JQ.go ?_
    refine JC.fresh (fun f => f 2 = .pointer (some ⟨b1, 0, none⟩) ∧ f 4 = .bool false ∧ f 5 = y10a_v0 ∧ f 6 = y10b_v0 ∧ f 7 = .int .i64 y10.2.2 ∧ f 9 = y17b_v0 ∧ f 10 = .int .i64 y17.2.2) ⟨rfl, rfl, rfl, rfl, rfl, rfl, rfl⟩ ?_
    rintro f ⟨hf2, hf4, hf5, hf6, hf7, hf9, hf10⟩
    refine (JC.norm (i := 2) hf2 (JC.norm (i := 4) hf4 (JC.norm (i := 5) hf5 (JC.norm (i := 6) hf6 (JC.norm (i := 7) hf7 (JC.norm (i := 9) hf9 (JC.norm (i := 10) hf10 ?_)))))))
    refine JC.seq ?_
    refine JC.seq ?_
    refine JC.region (by rfl) ?_
    intro hQ
    refine JL.move .none rfl ?_
    refine JL.bin rfl rfl rfl .none rfl ?_
    refine JL.move .none rfl ?_
    refine JL.cut 7 (fun f => f 2 = .pointer (some ⟨b1, 0, none⟩) ∧ f 5 = y10a_v0 ∧ f 6 = y10b_v0 ∧ f 9 = y17b_v0 ∧ f 10 = .int .i64 y17.2.2 ∧ f 43 = .bool ((y10.2.2 != 0) || ((y17.2.2 != 0) && (y17.2.2 != 3)))) ?_ ?_
    · intro hJ22
      rcases bcases (y10.2.2 != 0) with hc23 | hc23
      · skip
        refine JL.skip (.bool rfl rfl rfl hc23) rfl ?_
        refine JL.skip (.bool rfl rfl rfl hc23) rfl ?_
        refine JL.skip (.bool rfl rfl rfl hc23) rfl ?_
        refine JL.skip (.no rfl rfl rfl) rfl ?_
        refine JL.skip (.no rfl rfl rfl) rfl ?_
        refine JL.skip (.bool rfl rfl rfl hc23) rfl ?_
        refine JL.pick_t (b := (y10.2.2 != 0)) rfl hc23 .none rfl ?_
        exact hJ22 _ ⟨rfl, rfl, rfl, rfl, rfl, or_t hc23 rfl⟩
      · skip
        refine JL.move (.some rfl rfl rfl hc23) rfl ?_
        refine JL.bin rfl rfl rfl (.some rfl rfl rfl hc23) rfl ?_
        refine JL.move (.some rfl rfl rfl hc23) rfl ?_
        refine JL.cut 3 (fun f => f 2 = .pointer (some ⟨b1, 0, none⟩) ∧ f 5 = y10a_v0 ∧ f 6 = y10b_v0 ∧ f 9 = y17b_v0 ∧ f 10 = .int .i64 y17.2.2 ∧ f 36 = .bool (y10.2.2 != 0) ∧ f 42 = .bool ((y17.2.2 != 0) && (y17.2.2 != 3))) ?_ ?_
        · intro hJ24
          rcases bcases (y17.2.2 != 0) with hc25 | hc25
          · skip
            refine JL.move (.some rfl rfl rfl hc25) rfl ?_
            refine JL.bin rfl rfl rfl (.some rfl rfl rfl hc25) rfl ?_
            refine JL.pick_t (b := (y17.2.2 != 0)) rfl hc25 (.some rfl rfl rfl hc23) rfl ?_
            exact hJ24 _ ⟨rfl, rfl, rfl, rfl, rfl, rfl, and_t hc25 rfl⟩
          · skip
            refine JL.skip (.bool rfl rfl rfl hc25) rfl ?_
            refine JL.skip (.bool rfl rfl rfl hc25) rfl ?_
            refine JL.pick_f (b := (y17.2.2 != 0)) rfl hc25 (.some rfl rfl rfl hc23) rfl ?_
            exact hJ24 _ ⟨rfl, rfl, rfl, rfl, rfl, rfl, and_f hc25 rfl⟩
        · rintro f ⟨hf2, hf5, hf6, hf9, hf10, hf36, hf42⟩
          refine (JL.norm (i := 2) hf2 (JL.norm (i := 5) hf5 (JL.norm (i := 6) hf6 (JL.norm (i := 9) hf9 (JL.norm (i := 10) hf10 (JL.norm (i := 36) hf36 (JL.norm (i := 42) hf42 ?_)))))))
          refine JL.pick_f (b := (y10.2.2 != 0)) rfl hc23 .none rfl ?_
          exact hJ22 _ ⟨rfl, rfl, rfl, rfl, rfl, or_f hc23 rfl⟩
    · rintro f ⟨hf2, hf5, hf6, hf9, hf10, hf43⟩
      refine (JL.norm (i := 2) hf2 (JL.norm (i := 5) hf5 (JL.norm (i := 6) hf6 (JL.norm (i := 9) hf9 (JL.norm (i := 10) hf10 (JL.norm (i := 43) hf43 ?_))))))
      refine JL.move .none rfl ?_
      refine JL.cut 7 (fun f => f 2 = .pointer (some ⟨b1, 0, none⟩) ∧ f 5 = y10a_v0 ∧ f 6 = y10b_v0 ∧ f 9 = y17b_v0 ∧ f 51 = .bool (((y10.2.2 != 0) || ((y17.2.2 != 0) && (y17.2.2 != 3))) || ((y17.2.2 == 0) != (decide (0 < (y10.2.1.length : Int)))))) ?_ ?_
      · intro hJ26
        rcases bcases ((y10.2.2 != 0) || ((y17.2.2 != 0) && (y17.2.2 != 3))) with hc27 | hc27
        · skip
          refine JL.skip (.bool rfl rfl rfl hc27) rfl ?_
          refine JL.skip (.bool rfl rfl rfl hc27) rfl ?_
          refine JL.skip (.bool rfl rfl rfl hc27) rfl ?_
          refine JL.skip (.bool rfl rfl rfl hc27) rfl ?_
          refine JL.skip (.bool rfl rfl rfl hc27) rfl ?_
          refine JL.skip (.bool rfl rfl rfl hc27) rfl ?_
          refine JL.pick_t (b := ((y10.2.2 != 0) || ((y17.2.2 != 0) && (y17.2.2 != 3)))) rfl hc27 .none rfl ?_
          exact hJ26 _ ⟨rfl, rfl, rfl, rfl, or_t hc27 rfl⟩
        · skip
          refine JL.move (.some rfl rfl rfl hc27) rfl ?_
          refine JL.bin rfl rfl rfl (.some rfl rfl rfl hc27) rfl ?_
          refine JL.move (.some rfl rfl rfl hc27) rfl ?_
          refine JL.lenSL (R := RInt) ul_28 (SL.mono RInt.mono (HSub.trans hs14 hs18) hy10b_0) (.some rfl rfl rfl hc27) rfl ?_
          refine JL.bin rfl rfl rfl (.some rfl rfl rfl hc27) rfl ?_
          refine JL.neBool ub_4 rfl rfl (.some rfl rfl rfl hc27) rfl ?_
          refine JL.pick_f (b := ((y10.2.2 != 0) || ((y17.2.2 != 0) && (y17.2.2 != 3)))) rfl hc27 .none rfl ?_
          exact hJ26 _ ⟨rfl, rfl, rfl, rfl, or_f hc27 rfl⟩
      · rintro f ⟨hf2, hf5, hf6, hf9, hf51⟩
        refine (JL.norm (i := 2) hf2 (JL.norm (i := 5) hf5 (JL.norm (i := 6) hf6 (JL.norm (i := 9) hf9 (JL.norm (i := 51) hf51 ?_)))))
        refine JL.move .none rfl ?_
        refine JL.cut 6 (fun f => f 2 = .pointer (some ⟨b1, 0, none⟩) ∧ f 5 = y10a_v0 ∧ f 6 = y10b_v0 ∧ f 9 = y17b_v0 ∧ f 58 = .bool ((((y10.2.2 != 0) || ((y17.2.2 != 0) && (y17.2.2 != 3))) || ((y17.2.2 == 0) != (decide (0 < (y10.2.1.length : Int))))) || (decide ((y10.2.1.length : Int) < (y17.2.1.length : Int))))) ?_ ?_
        · intro hJ28
          rcases bcases (((y10.2.2 != 0) || ((y17.2.2 != 0) && (y17.2.2 != 3))) || ((y17.2.2 == 0) != (decide (0 < (y10.2.1.length : Int))))) with hc29 | hc29
          · skip
            refine JL.skip (.bool rfl rfl rfl hc29) rfl ?_
            refine JL.skip (.bool rfl rfl rfl hc29) rfl ?_
            refine JL.skip (.bool rfl rfl rfl hc29) rfl ?_
            refine JL.skip (.bool rfl rfl rfl hc29) rfl ?_
            refine JL.skip (.bool rfl rfl rfl hc29) rfl ?_
            refine JL.pick_t (b := (((y10.2.2 != 0) || ((y17.2.2 != 0) && (y17.2.2 != 3))) || ((y17.2.2 == 0) != (decide (0 < (y10.2.1.length : Int)))))) rfl hc29 .none rfl ?_
            exact hJ28 _ ⟨rfl, rfl, rfl, rfl, or_t hc29 rfl⟩
          · skip
            refine JL.move (.some rfl rfl rfl hc29) rfl ?_
            refine JL.lenSL (R := RInt) ul_28 hy17b_0 (.some rfl rfl rfl hc29) rfl ?_
            refine JL.move (.some rfl rfl rfl hc29) rfl ?_
            refine JL.lenSL (R := RInt) ul_28 (SL.mono RInt.mono (HSub.trans hs14 hs18) hy10b_0) (.some rfl rfl rfl hc29) rfl ?_
            refine JL.bin rfl rfl rfl (.some rfl rfl rfl hc29) rfl ?_
            refine JL.pick_f (b := (((y10.2.2 != 0) || ((y17.2.2 != 0) && (y17.2.2 != 3))) || ((y17.2.2 == 0) != (decide (0 < (y10.2.1.length : Int)))))) rfl hc29 .none rfl ?_
            exact hJ28 _ ⟨rfl, rfl, rfl, rfl, or_f hc29 rfl⟩
        · rintro f ⟨hf2, hf5, hf6, hf9, hf58⟩
          refine (JL.norm (i := 2) hf2 (JL.norm (i := 5) hf5 (JL.norm (i := 6) hf6 (JL.norm (i := 9) hf9 (JL.norm (i := 58) hf58 ?_)))))
          refine JL.move .none rfl ?_
          obtain ⟨p31, hp31, hF⟩ := bind_some hF
          refine JL.cut 5 (fun f => f 2 = .pointer (some ⟨b1, 0, none⟩) ∧ f 6 = y10b_v0 ∧ f 9 = y17b_v0 ∧ f 64 = .bool p31) ?_ ?_
          · intro hJ32
            rcases ite_some hp31 with ⟨hc33, hF⟩ | ⟨hc33, hF⟩
            · skip
              refine JL.skip (.bool rfl rfl rfl hc33) rfl ?_
              refine JL.skip (.bool rfl rfl rfl hc33) rfl ?_
              refine JL.skip (.bool rfl rfl rfl hc33) rfl ?_
              refine JL.skip (.bool rfl rfl rfl hc33) rfl ?_
              refine JL.pick_t (b := ((((y10.2.2 != 0) || ((y17.2.2 != 0) && (y17.2.2 != 3))) || ((y17.2.2 == 0) != (decide (0 < (y10.2.1.length : Int))))) || (decide ((y10.2.1.length : Int) < (y17.2.1.length : Int))))) rfl hc33 .none rfl ?_
              obtain rfl := Option.some.inj hF
              exact hJ32 _ ⟨rfl, rfl, rfl, rfl⟩
            · skip
              refine JL.move (.some rfl rfl rfl hc33) rfl ?_
              refine JL.move (.some rfl rfl rfl hc33) rfl ?_
              obtain ⟨y34, hy34, hF⟩ := bind_some hF
              refine JL.callS (c_law05_subset n H18 y10.1 y10a_v0 (SL.mono RInt.mono (HSub.trans hs14 hs18) hy10a_0) y10.2.1 y10b_v0 (SL.mono RInt.mono (HSub.trans hs14 hs18) hy10b_0) y34 hy34) rfl en_27 (.some rfl rfl rfl hc33) rfl ?_
              refine JL.not rfl (.some rfl rfl rfl hc33) rfl ?_
              refine JL.pick_f (b := ((((y10.2.2 != 0) || ((y17.2.2 != 0) && (y17.2.2 != 3))) || ((y17.2.2 == 0) != (decide (0 < (y10.2.1.length : Int))))) || (decide ((y10.2.1.length : Int) < (y17.2.1.length : Int))))) rfl hc33 .none rfl ?_
              obtain rfl := Option.some.inj hF
              exact hJ32 _ ⟨rfl, rfl, rfl, rfl⟩
          · rintro f ⟨hf2, hf6, hf9, hf64⟩
            refine (JL.norm (i := 2) hf2 (JL.norm (i := 6) hf6 (JL.norm (i := 9) hf9 (JL.norm (i := 64) hf64 ?_))))
            refine JL.move .none rfl ?_
            obtain ⟨p36, hp36, hF⟩ := bind_some hF
            refine JL.cut 5 (fun f => f 2 = .pointer (some ⟨b1, 0, none⟩) ∧ f 6 = y10b_v0 ∧ f 9 = y17b_v0 ∧ f 70 = .bool p36) ?_ ?_
            · intro hJ37
              rcases ite_some hp36 with ⟨hc38, hF⟩ | ⟨hc38, hF⟩
              · skip
                refine JL.skip (.bool rfl rfl rfl hc38) rfl ?_
                refine JL.skip (.bool rfl rfl rfl hc38) rfl ?_
                refine JL.skip (.bool rfl rfl rfl hc38) rfl ?_
                refine JL.skip (.bool rfl rfl rfl hc38) rfl ?_
                refine JL.pick_t (b := p31) rfl hc38 .none rfl ?_
                obtain rfl := Option.some.inj hF
                exact hJ37 _ ⟨rfl, rfl, rfl, rfl⟩
              · skip
                refine JL.move (.some rfl rfl rfl hc38) rfl ?_
                refine JL.move (.some rfl rfl rfl hc38) rfl ?_
                obtain ⟨y39, hy39, hF⟩ := bind_some hF
                refine JL.callS (c_law05_subset n H18 y17.2.1 y17b_v0 hy17b_0 y10.2.1 y10b_v0 (SL.mono RInt.mono (HSub.trans hs14 hs18) hy10b_0) y39 hy39) rfl en_27 (.some rfl rfl rfl hc38) rfl ?_
                refine JL.not rfl (.some rfl rfl rfl hc38) rfl ?_
                refine JL.pick_f (b := p31) rfl hc38 .none rfl ?_
                obtain rfl := Option.some.inj hF
                exact hJ37 _ ⟨rfl, rfl, rfl, rfl⟩
            · rintro f ⟨hf2, hf6, hf9, hf70⟩
              refine (JL.norm (i := 2) hf2 (JL.norm (i := 6) hf6 (JL.norm (i := 9) hf9 (JL.norm (i := 70) hf70 ?_))))
              refine JL.move .none rfl ?_
              refine JL.cut 7 (fun f => f 2 = .pointer (some ⟨b1, 0, none⟩) ∧ f 6 = y10b_v0 ∧ f 9 = y17b_v0 ∧ f 78 = .bool (p36 || (decide ((d.Ribs.length : Int) < (y10.2.1.length : Int))))) ?_ ?_
              · intro hJ40
                rcases bcases p36 with hc41 | hc41
                · skip
                  refine JL.skip (.bool rfl rfl rfl hc41) rfl ?_
                  refine JL.skip (.bool rfl rfl rfl hc41) rfl ?_
                  refine JL.skip (.bool rfl rfl rfl hc41) rfl ?_
                  refine JL.skip (.bool rfl rfl rfl hc41) rfl ?_
                  refine JL.skip (.bool rfl rfl rfl hc41) rfl ?_
                  refine JL.skip (.bool rfl rfl rfl hc41) rfl ?_
                  refine JL.pick_t (b := p36) rfl hc41 .none rfl ?_
                  exact hJ40 _ ⟨rfl, rfl, rfl, or_t hc41 rfl⟩
                · skip
                  refine JL.move (.some rfl rfl rfl hc41) rfl ?_
                  refine JL.lenSL (R := RInt) ul_28 (SL.mono RInt.mono (HSub.trans hs14 hs18) hy10b_0) (.some rfl rfl rfl hc41) rfl ?_
                  refine JL.fieldAddr fo_30_1 rfl (.some rfl rfl rfl hc41) rfl ?_
                  refine JL.loadOwn 1 az_27 rfl rfl rfl (.some rfl rfl rfl hc41) rfl ?_
                  refine JL.lenSL (R := R_Span) ul_27 (SL.mono R_Span_mono (HSub.trans hs4 (HSub.trans hs11 (HSub.trans hs14 hs18))) hd_7) (.some rfl rfl rfl hc41) rfl ?_
                  refine JL.bin rfl rfl rfl (.some rfl rfl rfl hc41) rfl ?_
                  refine JL.pick_f (b := p36) rfl hc41 .none rfl ?_
                  exact hJ40 _ ⟨rfl, rfl, rfl, or_f hc41 rfl⟩
              · rintro f ⟨hf2, hf6, hf9, hf78⟩
                refine (JL.norm (i := 2) hf2 (JL.norm (i := 6) hf6 (JL.norm (i := 9) hf9 (JL.norm (i := 78) hf78 ?_))))
                refine JL.done hQ ?_
                refine JQ.go ?_
                rcases ite_some hF with ⟨hc42, hF⟩ | ⟨hc42, hF⟩
                · refine JC.cond_t (b := (p36 || (decide ((d.Ribs.length : Int) < (y10.2.1.length : Int))))) rfl hc42 ?_
                  refine JC.seq ?_
                  refine JC.region (by rfl) ?_
                  intro hQ
                  refine JL.assign .none rfl ?_
                  refine JL.done hQ ?_
                  refine JQ.go ?_
                  refine JC.ret ?_
                  refine JQ.ret_then ?_
                  obtain rfl := Option.some.inj hF
                  exact JQ.outS rfl (.tmp .nil) rfl
                · refine JC.cond_f (b := (p36 || (decide ((d.Ribs.length : Int) < (y10.2.1.length : Int))))) rfl hc42 ?_
                  refine JC.skip ?_
                  refine JQ.go ?_
                  refine JC.seq ?_
                  refine JC.region (by rfl) ?_
                  intro hQ
                  refine JL.fieldAddr fo_30_1 rfl .none rfl ?_
                  refine JL.loadOwn 1 az_27 rfl rfl rfl .none rfl ?_
                  refine JL.lenSL (R := R_Span) ul_27 (SL.mono R_Span_mono (HSub.trans hs4 (HSub.trans hs11 (HSub.trans hs14 hs18))) hd_7) .none rfl ?_
                  refine JL.assign .none rfl ?_
                  refine JL.done hQ ?_
                  refine JQ.go ?_
                  refine JC.seq ?_
                  refine JC.seq ?_
                  refine JC.region (by rfl) ?_
                  intro hQ
                  refine JL.assign .none rfl ?_
                  refine JL.done hQ ?_
                  refine JQ.go ?_
                  obtain ⟨r583, hlr583, hKr583⟩ := bind_some hF
                  refine JC.join (fun (_ : Unit) H582 f bs gs => bs = [] ∧ gs = [] ∧ HSub H18 H582 ∧ Sum.inr () = r583) ?_ ?_
                  · skip
                    refine JC.block ?_
                    refine JC.mask [false, false] [] ?_
                    refine JC.loop hlr583 (fun (i_942 : Int) H943 f bs gs => f 6 = y10b_v0 ∧ f 9 = y17b_v0 ∧ f 11 = .int .i64 (d.Ribs.length : Int) ∧ f 12 = .int .i64 i_942 ∧ bs = [] ∧ gs = [] ∧ HSub H18 H943) ⟨rfl, rfl, rfl, rfl, rfl, rfl, (HSub.refl _)⟩ ?_
                    rintro i_942 x945 H943 f bs gs ⟨hf6, hf9, hf11, hf12, rfl, rfl, hs943⟩ hF hr944
                    rw [F_law05_GustsRounds_s1] at hF
                    refine (JC.norm (i := 6) hf6 (JC.norm (i := 9) hf9 (JC.norm (i := 11) hf11 (JC.norm (i := 12) hf12 ?_))))
                    refine JC.seq ?_
                    refine JC.seq ?_
                    refine JC.region (by rfl) ?_
                    intro hQ
                    refine JL.move .none rfl ?_
                    refine JL.move .none rfl ?_
                    refine JL.lenSL (R := RInt) ul_28 (SL.mono RInt.mono (HSub.trans hs14 (HSub.trans hs18 hs943)) hy10b_0) .none rfl ?_
                    refine JL.bin rfl rfl rfl .none rfl ?_
                    refine JL.done hQ ?_
                    refine JQ.go ?_
                    rcases ite_some hF with ⟨hc946, hF⟩ | ⟨hc946, hF⟩
                    · refine JC.cond_t (b := decide (i_942 < (y10.2.1.length : Int))) rfl hc946 ?_
                      refine JC.skip ?_
                      refine JQ.go ?_
                      refine JC.seq ?_
                      refine JC.block ?_
                      refine JC.seq ?_
                      refine JC.seq ?_
                      refine JC.draw (by rfl) mo_ (by kernel_rfl) ?_
                      intro hQ
                      refine JL.move .none rfl ?_
                      refine JL.move .none rfl ?_
                      obtain ⟨y1014, hy1014, hF⟩ := bind_some hF
                      refine JL.indexSL (R := RInt) sl_28 (SL.mono RInt.mono (HSub.trans hs14 (HSub.trans hs18 hs943)) hy10b_0) rfl hy1014 .none rfl ?_
                      rintro b1015 o1016 cs1017 hc1018 - rfl
                      refine JL.loadH 0 az_3 rfl hc1018 rfl .none rfl ?_
                      refine JL.bin rfl rfl rfl .none rfl ?_
                      refine JL.move .none rfl ?_
                      obtain ⟨p1024, hp1024, hF⟩ := bind_some hF
                      refine JL.cut 7 (fun f => f 6 = y10b_v0 ∧ f 9 = y17b_v0 ∧ f 11 = .int .i64 (d.Ribs.length : Int) ∧ f 12 = .int .i64 i_942 ∧ f 100 = .bool p1024) ?_ ?_
                      · intro hJ1025
                        rcases ite_some hp1024 with ⟨hc1026, hF⟩ | ⟨hc1026, hF⟩
                        · skip
                          refine JL.skip (.bool rfl rfl rfl hc1026) rfl ?_
                          refine JL.skip (.bool rfl rfl rfl hc1026) rfl ?_
                          refine JL.skip (.bool rfl rfl rfl hc1026) rfl ?_
                          refine JL.skip (.bool rfl rfl rfl hc1026) rfl ?_
                          refine JL.skip (.bool rfl rfl rfl hc1026) rfl ?_
                          refine JL.skip (.bool rfl rfl rfl hc1026) rfl ?_
                          refine JL.pick_t (b := decide (y1014 < 0)) rfl hc1026 .none rfl ?_
                          obtain rfl := Option.some.inj hF
                          exact hJ1025 _ ⟨rfl, rfl, rfl, rfl, rfl⟩
                        · skip
                          refine JL.move (.some rfl rfl rfl hc1026) rfl ?_
                          refine JL.move (.some rfl rfl rfl hc1026) rfl ?_
                          obtain ⟨y1027, hy1027, hF⟩ := bind_some hF
                          refine JL.indexSL (R := RInt) sl_28 (SL.mono RInt.mono (HSub.trans hs14 (HSub.trans hs18 hs943)) hy10b_0) rfl hy1027 (.some rfl rfl rfl hc1026) rfl ?_
                          rintro b1028 o1029 cs1030 hc1031 - rfl
                          refine JL.loadH 0 az_3 rfl hc1031 rfl (.some rfl rfl rfl hc1026) rfl ?_
                          refine JL.move (.some rfl rfl rfl hc1026) rfl ?_
                          refine JL.bin rfl rfl rfl (.some rfl rfl rfl hc1026) rfl ?_
                          refine JL.pick_f (b := decide (y1014 < 0)) rfl hc1026 .none rfl ?_
                          obtain rfl := Option.some.inj hF
                          exact hJ1025 _ ⟨rfl, rfl, rfl, rfl, rfl⟩
                      · rintro f ⟨hf6, hf9, hf11, hf12, hf100⟩
                        refine (JL.norm (i := 6) hf6 (JL.norm (i := 9) hf9 (JL.norm (i := 11) hf11 (JL.norm (i := 12) hf12 (JL.norm (i := 100) hf100 ?_)))))
                        refine JL.move .none rfl ?_
                        obtain ⟨p1055, hp1055, hF⟩ := bind_some hF
                        refine JL.cut 15 (fun f => f 6 = y10b_v0 ∧ f 9 = y17b_v0 ∧ f 11 = .int .i64 (d.Ribs.length : Int) ∧ f 12 = .int .i64 i_942 ∧ f 116 = .bool p1055) ?_ ?_
                        · intro hJ1056
                          rcases ite_some hp1055 with ⟨hc1057, hF⟩ | ⟨hc1057, hF⟩
                          · skip
                            refine JL.skip (.bool rfl rfl rfl hc1057) rfl ?_
                            refine JL.skip (.bool rfl rfl rfl hc1057) rfl ?_
                            refine JL.skip (.bool rfl rfl rfl hc1057) rfl ?_
                            refine JL.skip (.no rfl rfl rfl) rfl ?_
                            refine JL.skip (.no rfl rfl rfl) rfl ?_
                            refine JL.skip (.no rfl rfl rfl) rfl ?_
                            refine JL.skip (.no rfl rfl rfl) rfl ?_
                            refine JL.skip (.no rfl rfl rfl) rfl ?_
                            refine JL.skip (.no rfl rfl rfl) rfl ?_
                            refine JL.skip (.no rfl rfl rfl) rfl ?_
                            refine JL.skip (.no rfl rfl rfl) rfl ?_
                            refine JL.skip (.no rfl rfl rfl) rfl ?_
                            refine JL.skip (.no rfl rfl rfl) rfl ?_
                            refine JL.skip (.bool rfl rfl rfl hc1057) rfl ?_
                            refine JL.pick_t (b := p1024) rfl hc1057 .none rfl ?_
                            obtain rfl := Option.some.inj hF
                            exact hJ1056 _ ⟨rfl, rfl, rfl, rfl, rfl⟩
                          · skip
                            refine JL.move (.some rfl rfl rfl hc1057) rfl ?_
                            refine JL.bin rfl rfl rfl (.some rfl rfl rfl hc1057) rfl ?_
                            refine JL.move (.some rfl rfl rfl hc1057) rfl ?_
                            obtain ⟨p1068, hp1068, hF⟩ := bind_some hF
                            refine JL.cut 11 (fun f => f 6 = y10b_v0 ∧ f 9 = y17b_v0 ∧ f 11 = .int .i64 (d.Ribs.length : Int) ∧ f 12 = .int .i64 i_942 ∧ f 101 = .bool p1024 ∧ f 102 = .int .i64 i_942 ∧ f 103 = .bool (decide (0 < i_942)) ∧ f 104 = .bool (decide (0 < i_942)) ∧ f 115 = .bool p1068) ?_ ?_
                            · intro hJ1069
                              rcases ite_some hp1068 with ⟨hc1070, hF⟩ | ⟨hc1070, hF⟩
                              · skip
                                refine JL.move (.some rfl rfl rfl hc1070) rfl ?_
                                refine JL.move (.some rfl rfl rfl hc1070) rfl ?_
                                obtain ⟨y1071, hy1071, hF⟩ := bind_some hF
                                refine JL.indexSL (R := RInt) sl_28 (SL.mono RInt.mono (HSub.trans hs14 (HSub.trans hs18 hs943)) hy10b_0) rfl hy1071 (.some rfl rfl rfl hc1070) rfl ?_
                                rintro b1072 o1073 cs1074 hc1075 - rfl
                                refine JL.loadH 0 az_3 rfl hc1075 rfl (.some rfl rfl rfl hc1070) rfl ?_
                                refine JL.move (.some rfl rfl rfl hc1070) rfl ?_
                                refine JL.move (.some rfl rfl rfl hc1070) rfl ?_
                                refine JL.bin rfl rfl rfl (.some rfl rfl rfl hc1070) rfl ?_
                                obtain ⟨y1076, hy1076, hF⟩ := bind_some hF
                                refine JL.indexSL (R := RInt) sl_28 (SL.mono RInt.mono (HSub.trans hs14 (HSub.trans hs18 hs943)) hy10b_0) rfl hy1076 (.some rfl rfl rfl hc1070) rfl ?_
                                rintro b1077 o1078 cs1079 hc1080 - rfl
                                refine JL.loadH 0 az_3 rfl hc1080 rfl (.some rfl rfl rfl hc1070) rfl ?_
                                refine JL.bin rfl rfl rfl (.some rfl rfl rfl hc1070) rfl ?_
                                refine JL.pick_t (b := decide (0 < i_942)) rfl hc1070 (.some rfl rfl rfl hc1057) rfl ?_
                                obtain rfl := Option.some.inj hF
                                exact hJ1069 _ ⟨rfl, rfl, rfl, rfl, rfl, rfl, rfl, rfl, rfl⟩
                              · skip
                                refine JL.skip (.bool rfl rfl rfl hc1070) rfl ?_
                                refine JL.skip (.bool rfl rfl rfl hc1070) rfl ?_
                                refine JL.skip (.bool rfl rfl rfl hc1070) rfl ?_
                                refine JL.skip (.bool rfl rfl rfl hc1070) rfl ?_
                                refine JL.skip (.bool rfl rfl rfl hc1070) rfl ?_
                                refine JL.skip (.bool rfl rfl rfl hc1070) rfl ?_
                                refine JL.skip (.bool rfl rfl rfl hc1070) rfl ?_
                                refine JL.skip (.bool rfl rfl rfl hc1070) rfl ?_
                                refine JL.skip (.bool rfl rfl rfl hc1070) rfl ?_
                                refine JL.skip (.bool rfl rfl rfl hc1070) rfl ?_
                                refine JL.pick_f (b := decide (0 < i_942)) rfl hc1070 (.some rfl rfl rfl hc1057) rfl ?_
                                obtain rfl := Option.some.inj hF
                                exact hJ1069 _ ⟨rfl, rfl, rfl, rfl, rfl, rfl, rfl, rfl, rfl⟩
                            · rintro f ⟨hf6, hf9, hf11, hf12, hf101, hf102, hf103, hf104, hf115⟩
                              refine (JL.norm (i := 6) hf6 (JL.norm (i := 9) hf9 (JL.norm (i := 11) hf11 (JL.norm (i := 12) hf12 (JL.norm (i := 101) hf101 (JL.norm (i := 102) hf102 (JL.norm (i := 103) hf103 (JL.norm (i := 104) hf104 (JL.norm (i := 115) hf115 ?_)))))))))
                              refine JL.pick_f (b := p1024) rfl hc1057 .none rfl ?_
                              obtain rfl := Option.some.inj hF
                              exact hJ1056 _ ⟨rfl, rfl, rfl, rfl, rfl⟩
                        · rintro f ⟨hf6, hf9, hf11, hf12, hf116⟩
                          refine (JL.norm (i := 6) hf6 (JL.norm (i := 9) hf9 (JL.norm (i := 11) hf11 (JL.norm (i := 12) hf12 (JL.norm (i := 116) hf116 ?_)))))
                          refine JL.doneQ hQ ?_
                          refine JQ.go ?_
                          rcases ite_some hF with ⟨hc1081, hF⟩ | ⟨hc1081, hF⟩
                          · refine JC.cond_t (b := p1055) rfl hc1081 ?_
                            refine JC.seq ?_
                            refine JC.region (by rfl) ?_
                            intro hQ
                            refine JL.assign .none rfl ?_
                            refine JL.done hQ ?_
                            refine JQ.go ?_
                            refine JC.ret ?_
                            refine JQ.ret_then ?_
                            refine JQ.ret_block ?_
                            refine JQ.ret_then ?_
                            refine JQ.ret_then ?_
                            refine JQ.ret_block ?_
                            refine JQ.ret_join ?_
                            refine JQ.ret_then ?_
                            obtain rfl := Option.some.inj hF
                            have ehr944 := hr944 _ rfl
                            subst ehr944
                            have hF := hKr583
                            try dsimp only at hF
                            obtain rfl := Option.some.inj hF
                            exact JQ.outS rfl (.tmp .nil) rfl
                          · refine JC.cond_f (b := p1055) rfl hc1081 ?_
                            refine JC.skip ?_
                            refine JQ.go ?_
                            refine JC.seq ?_
                            refine JC.region (by rfl) ?_
                            intro hQ
                            refine JL.move .none rfl ?_
                            refine JL.move .none rfl ?_
                            refine JL.move .none rfl ?_
                            obtain ⟨y1082, hy1082, hF⟩ := bind_some hF
                            refine JL.indexSL (R := RInt) sl_28 (SL.mono RInt.mono (HSub.trans hs14 (HSub.trans hs18 hs943)) hy10b_0) rfl hy1082 .none rfl ?_
                            rintro b1083 o1084 cs1085 hc1086 - rfl
                            refine JL.loadH 0 az_3 rfl hc1086 rfl .none rfl ?_
                            obtain ⟨y1087, hy1087, hF⟩ := bind_some hF
                            refine JL.callS (c_law05_in n H943 y17.2.1 y17b_v0 (SL.mono RInt.mono hs943 hy17b_0) y1082 y1087 hy1087) rfl en_15 .none rfl ?_
                            refine JL.not rfl .none rfl ?_
                            refine JL.move .none rfl ?_
                            obtain ⟨p1095, hp1095, hF⟩ := bind_some hF
                            refine JL.cut 11 (fun f => f 6 = y10b_v0 ∧ f 9 = y17b_v0 ∧ f 11 = .int .i64 (d.Ribs.length : Int) ∧ f 12 = .int .i64 i_942 ∧ f 135 = .bool p1095) ?_ ?_
                            · intro hJ1096
                              rcases ite_some hp1095 with ⟨hc1097, hF⟩ | ⟨hc1097, hF⟩
                              · skip
                                refine JL.move (.some rfl rfl rfl hc1097) rfl ?_
                                refine JL.move (.some rfl rfl rfl hc1097) rfl ?_
                                refine JL.move (.some rfl rfl rfl hc1097) rfl ?_
                                obtain ⟨y1098, hy1098, hF⟩ := bind_some hF
                                refine JL.indexSL (R := RInt) sl_28 (SL.mono RInt.mono (HSub.trans hs14 (HSub.trans hs18 hs943)) hy10b_0) rfl hy1098 (.some rfl rfl rfl hc1097) rfl ?_
                                rintro b1099 o1100 cs1101 hc1102 - rfl
                                refine JL.loadH 0 az_3 rfl hc1102 rfl (.some rfl rfl rfl hc1097) rfl ?_
                                refine JL.bin rfl rfl rfl (.some rfl rfl rfl hc1097) rfl ?_
                                refine JL.move (.some rfl rfl rfl hc1097) rfl ?_
                                obtain ⟨u1103, hu1103, hF⟩ := bind_some hF
                                refine JL.div rfl rfl (nz_some hu1103) rfl (.some rfl rfl rfl hc1097) rfl ?_
                                obtain ⟨y1104, hy1104, hF⟩ := bind_some hF
                                refine JL.callS (c_law05_in n H943 y10.2.1 y10b_v0 (SL.mono RInt.mono (HSub.trans hs14 (HSub.trans hs18 hs943)) hy10b_0) ((w64 (y1098 + 1)).tmod (d.Ribs.length : Int)) y1104 hy1104) rfl en_15 (.some rfl rfl rfl hc1097) rfl ?_
                                refine JL.not rfl (.some rfl rfl rfl hc1097) rfl ?_
                                refine JL.pick_t (b := (!y1087)) rfl hc1097 .none rfl ?_
                                obtain rfl := Option.some.inj hF
                                exact hJ1096 _ ⟨rfl, rfl, rfl, rfl, rfl⟩
                              · skip
                                refine JL.skip (.bool rfl rfl rfl hc1097) rfl ?_
                                refine JL.skip (.bool rfl rfl rfl hc1097) rfl ?_
                                refine JL.skip (.bool rfl rfl rfl hc1097) rfl ?_
                                refine JL.skip (.bool rfl rfl rfl hc1097) rfl ?_
                                refine JL.skip (.bool rfl rfl rfl hc1097) rfl ?_
                                refine JL.skip (.bool rfl rfl rfl hc1097) rfl ?_
                                refine JL.skip (.bool rfl rfl rfl hc1097) rfl ?_
                                refine JL.skip (.bool rfl rfl rfl hc1097) rfl ?_
                                refine JL.skip (.bool rfl rfl rfl hc1097) rfl ?_
                                refine JL.skip (.bool rfl rfl rfl hc1097) rfl ?_
                                refine JL.pick_f (b := (!y1087)) rfl hc1097 .none rfl ?_
                                obtain rfl := Option.some.inj hF
                                exact hJ1096 _ ⟨rfl, rfl, rfl, rfl, rfl⟩
                            · rintro f ⟨hf6, hf9, hf11, hf12, hf135⟩
                              refine (JL.norm (i := 6) hf6 (JL.norm (i := 9) hf9 (JL.norm (i := 11) hf11 (JL.norm (i := 12) hf12 (JL.norm (i := 135) hf135 ?_)))))
                              refine JL.move .none rfl ?_
                              obtain ⟨p1112, hp1112, hF⟩ := bind_some hF
                              refine JL.cut 13 (fun f => f 6 = y10b_v0 ∧ f 9 = y17b_v0 ∧ f 11 = .int .i64 (d.Ribs.length : Int) ∧ f 12 = .int .i64 i_942 ∧ f 149 = .bool p1112) ?_ ?_
                              · intro hJ1113
                                rcases ite_some hp1112 with ⟨hc1114, hF⟩ | ⟨hc1114, hF⟩
                                · skip
                                  refine JL.move (.some rfl rfl rfl hc1114) rfl ?_
                                  refine JL.move (.some rfl rfl rfl hc1114) rfl ?_
                                  refine JL.move (.some rfl rfl rfl hc1114) rfl ?_
                                  obtain ⟨y1115, hy1115, hF⟩ := bind_some hF
                                  refine JL.indexSL (R := RInt) sl_28 (SL.mono RInt.mono (HSub.trans hs14 (HSub.trans hs18 hs943)) hy10b_0) rfl hy1115 (.some rfl rfl rfl hc1114) rfl ?_
                                  rintro b1116 o1117 cs1118 hc1119 - rfl
                                  refine JL.loadH 0 az_3 rfl hc1119 rfl (.some rfl rfl rfl hc1114) rfl ?_
                                  refine JL.move (.some rfl rfl rfl hc1114) rfl ?_
                                  refine JL.bin rfl rfl rfl (.some rfl rfl rfl hc1114) rfl ?_
                                  refine JL.bin rfl rfl rfl (.some rfl rfl rfl hc1114) rfl ?_
                                  refine JL.move (.some rfl rfl rfl hc1114) rfl ?_
                                  obtain ⟨u1120, hu1120, hF⟩ := bind_some hF
                                  refine JL.div rfl rfl (nz_some hu1120) rfl (.some rfl rfl rfl hc1114) rfl ?_
                                  obtain ⟨y1121, hy1121, hF⟩ := bind_some hF
                                  refine JL.callS (c_law05_in n H943 y10.2.1 y10b_v0 (SL.mono RInt.mono (HSub.trans hs14 (HSub.trans hs18 hs943)) hy10b_0) ((w64 ((w64 (y1115 + (d.Ribs.length : Int))) - 1)).tmod (d.Ribs.length : Int)) y1121 hy1121) rfl en_15 (.some rfl rfl rfl hc1114) rfl ?_
                                  refine JL.not rfl (.some rfl rfl rfl hc1114) rfl ?_
                                  refine JL.pick_t (b := p1095) rfl hc1114 .none rfl ?_
                                  obtain rfl := Option.some.inj hF
                                  exact hJ1113 _ ⟨rfl, rfl, rfl, rfl, rfl⟩
                                · skip
                                  refine JL.skip (.bool rfl rfl rfl hc1114) rfl ?_
                                  refine JL.skip (.bool rfl rfl rfl hc1114) rfl ?_
                                  refine JL.skip (.bool rfl rfl rfl hc1114) rfl ?_
                                  refine JL.skip (.bool rfl rfl rfl hc1114) rfl ?_
                                  refine JL.skip (.bool rfl rfl rfl hc1114) rfl ?_
                                  refine JL.skip (.bool rfl rfl rfl hc1114) rfl ?_
                                  refine JL.skip (.bool rfl rfl rfl hc1114) rfl ?_
                                  refine JL.skip (.bool rfl rfl rfl hc1114) rfl ?_
                                  refine JL.skip (.bool rfl rfl rfl hc1114) rfl ?_
                                  refine JL.skip (.bool rfl rfl rfl hc1114) rfl ?_
                                  refine JL.skip (.bool rfl rfl rfl hc1114) rfl ?_
                                  refine JL.skip (.bool rfl rfl rfl hc1114) rfl ?_
                                  refine JL.pick_f (b := p1095) rfl hc1114 .none rfl ?_
                                  obtain rfl := Option.some.inj hF
                                  exact hJ1113 _ ⟨rfl, rfl, rfl, rfl, rfl⟩
                              · rintro f ⟨hf6, hf9, hf11, hf12, hf149⟩
                                refine (JL.norm (i := 6) hf6 (JL.norm (i := 9) hf9 (JL.norm (i := 11) hf11 (JL.norm (i := 12) hf12 (JL.norm (i := 149) hf149 ?_)))))
                                refine JL.done hQ ?_
                                refine JQ.go ?_
                                rcases ite_some hF with ⟨hc1122, hF⟩ | ⟨hc1122, hF⟩
                                · refine JC.cond_t (b := p1112) rfl hc1122 ?_
                                  refine JC.seq ?_
                                  refine JC.region (by rfl) ?_
                                  intro hQ
                                  refine JL.assign .none rfl ?_
                                  refine JL.done hQ ?_
                                  refine JQ.go ?_
                                  refine JC.ret ?_
                                  refine JQ.ret_block ?_
                                  refine JQ.ret_then ?_
                                  refine JQ.ret_then ?_
                                  refine JQ.ret_block ?_
                                  refine JQ.ret_join ?_
                                  refine JQ.ret_then ?_
                                  obtain rfl := Option.some.inj hF
                                  have ehr944 := hr944 _ rfl
                                  subst ehr944
                                  have hF := hKr583
                                  try dsimp only at hF
                                  obtain rfl := Option.some.inj hF
                                  exact JQ.outS rfl (.tmp .nil) rfl
                                · refine JC.cond_f (b := p1112) rfl hc1122 ?_
                                  refine JC.skip ?_
                                  refine JQ.normal_block ?_
                                  refine JQ.go ?_
                                  refine JC.region (by rfl) ?_
                                  intro hQ
                                  refine JL.move .none rfl ?_
                                  refine JL.bin rfl rfl rfl .none rfl ?_
                                  refine JL.assign .none rfl ?_
                                  refine JL.done hQ ?_
                                  obtain rfl := Option.some.inj hF
                                  exact JQ.next rfl ⟨rfl, rfl, rfl, rfl, rfl, rfl, hs943⟩
                    · refine JC.cond_f (b := decide (i_942 < (y10.2.1.length : Int))) rfl hc946 ?_
                      refine JC.exit ?_
                      refine JQ.exit_then ?_
                      refine JQ.exit_then ?_
                      refine JQ.exit_block ?_
                      obtain rfl := Option.some.inj hF
                      have ehr944 := hr944 _ rfl
                      subst ehr944
                      exact JQ.join () ⟨rfl, rfl, hs943, rfl⟩
                  · rintro _ H582 f bs gs ⟨rfl, rfl, hs582, rfl⟩
                    have hF := hKr583
                    try dsimp only at hF
                    refine JQ.go ?_
                    refine JC.seq ?_
                    refine JC.region (by rfl) ?_
                    intro hQ
                    obtain ⟨y1123, hy1123, hF⟩ := bind_some hF
                    refine JL.callS (c_law05_works n H582 y1123 hy1123) rfl en_12 .none rfl ?_
                    refine JL.assign .none rfl ?_
                    refine JL.done hQ ?_
                    refine JQ.go ?_
                    refine JC.ret ?_
                    obtain rfl := Option.some.inj hF
                    exact JQ.outS rfl (.tmp .nil) rfl

end Go.Proofs.Ytcpnnfdhafbemaa
