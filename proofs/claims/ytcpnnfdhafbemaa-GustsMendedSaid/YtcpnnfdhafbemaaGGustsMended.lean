/-
  Printed by a program: functions of the translation as plain functions, and their contracts.
-/
import Derived.Test.YtcpnnfdhafbemaaGenK14
namespace Go.Proofs.Ytcpnnfdhafbemaa
open Go Go.RowKit Go.Dec
set_option linter.unusedVariables false
-- 9 ferrule/ferrulelaw05.GustsMended
def F_law05_GustsMended_s1 (n : Nat) (d : Canopy) (y15 : (List Int) × Int) : Int × List Span → Option ((Int × List Span) ⊕ (Bool ⊕ (List Span)))
  | (i_406, out_407) => if decide (i_406 < (y15.1.length : Int)) = true then ((geti y15.1 i_406).bind fun y418 => (F_ref05_IsRib n d y418).bind fun y423 => if (!y423) = true then (some (Sum.inr (Sum.inl false))) else ((geti y15.1 i_406).bind fun y433 => (geti out_407 y433).bind fun y438 => some (Sum.inl ((w64 (i_406 + 1)), (setx out_407 y433 (Span.mk 99999 99999)))))) else (some (Sum.inr (Sum.inr out_407)))
def F_law05_GustsMended (n : Nat) (d : Canopy) (class_ : List Gust) (x_ : law05_Left) : Option Bool :=
  (F_law05_ready n d class_).bind fun y3 => (if (!y3) = true then (some true) else ((F_ref05_IsRib n d x_.At).bind fun y8 => some (!y8)) : Option Bool).bind fun p5 => if p5 = true then ((F_law05_works n).bind fun y10 => some y10) else ((F_gusts_Stands n d class_).bind fun y11 => (F_gusts_First n d class_).bind fun y12 => (F_gusts_Weak n d class_).bind fun y15 => (if (((((y11.2 != 0) || ((y12.2.2 != 0) && (y12.2.2 != 3))) || (y15.2 != 0)) || ((y11.1 == 1) != (y12.2.2 == 3))) || ((y11.1 == 1) != ((y15.1.length : Int) == 0))) = true then (some true) else ((F_law05_subset n y12.2.1 y15.1).bind fun y34 => some (!y34)) : Option Bool).bind fun p31 => if (p31 || (decide ((d.Ribs.length : Int) < (y15.1.length : Int)))) = true then (some false) else ((F_ref05_Copy n d).bind fun y38 => (loopO n (F_law05_GustsMended_s1 n d y15) (0, y38.Ribs)).bind fun r263 => match r263 with | .inl o => some o | .inr out_261 => (F_gusts_Stands n (Canopy.mk y38.Frame out_261 y38.Shares) class_).bind fun y482 => if ((y482.2 != 0) || (y482.1 != 1)) = true then (some false) else ((if ((decide (0 ≤ x_.Place)) && (decide (x_.Place < (y15.1.length : Int)))) = true then ((geti y15.1 x_.Place).bind fun y639 => (geti y15.1 x_.Place).bind fun y644 => (geti d.Ribs y644).bind fun y649 => (geti out_261 y639).bind fun y654 => (F_gusts_Stands n (Canopy.mk y38.Frame (setx out_261 y639 y649) y38.Shares) class_).bind fun y746 => if ((y746.2 != 0) || (y746.1 == 1)) = true then (some (Sum.inl false)) else (some (Sum.inr ()))) else (some (Sum.inr ()))).bind fun r619 => match r619 with | .inl o => some o | .inr _ => (F_gusts_Most n d x_.At).bind fun y750 => if (((y750.2 != 0) || (decide (y750.1 < 0))) || (decide (99 < y750.1))) = true then (some false) else ((F_gusts_Stands n d [(Gust.mk y750.1 x_.At)]).bind fun y760 => if ((y760.2 != 0) || (y760.1 != 1)) = true then (some false) else (if decide (y750.1 < 99) = true then ((F_gusts_Stands n d [(Gust.mk (w64 (y750.1 + 1)) x_.At)]).bind fun y769 => (if ((y769.2 == 0) && (y769.1 != 1)) = true then ((F_law05_works n).bind fun y776 => some y776) else (some false) : Option Bool).bind fun p773 => some p773) else ((F_law05_works n).bind fun y777 => some y777))))))
set_option maxRecDepth 100000 in
set_option maxHeartbeats 40000000 in
theorem c_law05_GustsMended (n : Nat) (H : Hp) (d : Canopy) (d_v0 : Value) (hd_0 : SL H 7 R_Section d_v0 d.Frame.Sections) (d_v7 : Value) (hd_7 : SL H 2 R_Span d_v7 d.Ribs) (d_v8 : Value) (hd_8 : SL H 1 RInt d_v8 d.Shares) (class_ : List Gust) (class__v0 : Value) (hclass__0 : SL H 2 R_Gust class__v0 class_) (x_ : law05_Left) (y : Bool) (hF : F_law05_GustsMended n d class_ x_ = some y) : SC Try.prog 9 [.agg [d_v0, .int .i64 d.Frame.Low, .int .i64 d.Frame.High, .int .i64 d.Frame.Ease.Num, .int .i64 d.Frame.Ease.Den, .int .i64 d.Frame.Rod, .int .i64 d.Frame.Case, d_v7, d_v8].toArray, class__v0, .agg [.int .i64 x_.Place, .int .i64 x_.At].toArray] (.bool y) H := by
  rw [F_law05_GustsMended] at hF
  refine SC.of (N := 228) Try.func9 rfl rfl rfl fun w => ?_
  refine JC.seq ?_
  refine JC.region (by rfl) ?_
  intro hQ
  refine JL.box (cs := [d_v0, .int .i64 d.Frame.Low, .int .i64 d.Frame.High, .int .i64 d.Frame.Ease.Num, .int .i64 d.Frame.Ease.Den, .int .i64 d.Frame.Rod, .int .i64 d.Frame.Case, d_v7, d_v8]) rfl .none rfl ?_
  intro b1
  refine JL.box (cs := [.int .i64 x_.Place, .int .i64 x_.At]) rfl .none rfl ?_
  intro b2
  refine JL.assign .none rfl ?_
  refine JL.done hQ ?_
  refine JQ.go ?_
  refine JC.seq ?_
  refine JC.seq ?_
  refine JC.region (by rfl) ?_
  intro hQ
  refine JL.loadOwn 1 az_30 rfl rfl rfl .none rfl ?_
  refine JL.move .none rfl ?_
  obtain ⟨y3, hy3, hF⟩ := bind_some hF
  refine JL.callS (c_law05_ready n H d d_v0 hd_0 d_v7 hd_7 d_v8 hd_8 class_ class__v0 hclass__0 y3 hy3) rfl en_11 .none rfl ?_
  refine JL.not rfl .none rfl ?_
  refine JL.move .none rfl ?_
  obtain ⟨p5, hp5, hF⟩ := bind_some hF
  refine JL.cut 6 (fun f => f 1 = class__v0 ∧ f 3 = .pointer (some ⟨b1, 0, none⟩) ∧ f 5 = .pointer (some ⟨b2, 0, none⟩) ∧ f 34 = .bool p5) ?_ ?_
  · intro hJ6
    rcases ite_some hp5 with ⟨hc7, hF⟩ | ⟨hc7, hF⟩
    · skip
      refine JL.skip (.bool rfl rfl rfl hc7) rfl ?_
      refine JL.skip (.bool rfl rfl rfl hc7) rfl ?_
      refine JL.skip (.bool rfl rfl rfl hc7) rfl ?_
      refine JL.skip (.bool rfl rfl rfl hc7) rfl ?_
      refine JL.skip (.bool rfl rfl rfl hc7) rfl ?_
      refine JL.pick_t (b := (!y3)) rfl hc7 .none rfl ?_
      obtain rfl := Option.some.inj hF
      exact hJ6 _ ⟨rfl, rfl, rfl, rfl⟩
    · skip
      refine JL.loadOwn 1 az_30 rfl rfl rfl (.some rfl rfl rfl hc7) rfl ?_
      refine JL.fieldAddr fo_69_1 rfl (.some rfl rfl rfl hc7) rfl ?_
      refine JL.loadOwn 0 az_3 rfl rfl rfl (.some rfl rfl rfl hc7) rfl ?_
      obtain ⟨y8, hy8, hF⟩ := bind_some hF
      refine JL.callS (c_ref05_IsRib n H d d_v0 hd_0 d_v7 hd_7 d_v8 hd_8 x_.At y8 hy8) rfl en_28 (.some rfl rfl rfl hc7) rfl ?_
      refine JL.not rfl (.some rfl rfl rfl hc7) rfl ?_
      refine JL.pick_f (b := (!y3)) rfl hc7 .none rfl ?_
      obtain rfl := Option.some.inj hF
      exact hJ6 _ ⟨rfl, rfl, rfl, rfl⟩
  · rintro f ⟨hf1, hf3, hf5, hf34⟩
    refine (JL.norm (i := 1) hf1 (JL.norm (i := 3) hf3 (JL.norm (i := 5) hf5 (JL.norm (i := 34) hf34 ?_))))
    refine JL.done hQ ?_
    refine JQ.go ?_
    rcases ite_some hF with ⟨hc9, hF⟩ | ⟨hc9, hF⟩
    · refine JC.cond_t (b := p5) rfl hc9 ?_
      refine JC.seq ?_
      refine JC.region (by rfl) ?_
      intro hQ
      obtain ⟨y10, hy10, hF⟩ := bind_some hF
      refine JL.callS (c_law05_works n H y10 hy10) rfl en_12 .none rfl ?_
      refine JL.assign .none rfl ?_
      refine JL.done hQ ?_
      refine JQ.go ?_
      refine JC.ret ?_
      refine JQ.ret_then ?_
      obtain rfl := Option.some.inj hF
      exact JQ.outS rfl (.tmp .nil) rfl
    · refine JC.cond_f (b := p5) rfl hc9 ?_
      refine JC.skip ?_
      refine JQ.go ?_
      refine JC.seq ?_
      refine JC.region (by rfl) ?_
      intro hQ
      refine JL.loadOwn 1 az_30 rfl rfl rfl .none rfl ?_
      refine JL.move .none rfl ?_
      obtain ⟨y11, hy11, hF⟩ := bind_some hF
      refine JL.callS (c_gusts_Stands n H d d_v0 hd_0 d_v7 hd_7 d_v8 hd_8 class_ class__v0 hclass__0 y11 hy11) rfl en_29 .none rfl ?_
      refine JL.move .none rfl ?_
      refine JL.extract rfl rfl .none rfl ?_
      refine JL.extract rfl rfl .none rfl ?_
      refine JL.assign .none rfl ?_
      refine JL.assign .none rfl ?_
      refine JL.done hQ ?_
      refine JQ.go ?_
      refine JC.seq ?_
      refine JC.region (by rfl) ?_
      intro hQ
      refine JL.loadOwn 1 az_30 rfl rfl rfl .none rfl ?_
      refine JL.move .none rfl ?_
      obtain ⟨y12, hy12, hF⟩ := bind_some hF
      refine JL.callH (c_gusts_First n H d d_v0 hd_0 d_v7 hd_7 d_v8 hd_8 class_ class__v0 hclass__0 y12 hy12) rfl en_26 .none rfl ?_
      rintro H13 vv14 hs13 ⟨y12b_v0, rfl, hy12b_0⟩
      refine JL.move .none rfl ?_
      refine JL.extract rfl rfl .none rfl ?_
      refine JL.extract rfl rfl .none rfl ?_
      refine JL.extract rfl rfl .none rfl ?_
      refine JL.assign .none rfl ?_
      refine JL.assign .none rfl ?_
      refine JL.assign .none rfl ?_
      refine JL.done hQ ?_
      refine JQ.go ?_
      refine JC.fresh (fun f => f 1 = class__v0 ∧ f 3 = .pointer (some ⟨b1, 0, none⟩) ∧ f 5 = .pointer (some ⟨b2, 0, none⟩) ∧ f 7 = .int .i64 y11.1 ∧ f 8 = .int .i64 y11.2 ∧ f 10 = y12b_v0 ∧ f 11 = .int .i64 y12.2.2) ⟨rfl, rfl, rfl, rfl, rfl, rfl, rfl⟩ ?_
      rintro f ⟨hf1, hf3, hf5, hf7, hf8, hf10, hf11⟩
      refine (JC.norm (i := 1) hf1 (JC.norm (i := 3) hf3 (JC.norm (i := 5) hf5 (JC.norm (i := 7) hf7 (JC.norm (i := 8) hf8 (JC.norm (i := 10) hf10 (JC.norm (i := 11) hf11 ?_)))))))
      refine JC.seq ?_
      refine JC.region (by rfl) ?_
      intro hQ
      refine JL.loadOwn 1 az_30 rfl rfl rfl .none rfl ?_
      refine JL.move .none rfl ?_
      obtain ⟨y15, hy15, hF⟩ := bind_some hF
      refine JL.callH (c_gusts_Weak n H13 d d_v0 (SL.mono R_Section_mono hs13 hd_0) d_v7 (SL.mono R_Span_mono hs13 hd_7) d_v8 (SL.mono RInt.mono hs13 hd_8) class_ class__v0 (SL.mono R_Gust_mono hs13 hclass__0) y15 hy15) rfl en_31 .none rfl ?_
      rintro H16 vv17 hs16 ⟨y15a_v0, rfl, hy15a_0⟩
      refine JL.move .none rfl ?_
      refine JL.extract rfl rfl .none rfl ?_
      refine JL.extract rfl rfl .none rfl ?_
      refine JL.assign .none rfl ?_
      refine JL.assign .none rfl ?_
      refine JL.done hQ ?_
      refine JQ.go ?_
      refine JC.seq ?_
      refine JC.seq ?_
      refine JC.region (by rfl) ?_
      intro hQ
      refine JL.move .none rfl ?_
      refine JL.bin rfl rfl rfl .none rfl ?_
      refine JL.move .none rfl ?_
      refine JL.cut 7 (fun f => f 1 = class__v0 ∧ f 3 = .pointer (some ⟨b1, 0, none⟩) ∧ f 5 = .pointer (some ⟨b2, 0, none⟩) ∧ f 7 = .int .i64 y11.1 ∧ f 10 = y12b_v0 ∧ f 11 = .int .i64 y12.2.2 ∧ f 12 = y15a_v0 ∧ f 13 = .int .i64 y15.2 ∧ f 64 = .bool ((y11.2 != 0) || ((y12.2.2 != 0) && (y12.2.2 != 3)))) ?_ ?_
      · intro hJ20
        rcases bcases (y11.2 != 0) with hc21 | hc21
        · skip
          refine JL.skip (.bool rfl rfl rfl hc21) rfl ?_
          refine JL.skip (.bool rfl rfl rfl hc21) rfl ?_
          refine JL.skip (.bool rfl rfl rfl hc21) rfl ?_
          refine JL.skip (.no rfl rfl rfl) rfl ?_
          refine JL.skip (.no rfl rfl rfl) rfl ?_
          refine JL.skip (.bool rfl rfl rfl hc21) rfl ?_
          refine JL.pick_t (b := (y11.2 != 0)) rfl hc21 .none rfl ?_
          exact hJ20 _ ⟨rfl, rfl, rfl, rfl, rfl, rfl, rfl, rfl, or_t hc21 rfl⟩
        · skip
          refine JL.move (.some rfl rfl rfl hc21) rfl ?_
          refine JL.bin rfl rfl rfl (.some rfl rfl rfl hc21) rfl ?_
          refine JL.move (.some rfl rfl rfl hc21) rfl ?_
          refine JL.cut 3 (fun f => f 1 = class__v0 ∧ f 3 = .pointer (some ⟨b1, 0, none⟩) ∧ f 5 = .pointer (some ⟨b2, 0, none⟩) ∧ f 7 = .int .i64 y11.1 ∧ f 10 = y12b_v0 ∧ f 11 = .int .i64 y12.2.2 ∧ f 12 = y15a_v0 ∧ f 13 = .int .i64 y15.2 ∧ f 57 = .bool (y11.2 != 0) ∧ f 63 = .bool ((y12.2.2 != 0) && (y12.2.2 != 3))) ?_ ?_
          · intro hJ22
            rcases bcases (y12.2.2 != 0) with hc23 | hc23
            · skip
              refine JL.move (.some rfl rfl rfl hc23) rfl ?_
              refine JL.bin rfl rfl rfl (.some rfl rfl rfl hc23) rfl ?_
              refine JL.pick_t (b := (y12.2.2 != 0)) rfl hc23 (.some rfl rfl rfl hc21) rfl ?_
              exact hJ22 _ ⟨rfl, rfl, rfl, rfl, rfl, rfl, rfl, rfl, rfl, and_t hc23 rfl⟩
            · skip
              refine JL.skip (.bool rfl rfl rfl hc23) rfl ?_
              refine JL.skip (.bool rfl rfl rfl hc23) rfl ?_
              refine JL.pick_f (b := (y12.2.2 != 0)) rfl hc23 (.some rfl rfl rfl hc21) rfl ?_
              exact hJ22 _ ⟨rfl, rfl, rfl, rfl, rfl, rfl, rfl, rfl, rfl, and_f hc23 rfl⟩
          · rintro f ⟨hf1, hf3, hf5, hf7, hf10, hf11, hf12, hf13, hf57, hf63⟩
            refine (JL.norm (i := 1) hf1 (JL.norm (i := 3) hf3 (JL.norm (i := 5) hf5 (JL.norm (i := 7) hf7 (JL.norm (i := 10) hf10 (JL.norm (i := 11) hf11 (JL.norm (i := 12) hf12 (JL.norm (i := 13) hf13 (JL.norm (i := 57) hf57 (JL.norm (i := 63) hf63 ?_))))))))))
            refine JL.pick_f (b := (y11.2 != 0)) rfl hc21 .none rfl ?_
            exact hJ20 _ ⟨rfl, rfl, rfl, rfl, rfl, rfl, rfl, rfl, or_f hc21 rfl⟩
      · rintro f ⟨hf1, hf3, hf5, hf7, hf10, hf11, hf12, hf13, hf64⟩
        refine (JL.norm (i := 1) hf1 (JL.norm (i := 3) hf3 (JL.norm (i := 5) hf5 (JL.norm (i := 7) hf7 (JL.norm (i := 10) hf10 (JL.norm (i := 11) hf11 (JL.norm (i := 12) hf12 (JL.norm (i := 13) hf13 (JL.norm (i := 64) hf64 ?_)))))))))
        refine JL.move .none rfl ?_
        refine JL.cut 3 (fun f => f 1 = class__v0 ∧ f 3 = .pointer (some ⟨b1, 0, none⟩) ∧ f 5 = .pointer (some ⟨b2, 0, none⟩) ∧ f 7 = .int .i64 y11.1 ∧ f 10 = y12b_v0 ∧ f 11 = .int .i64 y12.2.2 ∧ f 12 = y15a_v0 ∧ f 68 = .bool (((y11.2 != 0) || ((y12.2.2 != 0) && (y12.2.2 != 3))) || (y15.2 != 0))) ?_ ?_
        · intro hJ24
          rcases bcases ((y11.2 != 0) || ((y12.2.2 != 0) && (y12.2.2 != 3))) with hc25 | hc25
          · skip
            refine JL.skip (.bool rfl rfl rfl hc25) rfl ?_
            refine JL.skip (.bool rfl rfl rfl hc25) rfl ?_
            refine JL.pick_t (b := ((y11.2 != 0) || ((y12.2.2 != 0) && (y12.2.2 != 3)))) rfl hc25 .none rfl ?_
            exact hJ24 _ ⟨rfl, rfl, rfl, rfl, rfl, rfl, rfl, or_t hc25 rfl⟩
          · skip
            refine JL.move (.some rfl rfl rfl hc25) rfl ?_
            refine JL.bin rfl rfl rfl (.some rfl rfl rfl hc25) rfl ?_
            refine JL.pick_f (b := ((y11.2 != 0) || ((y12.2.2 != 0) && (y12.2.2 != 3)))) rfl hc25 .none rfl ?_
            exact hJ24 _ ⟨rfl, rfl, rfl, rfl, rfl, rfl, rfl, or_f hc25 rfl⟩
        · rintro f ⟨hf1, hf3, hf5, hf7, hf10, hf11, hf12, hf68⟩
          refine (JL.norm (i := 1) hf1 (JL.norm (i := 3) hf3 (JL.norm (i := 5) hf5 (JL.norm (i := 7) hf7 (JL.norm (i := 10) hf10 (JL.norm (i := 11) hf11 (JL.norm (i := 12) hf12 (JL.norm (i := 68) hf68 ?_))))))))
          refine JL.move .none rfl ?_
          refine JL.cut 6 (fun f => f 1 = class__v0 ∧ f 3 = .pointer (some ⟨b1, 0, none⟩) ∧ f 5 = .pointer (some ⟨b2, 0, none⟩) ∧ f 7 = .int .i64 y11.1 ∧ f 10 = y12b_v0 ∧ f 12 = y15a_v0 ∧ f 75 = .bool ((((y11.2 != 0) || ((y12.2.2 != 0) && (y12.2.2 != 3))) || (y15.2 != 0)) || ((y11.1 == 1) != (y12.2.2 == 3)))) ?_ ?_
          · intro hJ26
            rcases bcases (((y11.2 != 0) || ((y12.2.2 != 0) && (y12.2.2 != 3))) || (y15.2 != 0)) with hc27 | hc27
            · skip
              refine JL.skip (.bool rfl rfl rfl hc27) rfl ?_
              refine JL.skip (.bool rfl rfl rfl hc27) rfl ?_
              refine JL.skip (.bool rfl rfl rfl hc27) rfl ?_
              refine JL.skip (.bool rfl rfl rfl hc27) rfl ?_
              refine JL.skip (.bool rfl rfl rfl hc27) rfl ?_
              refine JL.pick_t (b := (((y11.2 != 0) || ((y12.2.2 != 0) && (y12.2.2 != 3))) || (y15.2 != 0))) rfl hc27 .none rfl ?_
              exact hJ26 _ ⟨rfl, rfl, rfl, rfl, rfl, rfl, or_t hc27 rfl⟩
            · skip
              refine JL.move (.some rfl rfl rfl hc27) rfl ?_
              refine JL.bin rfl rfl rfl (.some rfl rfl rfl hc27) rfl ?_
              refine JL.move (.some rfl rfl rfl hc27) rfl ?_
              refine JL.bin rfl rfl rfl (.some rfl rfl rfl hc27) rfl ?_
              refine JL.neBool ub_4 rfl rfl (.some rfl rfl rfl hc27) rfl ?_
              refine JL.pick_f (b := (((y11.2 != 0) || ((y12.2.2 != 0) && (y12.2.2 != 3))) || (y15.2 != 0))) rfl hc27 .none rfl ?_
              exact hJ26 _ ⟨rfl, rfl, rfl, rfl, rfl, rfl, or_f hc27 rfl⟩
          · rintro f ⟨hf1, hf3, hf5, hf7, hf10, hf12, hf75⟩
            refine (JL.norm (i := 1) hf1 (JL.norm (i := 3) hf3 (JL.norm (i := 5) hf5 (JL.norm (i := 7) hf7 (JL.norm (i := 10) hf10 (JL.norm (i := 12) hf12 (JL.norm (i := 75) hf75 ?_)))))))
            refine JL.move .none rfl ?_
            refine JL.cut 7 (fun f => f 1 = class__v0 ∧ f 3 = .pointer (some ⟨b1, 0, none⟩) ∧ f 5 = .pointer (some ⟨b2, 0, none⟩) ∧ f 10 = y12b_v0 ∧ f 12 = y15a_v0 ∧ f 83 = .bool (((((y11.2 != 0) || ((y12.2.2 != 0) && (y12.2.2 != 3))) || (y15.2 != 0)) || ((y11.1 == 1) != (y12.2.2 == 3))) || ((y11.1 == 1) != ((y15.1.length : Int) == 0)))) ?_ ?_
            · intro hJ28
              rcases bcases ((((y11.2 != 0) || ((y12.2.2 != 0) && (y12.2.2 != 3))) || (y15.2 != 0)) || ((y11.1 == 1) != (y12.2.2 == 3))) with hc29 | hc29
              · skip
                refine JL.skip (.bool rfl rfl rfl hc29) rfl ?_
                refine JL.skip (.bool rfl rfl rfl hc29) rfl ?_
                refine JL.skip (.bool rfl rfl rfl hc29) rfl ?_
                refine JL.skip (.bool rfl rfl rfl hc29) rfl ?_
                refine JL.skip (.bool rfl rfl rfl hc29) rfl ?_
                refine JL.skip (.bool rfl rfl rfl hc29) rfl ?_
                refine JL.pick_t (b := ((((y11.2 != 0) || ((y12.2.2 != 0) && (y12.2.2 != 3))) || (y15.2 != 0)) || ((y11.1 == 1) != (y12.2.2 == 3)))) rfl hc29 .none rfl ?_
                exact hJ28 _ ⟨rfl, rfl, rfl, rfl, rfl, or_t hc29 rfl⟩
              · skip
                refine JL.move (.some rfl rfl rfl hc29) rfl ?_
                refine JL.bin rfl rfl rfl (.some rfl rfl rfl hc29) rfl ?_
                refine JL.move (.some rfl rfl rfl hc29) rfl ?_
                refine JL.lenSL (R := RInt) ul_28 hy15a_0 (.some rfl rfl rfl hc29) rfl ?_
                refine JL.bin rfl rfl rfl (.some rfl rfl rfl hc29) rfl ?_
                refine JL.neBool ub_4 rfl rfl (.some rfl rfl rfl hc29) rfl ?_
                refine JL.pick_f (b := ((((y11.2 != 0) || ((y12.2.2 != 0) && (y12.2.2 != 3))) || (y15.2 != 0)) || ((y11.1 == 1) != (y12.2.2 == 3)))) rfl hc29 .none rfl ?_
                exact hJ28 _ ⟨rfl, rfl, rfl, rfl, rfl, or_f hc29 rfl⟩
            · rintro f ⟨hf1, hf3, hf5, hf10, hf12, hf83⟩
              refine (JL.norm (i := 1) hf1 (JL.norm (i := 3) hf3 (JL.norm (i := 5) hf5 (JL.norm (i := 10) hf10 (JL.norm (i := 12) hf12 (JL.norm (i := 83) hf83 ?_))))))
              refine JL.move .none rfl ?_
              obtain ⟨p31, hp31, hF⟩ := bind_some hF
              refine JL.cut 5 (fun f => f 1 = class__v0 ∧ f 3 = .pointer (some ⟨b1, 0, none⟩) ∧ f 5 = .pointer (some ⟨b2, 0, none⟩) ∧ f 12 = y15a_v0 ∧ f 89 = .bool p31) ?_ ?_
              · intro hJ32
                rcases ite_some hp31 with ⟨hc33, hF⟩ | ⟨hc33, hF⟩
                · skip
                  refine JL.skip (.bool rfl rfl rfl hc33) rfl ?_
                  refine JL.skip (.bool rfl rfl rfl hc33) rfl ?_
                  refine JL.skip (.bool rfl rfl rfl hc33) rfl ?_
                  refine JL.skip (.bool rfl rfl rfl hc33) rfl ?_
                  refine JL.pick_t (b := (((((y11.2 != 0) || ((y12.2.2 != 0) && (y12.2.2 != 3))) || (y15.2 != 0)) || ((y11.1 == 1) != (y12.2.2 == 3))) || ((y11.1 == 1) != ((y15.1.length : Int) == 0)))) rfl hc33 .none rfl ?_
                  obtain rfl := Option.some.inj hF
                  exact hJ32 _ ⟨rfl, rfl, rfl, rfl, rfl⟩
                · skip
                  refine JL.move (.some rfl rfl rfl hc33) rfl ?_
                  refine JL.move (.some rfl rfl rfl hc33) rfl ?_
                  obtain ⟨y34, hy34, hF⟩ := bind_some hF
                  refine JL.callS (c_law05_subset n H16 y12.2.1 y12b_v0 (SL.mono RInt.mono hs16 hy12b_0) y15.1 y15a_v0 hy15a_0 y34 hy34) rfl en_27 (.some rfl rfl rfl hc33) rfl ?_
                  refine JL.not rfl (.some rfl rfl rfl hc33) rfl ?_
                  refine JL.pick_f (b := (((((y11.2 != 0) || ((y12.2.2 != 0) && (y12.2.2 != 3))) || (y15.2 != 0)) || ((y11.1 == 1) != (y12.2.2 == 3))) || ((y11.1 == 1) != ((y15.1.length : Int) == 0)))) rfl hc33 .none rfl ?_
                  obtain rfl := Option.some.inj hF
                  exact hJ32 _ ⟨rfl, rfl, rfl, rfl, rfl⟩
              · rintro f ⟨hf1, hf3, hf5, hf12, hf89⟩
                refine (JL.norm (i := 1) hf1 (JL.norm (i := 3) hf3 (JL.norm (i := 5) hf5 (JL.norm (i := 12) hf12 (JL.norm (i := 89) hf89 ?_)))))
                refine JL.move .none rfl ?_
                refine JL.cut 7 (fun f => f 1 = class__v0 ∧ f 3 = .pointer (some ⟨b1, 0, none⟩) ∧ f 5 = .pointer (some ⟨b2, 0, none⟩) ∧ f 12 = y15a_v0 ∧ f 97 = .bool (p31 || (decide ((d.Ribs.length : Int) < (y15.1.length : Int))))) ?_ ?_
                · intro hJ35
                  rcases bcases p31 with hc36 | hc36
                  · skip
                    refine JL.skip (.bool rfl rfl rfl hc36) rfl ?_
                    refine JL.skip (.bool rfl rfl rfl hc36) rfl ?_
                    refine JL.skip (.bool rfl rfl rfl hc36) rfl ?_
                    refine JL.skip (.bool rfl rfl rfl hc36) rfl ?_
                    refine JL.skip (.bool rfl rfl rfl hc36) rfl ?_
                    refine JL.skip (.bool rfl rfl rfl hc36) rfl ?_
                    refine JL.pick_t (b := p31) rfl hc36 .none rfl ?_
                    exact hJ35 _ ⟨rfl, rfl, rfl, rfl, or_t hc36 rfl⟩
                  · skip
                    refine JL.move (.some rfl rfl rfl hc36) rfl ?_
                    refine JL.lenSL (R := RInt) ul_28 hy15a_0 (.some rfl rfl rfl hc36) rfl ?_
                    refine JL.fieldAddr fo_30_1 rfl (.some rfl rfl rfl hc36) rfl ?_
                    refine JL.loadOwn 1 az_27 rfl rfl rfl (.some rfl rfl rfl hc36) rfl ?_
                    refine JL.lenSL (R := R_Span) ul_27 (SL.mono R_Span_mono (HSub.trans hs13 hs16) hd_7) (.some rfl rfl rfl hc36) rfl ?_
                    refine JL.bin rfl rfl rfl (.some rfl rfl rfl hc36) rfl ?_
                    refine JL.pick_f (b := p31) rfl hc36 .none rfl ?_
                    exact hJ35 _ ⟨rfl, rfl, rfl, rfl, or_f hc36 rfl⟩
                · rintro f ⟨hf1, hf3, hf5, hf12, hf97⟩
                  refine (JL.norm (i := 1) hf1 (JL.norm (i := 3) hf3 (JL.norm (i := 5) hf5 (JL.norm (i := 12) hf12 (JL.norm (i := 97) hf97 ?_)))))
                  refine JL.done hQ ?_
                  refine JQ.go ?_
                  rcases ite_some hF with ⟨hc37, hF⟩ | ⟨hc37, hF⟩
                  · refine JC.cond_t (b := (p31 || (decide ((d.Ribs.length : Int) < (y15.1.length : Int))))) rfl hc37 ?_
                    refine JC.seq ?_
                    refine JC.region (by rfl) ?_
                    intro hQ
                    refine JL.assign .none rfl ?_
                    refine JL.done hQ ?_
                    refine JQ.go ?_
                    refine JC.ret ?_
                    refine JQ.ret_then ?_
                    obtain rfl := Option.some.inj hF
                    exact JQ.outS rfl (.tmp .nil) rfl
                  · refine JC.cond_f (b := (p31 || (decide ((d.Ribs.length : Int) < (y15.1.length : Int))))) rfl hc37 ?_
                    refine JC.skip ?_
                    refine JQ.go ?_
                    refine JC.seq ?_
                    refine JC.region (by rfl) ?_
                    intro hQ
                    refine JL.loadOwn 1 az_30 rfl rfl rfl .none rfl ?_
                    obtain ⟨y38, hy38, hF⟩ := bind_some hF
                    refine JL.callXC (x_ref05_Copy n H16 d d_v0 (SL.mono R_Section_mono (HSub.trans hs13 hs16) hd_0) d_v7 (SL.mono R_Span_mono (HSub.trans hs13 hs16) hd_7) d_v8 (SL.mono RInt.mono (HSub.trans hs13 hs16) hd_8) y38 hy38) rfl en_13 .none rfl ?_
                    rintro H39 vv40 _ hs39 ⟨y38_v0, y38_v1, y38_xs1, y38_v2, y38_xs2, rfl, rfl, hy38_0, hy38_1, hy38_2⟩
                    refine JL.alloc ze_30 .none rfl ?_
                    intro b43
                    refine JL.oneG 1 rfl (fun ho44 => ?_)
                    refine JL.oneG 0 rfl (fun ho45 => ?_)
                    refine JL.storeOwn 0 (cs := [y38_v0, .int .i64 y38.Frame.Low, .int .i64 y38.Frame.High, .int .i64 y38.Frame.Ease.Num, .int .i64 y38.Frame.Ease.Den, .int .i64 y38.Frame.Rod, .int .i64 y38.Frame.Case, y38_v1, y38_v2]) az_30 rfl rfl rfl (one_cons (SL.one hy38_0) (one_cons rfl (one_cons rfl (one_cons rfl (one_cons rfl (one_cons rfl (one_cons rfl (one_cons ho44.1 (one_cons ho45.1 one_nil))))))))) rfl rfl .none ?_
                    refine JL.done hQ ?_
                    refine JQ.go ?_
                    refine JC.seq ?_
                    refine JC.seq ?_
                    refine JC.region (by rfl) ?_
                    intro hQ
                    refine JL.assign .none rfl ?_
                    refine JL.done hQ ?_
                    refine JQ.go ?_
                    obtain ⟨r263, hlr263, hKr263⟩ := bind_some hF
                    refine JC.join (fun (out_261 : List Span) H262 f bs gs => ∃ (vout_261 : Value) (xsout_261 : List Value), f 1 = class__v0 ∧ f 3 = .pointer (some ⟨b1, 0, none⟩) ∧ f 5 = .pointer (some ⟨b2, 0, none⟩) ∧ f 12 = y15a_v0 ∧ f 14 = .pointer (some ⟨b43, 0, none⟩) ∧ bs = [(b43, .cells [y38_v0, .int .i64 y38.Frame.Low, .int .i64 y38.Frame.High, .int .i64 y38.Frame.Ease.Num, .int .i64 y38.Frame.Ease.Den, .int .i64 y38.Frame.Rod, .int .i64 y38.Frame.Case, vout_261, y38_v2].toArray 30), (b2, .cells [.int .i64 x_.Place, .int .i64 x_.At].toArray 69), (b1, .cells [d_v0, .int .i64 d.Frame.Low, .int .i64 d.Frame.High, .int .i64 d.Frame.Ease.Num, .int .i64 d.Frame.Ease.Den, .int .i64 d.Frame.Rod, .int .i64 d.Frame.Case, d_v7, d_v8].toArray 30)] ∧ gs = [⟨y38_v2, 3, 1, y38.Shares.length, y38_xs2⟩, ⟨vout_261, 38, 2, out_261.length, xsout_261⟩] ∧ CH H262 2 R_Span xsout_261 out_261 ∧ HSub H39 H262 ∧ Sum.inr out_261 = r263) ?_ ?_
                    · skip
                      refine JC.block ?_
                      refine JC.loop hlr263 (fun (x : Int × List Span) H408 f bs gs => match x with | (i_406, out_407) => ∃ (vout_407 : Value) (xsout_407 : List Value), f 1 = class__v0 ∧ f 3 = .pointer (some ⟨b1, 0, none⟩) ∧ f 5 = .pointer (some ⟨b2, 0, none⟩) ∧ f 12 = y15a_v0 ∧ f 14 = .pointer (some ⟨b43, 0, none⟩) ∧ f 15 = .int .i64 i_406 ∧ bs = [(b43, .cells [y38_v0, .int .i64 y38.Frame.Low, .int .i64 y38.Frame.High, .int .i64 y38.Frame.Ease.Num, .int .i64 y38.Frame.Ease.Den, .int .i64 y38.Frame.Rod, .int .i64 y38.Frame.Case, vout_407, y38_v2].toArray 30), (b2, .cells [.int .i64 x_.Place, .int .i64 x_.At].toArray 69), (b1, .cells [d_v0, .int .i64 d.Frame.Low, .int .i64 d.Frame.High, .int .i64 d.Frame.Ease.Num, .int .i64 d.Frame.Ease.Den, .int .i64 d.Frame.Rod, .int .i64 d.Frame.Case, d_v7, d_v8].toArray 30)] ∧ gs = [⟨y38_v2, 3, 1, y38.Shares.length, y38_xs2⟩, ⟨vout_407, 38, 2, out_407.length, xsout_407⟩] ∧ CH H408 2 R_Span xsout_407 out_407 ∧ HSub H39 H408) ⟨y38_v1, y38_xs1, rfl, rfl, rfl, rfl, rfl, rfl, rfl, rfl, hy38_1, (HSub.refl _)⟩ ?_
                      rintro ⟨i_406, out_407⟩ x410 H408 f bs gs ⟨vout_407, xsout_407, hf1, hf3, hf5, hf12, hf14, hf15, rfl, rfl, hout_407, hs408⟩ hF hr409
                      rw [F_law05_GustsMended_s1] at hF
                      refine (JC.norm (i := 1) hf1 (JC.norm (i := 3) hf3 (JC.norm (i := 5) hf5 (JC.norm (i := 12) hf12 (JC.norm (i := 14) hf14 (JC.norm (i := 15) hf15 ?_))))))
                      refine JC.seq ?_
                      refine JC.seq ?_
                      refine JC.region (by rfl) ?_
                      intro hQ
                      refine JL.move .none rfl ?_
                      refine JL.move .none rfl ?_
                      refine JL.lenSL (R := RInt) ul_28 (SL.mono RInt.mono (HSub.trans hs39 hs408) hy15a_0) .none rfl ?_
                      refine JL.bin rfl rfl rfl .none rfl ?_
                      refine JL.done hQ ?_
                      refine JQ.go ?_
                      rcases ite_some hF with ⟨hc411, hF⟩ | ⟨hc411, hF⟩
                      · refine JC.cond_t (b := decide (i_406 < (y15.1.length : Int))) rfl hc411 ?_
                        refine JC.skip ?_
                        refine JQ.go ?_
                        refine JC.seq ?_
                        refine JC.block ?_
                        refine JC.seq ?_
                        refine JC.seq ?_
                        refine JC.draw (by rfl) mo_ (by kernel_rfl) ?_
                        intro hQ
                        refine JL.loadOwn 2 az_30 rfl rfl rfl .none rfl ?_
                        refine JL.move .none rfl ?_
                        refine JL.move .none rfl ?_
                        obtain ⟨y418, hy418, hF⟩ := bind_some hF
                        refine JL.indexSL (R := RInt) sl_28 (SL.mono RInt.mono (HSub.trans hs39 hs408) hy15a_0) rfl hy418 .none rfl ?_
                        rintro b419 o420 cs421 hc422 - rfl
                        refine JL.loadH 0 az_3 rfl hc422 rfl .none rfl ?_
                        obtain ⟨y423, hy423, hF⟩ := bind_some hF
                        refine JL.callS (c_ref05_IsRib n H408 d d_v0 (SL.mono R_Section_mono (HSub.trans hs13 (HSub.trans hs16 (HSub.trans hs39 hs408))) hd_0) d_v7 (SL.mono R_Span_mono (HSub.trans hs13 (HSub.trans hs16 (HSub.trans hs39 hs408))) hd_7) d_v8 (SL.mono RInt.mono (HSub.trans hs13 (HSub.trans hs16 (HSub.trans hs39 hs408))) hd_8) y418 y423 hy423) rfl en_28 .none rfl ?_
                        refine JL.not rfl .none rfl ?_
                        refine JL.doneQ hQ ?_
                        refine JQ.go ?_
                        refine JC.fresh (fun f => f 1 = class__v0 ∧ f 3 = .pointer (some ⟨b1, 0, none⟩) ∧ f 5 = .pointer (some ⟨b2, 0, none⟩) ∧ f 12 = y15a_v0 ∧ f 14 = .pointer (some ⟨b43, 0, none⟩) ∧ f 15 = .int .i64 i_406 ∧ f 112 = .bool (!y423)) ⟨rfl, rfl, rfl, rfl, rfl, rfl, rfl⟩ ?_
                        rintro f ⟨hf1, hf3, hf5, hf12, hf14, hf15, hf112⟩
                        refine (JC.norm (i := 1) hf1 (JC.norm (i := 3) hf3 (JC.norm (i := 5) hf5 (JC.norm (i := 12) hf12 (JC.norm (i := 14) hf14 (JC.norm (i := 15) hf15 (JC.norm (i := 112) hf112 ?_)))))))
                        rcases ite_some hF with ⟨hc424, hF⟩ | ⟨hc424, hF⟩
                        · refine JC.cond_t (b := (!y423)) rfl hc424 ?_
                          refine JC.seq ?_
                          refine JC.region (by rfl) ?_
                          intro hQ
                          refine JL.assign .none rfl ?_
                          refine JL.done hQ ?_
                          refine JQ.go ?_
                          refine JC.ret ?_
                          refine JQ.ret_then ?_
                          refine JQ.ret_block ?_
                          refine JQ.ret_then ?_
                          refine JQ.ret_then ?_
                          refine JQ.ret_block ?_
                          refine JQ.ret_join ?_
                          refine JQ.ret_then ?_
                          obtain rfl := Option.some.inj hF
                          have ehr409 := hr409 _ rfl
                          subst ehr409
                          have hF := hKr263
                          try dsimp only at hF
                          obtain rfl := Option.some.inj hF
                          exact JQ.outS rfl (.tmp .nil) rfl
                        · refine JC.cond_f (b := (!y423)) rfl hc424 ?_
                          refine JC.skip ?_
                          refine JQ.go ?_
                          obtain ⟨y433, hy433, hF⟩ := bind_some hF
                          obtain ⟨y438, hy438, hF⟩ := bind_some hF
                          refine JC.mixed 8 9 #[false, false, false, false, false, false, false, false, false] [(b43, .cells [y38_v0, .int .i64 y38.Frame.Low, .int .i64 y38.Frame.High, .int .i64 y38.Frame.Ease.Num, .int .i64 y38.Frame.Ease.Den, .int .i64 y38.Frame.Rod, .int .i64 y38.Frame.Case, vout_407, y38_v2].toArray 30), (b2, .cells [.int .i64 x_.Place, .int .i64 x_.At].toArray 69), (b1, .cells [d_v0, .int .i64 d.Frame.Low, .int .i64 d.Frame.High, .int .i64 d.Frame.Ease.Num, .int .i64 d.Frame.Ease.Den, .int .i64 d.Frame.Rod, .int .i64 d.Frame.Case, d_v7, d_v8].toArray 30)] (by rfl) mo_ (by kernel_rfl) (by kernel_rfl) ?_
                          intro hQ hE
                          refine JA.take 0 (listed' := #[true, false, false, false, false, false, false, false, false]) hQ rfl (by kernel_rfl) (by kernel_rfl) (by kernel_rfl) (by kernel_rfl) (by kernel_rfl) hE (HSub.refl _) (.cons_cons _ (.cons_cons _ (.cons_cons _ (List.nil_sublist _)))) ?_
                          refine JL.fieldAddr fo_30_1 rfl .none rfl ?_
                          refine JA.cont ?_
                          refine JA.take 1 (listed' := #[true, true, false, false, false, false, false, false, false]) hQ rfl (by kernel_rfl) (by kernel_rfl) (by kernel_rfl) (by kernel_rfl) (by kernel_rfl) hE (HSub.refl _) (.cons_cons _ (.cons_cons _ (.cons_cons _ (List.nil_sublist _)))) ?_
                          refine JL.loadOwn 0 az_27 rfl rfl rfl .none rfl ?_
                          refine JA.cont ?_
                          refine JA.take 2 (listed' := #[true, true, true, false, false, false, false, false, false]) hQ rfl (by kernel_rfl) (by kernel_rfl) (by kernel_rfl) (by kernel_rfl) (by kernel_rfl) hE (HSub.refl _) (.cons_cons _ (.cons_cons _ (.cons_cons _ (List.nil_sublist _)))) ?_
                          refine JL.move .none rfl ?_
                          refine JA.cont ?_
                          refine JA.take 3 (listed' := #[true, true, true, true, false, false, false, false, false]) hQ rfl (by kernel_rfl) (by kernel_rfl) (by kernel_rfl) (by kernel_rfl) (by kernel_rfl) hE (HSub.refl _) (.cons_cons _ (.cons_cons _ (.cons_cons _ (List.nil_sublist _)))) ?_
                          refine JL.move .none rfl ?_
                          refine JA.cont ?_
                          refine JA.take 4 (listed' := #[true, true, true, true, true, false, false, false, false]) hQ rfl (by kernel_rfl) (by kernel_rfl) (by kernel_rfl) (by kernel_rfl) (by kernel_rfl) hE (HSub.refl _) (.cons_cons _ (.cons_cons _ (.cons_cons _ (List.nil_sublist _)))) ?_
                          refine JL.indexSL (R := RInt) sl_28 (SL.mono RInt.mono (HSub.trans hs39 hs408) hy15a_0) rfl hy433 .none rfl ?_
                          rintro b471 o472 cs473 hc474 - rfl
                          refine JA.cont ?_
                          refine JA.take 5 (listed' := #[true, true, true, true, true, true, false, false, false]) hQ rfl (by kernel_rfl) (by kernel_rfl) (by kernel_rfl) (by kernel_rfl) (by kernel_rfl) hE (HSub.refl _) (.cons_cons _ (.cons_cons _ (.cons_cons _ (List.nil_sublist _)))) ?_
                          refine JL.loadH 0 az_3 rfl hc474 rfl .none rfl ?_
                          refine JA.cont ?_
                          refine JA.take 6 (listed' := #[true, true, true, true, true, true, true, false, false]) hQ rfl (by kernel_rfl) (by kernel_rfl) (by kernel_rfl) (by kernel_rfl) (by kernel_rfl) hE (HSub.refl _) (.cons_cons _ (.cons_cons _ (.cons_cons _ (List.nil_sublist _)))) ?_
                          refine JL.build (l := [.int .i64 99999, .int .i64 99999]) (by kernel_rfl) .none rfl ?_
                          refine JA.cont ?_
                          refine JA.many [7] (by kernel_rfl) (by simp) (all_one ⟨_, #[true, true, true, true, true, true, true, true, false], rfl, (by kernel_rfl), ?_⟩)
                          refine JL.indexG 1 (l := out_407) sl_27 rfl rfl rfl rfl hy438 .none rfl ?_
                          intro b475 hb476
                          refine JA.after hE (HSub.refl _) (.cons_cons _ (.cons_cons _ (.cons_cons _ (List.nil_sublist _)))) ?_
                          refine JA.many [8] (by kernel_rfl) (by simp) (all_one ⟨_, #[true, true, true, true, true, true, true, true, true], rfl, (by kernel_rfl), ?_⟩)
                          refine JL.storeG (R := R_Span) 1 (i := y433) (l := out_407) (y := y438) (y' := (Span.mk 99999 99999)) (off := 0) az_38 rfl rfl rfl rfl (one_cons rfl (one_cons rfl one_nil)) rfl hb476 hout_407 rfl hy438 rfl (by rintro cs rfl; rfl) .none ?_
                          intro xs477 hch478
                          refine JA.sink (by kernel_rfl) ?_
                          refine JA.done hQ (by kernel_rfl) ?_
                          refine JQ.normal_block ?_
                          refine JQ.go ?_
                          refine JC.fresh (fun f => f 1 = class__v0 ∧ f 3 = .pointer (some ⟨b1, 0, none⟩) ∧ f 5 = .pointer (some ⟨b2, 0, none⟩) ∧ f 12 = y15a_v0 ∧ f 14 = .pointer (some ⟨b43, 0, none⟩) ∧ f 15 = .int .i64 i_406) ⟨rfl, rfl, rfl, rfl, rfl, rfl⟩ ?_
                          rintro f ⟨hf1, hf3, hf5, hf12, hf14, hf15⟩
                          refine (JC.norm (i := 1) hf1 (JC.norm (i := 3) hf3 (JC.norm (i := 5) hf5 (JC.norm (i := 12) hf12 (JC.norm (i := 14) hf14 (JC.norm (i := 15) hf15 ?_))))))
                          refine JC.region (by rfl) ?_
                          intro hQ
                          refine JL.move .none rfl ?_
                          refine JL.bin rfl rfl rfl .none rfl ?_
                          refine JL.assign .none rfl ?_
                          refine JL.done hQ ?_
                          obtain rfl := Option.some.inj hF
                          exact JQ.next rfl ⟨vout_407, xs477, rfl, rfl, rfl, rfl, rfl, rfl, rfl, rfl, hch478, hs408⟩
                      · refine JC.cond_f (b := decide (i_406 < (y15.1.length : Int))) rfl hc411 ?_
                        refine JC.exit ?_
                        refine JQ.exit_then ?_
                        refine JQ.exit_then ?_
                        refine JQ.exit_block ?_
                        obtain rfl := Option.some.inj hF
                        have ehr409 := hr409 _ rfl
                        subst ehr409
                        exact JQ.join out_407 ⟨vout_407, xsout_407, rfl, rfl, rfl, rfl, rfl, rfl, rfl, hout_407, hs408, rfl⟩
                    · rintro out_261 H262 f bs gs ⟨vout_261, xsout_261, hf1, hf3, hf5, hf12, hf14, rfl, rfl, hout_261, hs262, rfl⟩
                      have hF := hKr263
                      try dsimp only at hF
                      refine (JQ.norm (i := 1) hf1 (JQ.norm (i := 3) hf3 (JQ.norm (i := 5) hf5 (JQ.norm (i := 12) hf12 (JQ.norm (i := 14) hf14 ?_)))))
                      refine JQ.go ?_
                      refine JC.seq ?_
                      refine JC.seq ?_
                      refine JC.region (by rfl) ?_
                      intro hQ
                      refine JL.loadOwn 0 az_30 rfl rfl rfl .none rfl ?_
                      refine JL.move .none rfl ?_
                      obtain ⟨y482, hy482, hF⟩ := bind_some hF
                      refine JL.callLG2 (R := R_Span) (S := RInt) 1 0 rfl R_Span_mono hout_261 rfl rfl RInt.mono (CH.mono RInt.mono hs262 hy38_2) rfl (fun H479 hs479 hg480 hg481 => c_gusts_Stands n H479 (Canopy.mk y38.Frame out_261 y38.Shares) y38_v0 (SL.mono R_Section_mono (HSub.trans hs262 hs479) hy38_0) vout_261 hg480 y38_v2 hg481 class_ class__v0 (SL.mono R_Gust_mono (HSub.trans hs13 (HSub.trans hs16 (HSub.trans hs39 (HSub.trans hs262 hs479)))) hclass__0) y482 hy482) rfl en_29 .none rfl ?_
                      refine JL.move .none rfl ?_
                      refine JL.extract rfl rfl .none rfl ?_
                      refine JL.extract rfl rfl .none rfl ?_
                      refine JL.assign .none rfl ?_
                      refine JL.assign .none rfl ?_
                      refine JL.done hQ ?_
                      refine JQ.go ?_
                      refine JC.seq ?_
                      refine JC.region (by rfl) ?_
                      intro hQ
                      refine JL.move .none rfl ?_
                      refine JL.bin rfl rfl rfl .none rfl ?_
                      refine JL.move .none rfl ?_
                      refine JL.cut 3 (fun f => f 1 = class__v0 ∧ f 3 = .pointer (some ⟨b1, 0, none⟩) ∧ f 5 = .pointer (some ⟨b2, 0, none⟩) ∧ f 12 = y15a_v0 ∧ f 14 = .pointer (some ⟨b43, 0, none⟩) ∧ f 132 = .bool ((y482.2 != 0) || (y482.1 != 1))) ?_ ?_
                      · intro hJ483
                        rcases bcases (y482.2 != 0) with hc484 | hc484
                        · skip
                          refine JL.skip (.bool rfl rfl rfl hc484) rfl ?_
                          refine JL.skip (.bool rfl rfl rfl hc484) rfl ?_
                          refine JL.pick_t (b := (y482.2 != 0)) rfl hc484 .none rfl ?_
                          exact hJ483 _ ⟨rfl, rfl, rfl, rfl, rfl, or_t hc484 rfl⟩
                        · skip
                          refine JL.move (.some rfl rfl rfl hc484) rfl ?_
                          refine JL.bin rfl rfl rfl (.some rfl rfl rfl hc484) rfl ?_
                          refine JL.pick_f (b := (y482.2 != 0)) rfl hc484 .none rfl ?_
                          exact hJ483 _ ⟨rfl, rfl, rfl, rfl, rfl, or_f hc484 rfl⟩
                      · rintro f ⟨hf1, hf3, hf5, hf12, hf14, hf132⟩
                        refine (JL.norm (i := 1) hf1 (JL.norm (i := 3) hf3 (JL.norm (i := 5) hf5 (JL.norm (i := 12) hf12 (JL.norm (i := 14) hf14 (JL.norm (i := 132) hf132 ?_))))))
                        refine JL.done hQ ?_
                        refine JQ.go ?_
                        rcases ite_some hF with ⟨hc485, hF⟩ | ⟨hc485, hF⟩
                        · refine JC.cond_t (b := ((y482.2 != 0) || (y482.1 != 1))) rfl hc485 ?_
                          refine JC.seq ?_
                          refine JC.region (by rfl) ?_
                          intro hQ
                          refine JL.assign .none rfl ?_
                          refine JL.done hQ ?_
                          refine JQ.go ?_
                          refine JC.ret ?_
                          refine JQ.ret_then ?_
                          obtain rfl := Option.some.inj hF
                          exact JQ.outS rfl (.tmp .nil) rfl
                        · refine JC.cond_f (b := ((y482.2 != 0) || (y482.1 != 1))) rfl hc485 ?_
                          refine JC.skip ?_
                          refine JQ.go ?_
                          refine JC.seq ?_
                          refine JC.seq ?_
                          refine JC.region (by rfl) ?_
                          intro hQ
                          refine JL.fieldAddr fo_69_0 rfl .none rfl ?_
                          refine JL.loadOwn 1 az_3 rfl rfl rfl .none rfl ?_
                          refine JL.bin rfl rfl rfl .none rfl ?_
                          refine JL.move .none rfl ?_
                          refine JL.cut 6 (fun f => f 1 = class__v0 ∧ f 3 = .pointer (some ⟨b1, 0, none⟩) ∧ f 5 = .pointer (some ⟨b2, 0, none⟩) ∧ f 12 = y15a_v0 ∧ f 14 = .pointer (some ⟨b43, 0, none⟩) ∧ f 142 = .bool ((decide (0 ≤ x_.Place)) && (decide (x_.Place < (y15.1.length : Int))))) ?_ ?_
                          · intro hJ486
                            rcases bcases (decide (0 ≤ x_.Place)) with hc487 | hc487
                            · skip
                              refine JL.fieldAddr fo_69_0 rfl (.some rfl rfl rfl hc487) rfl ?_
                              refine JL.loadOwn 1 az_3 rfl rfl rfl (.some rfl rfl rfl hc487) rfl ?_
                              refine JL.move (.some rfl rfl rfl hc487) rfl ?_
                              refine JL.lenSL (R := RInt) ul_28 (SL.mono RInt.mono (HSub.trans hs39 hs262) hy15a_0) (.some rfl rfl rfl hc487) rfl ?_
                              refine JL.bin rfl rfl rfl (.some rfl rfl rfl hc487) rfl ?_
                              refine JL.pick_t (b := decide (0 ≤ x_.Place)) rfl hc487 .none rfl ?_
                              exact hJ486 _ ⟨rfl, rfl, rfl, rfl, rfl, and_t hc487 rfl⟩
                            · skip
                              refine JL.skip (.bool rfl rfl rfl hc487) rfl ?_
                              refine JL.skip (.bool rfl rfl rfl hc487) rfl ?_
                              refine JL.skip (.bool rfl rfl rfl hc487) rfl ?_
                              refine JL.skip (.bool rfl rfl rfl hc487) rfl ?_
                              refine JL.skip (.bool rfl rfl rfl hc487) rfl ?_
                              refine JL.pick_f (b := decide (0 ≤ x_.Place)) rfl hc487 .none rfl ?_
                              exact hJ486 _ ⟨rfl, rfl, rfl, rfl, rfl, and_f hc487 rfl⟩
                          · rintro f ⟨hf1, hf3, hf5, hf12, hf14, hf142⟩
                            refine (JL.norm (i := 1) hf1 (JL.norm (i := 3) hf3 (JL.norm (i := 5) hf5 (JL.norm (i := 12) hf12 (JL.norm (i := 14) hf14 (JL.norm (i := 142) hf142 ?_))))))
                            refine JL.done hQ ?_
                            refine JQ.go ?_
                            obtain ⟨r619, hlr619, hKr619⟩ := bind_some hF
                            refine JC.join (fun (_ : Unit) H618 f bs gs => f 3 = .pointer (some ⟨b1, 0, none⟩) ∧ f 5 = .pointer (some ⟨b2, 0, none⟩) ∧ bs = [(b2, .cells [.int .i64 x_.Place, .int .i64 x_.At].toArray 69), (b1, .cells [d_v0, .int .i64 d.Frame.Low, .int .i64 d.Frame.High, .int .i64 d.Frame.Ease.Num, .int .i64 d.Frame.Ease.Den, .int .i64 d.Frame.Rod, .int .i64 d.Frame.Case, d_v7, d_v8].toArray 30)] ∧ gs = [] ∧ HSub H262 H618 ∧ Sum.inr () = r619) ?_ ?_
                            · have hF := hlr619
                              rcases ite_some hF with ⟨hc620, hF⟩ | ⟨hc620, hF⟩
                              · refine JC.cond_t (b := ((decide (0 ≤ x_.Place)) && (decide (x_.Place < (y15.1.length : Int))))) rfl hc620 ?_
                                refine JC.seq ?_
                                obtain ⟨y639, hy639, hF⟩ := bind_some hF
                                obtain ⟨y644, hy644, hF⟩ := bind_some hF
                                obtain ⟨y649, hy649, hF⟩ := bind_some hF
                                obtain ⟨y654, hy654, hF⟩ := bind_some hF
                                refine JC.mixed 17 18 #[false, false, false, false, false, false, false, false, false, false, false, false, false, false, false, false, false, false] [(b43, .cells [y38_v0, .int .i64 y38.Frame.Low, .int .i64 y38.Frame.High, .int .i64 y38.Frame.Ease.Num, .int .i64 y38.Frame.Ease.Den, .int .i64 y38.Frame.Rod, .int .i64 y38.Frame.Case, vout_261, y38_v2].toArray 30), (b2, .cells [.int .i64 x_.Place, .int .i64 x_.At].toArray 69), (b1, .cells [d_v0, .int .i64 d.Frame.Low, .int .i64 d.Frame.High, .int .i64 d.Frame.Ease.Num, .int .i64 d.Frame.Ease.Den, .int .i64 d.Frame.Rod, .int .i64 d.Frame.Case, d_v7, d_v8].toArray 30)] (by rfl) mo_ (by kernel_rfl) (by kernel_rfl) ?_
                                intro hQ hE
                                refine JA.take 0 (listed' := #[true, false, false, false, false, false, false, false, false, false, false, false, false, false, false, false, false, false]) hQ rfl (by kernel_rfl) (by kernel_rfl) (by kernel_rfl) (by kernel_rfl) (by kernel_rfl) hE (HSub.refl _) (.cons_cons _ (.cons_cons _ (.cons_cons _ (List.nil_sublist _)))) ?_
                                refine JL.fieldAddr fo_30_1 rfl .none rfl ?_
                                refine JA.cont ?_
                                refine JA.take 1 (listed' := #[true, true, false, false, false, false, false, false, false, false, false, false, false, false, false, false, false, false]) hQ rfl (by kernel_rfl) (by kernel_rfl) (by kernel_rfl) (by kernel_rfl) (by kernel_rfl) hE (HSub.refl _) (.cons_cons _ (.cons_cons _ (.cons_cons _ (List.nil_sublist _)))) ?_
                                refine JL.loadOwn 0 az_27 rfl rfl rfl .none rfl ?_
                                refine JA.cont ?_
                                refine JA.take 2 (listed' := #[true, true, true, false, false, false, false, false, false, false, false, false, false, false, false, false, false, false]) hQ rfl (by kernel_rfl) (by kernel_rfl) (by kernel_rfl) (by kernel_rfl) (by kernel_rfl) hE (HSub.refl _) (.cons_cons _ (.cons_cons _ (.cons_cons _ (List.nil_sublist _)))) ?_
                                refine JL.move .none rfl ?_
                                refine JA.cont ?_
                                refine JA.take 3 (listed' := #[true, true, true, true, false, false, false, false, false, false, false, false, false, false, false, false, false, false]) hQ rfl (by kernel_rfl) (by kernel_rfl) (by kernel_rfl) (by kernel_rfl) (by kernel_rfl) hE (HSub.refl _) (.cons_cons _ (.cons_cons _ (.cons_cons _ (List.nil_sublist _)))) ?_
                                refine JL.fieldAddr fo_69_0 rfl .none rfl ?_
                                refine JA.cont ?_
                                refine JA.take 4 (listed' := #[true, true, true, true, true, false, false, false, false, false, false, false, false, false, false, false, false, false]) hQ rfl (by kernel_rfl) (by kernel_rfl) (by kernel_rfl) (by kernel_rfl) (by kernel_rfl) hE (HSub.refl _) (.cons_cons _ (.cons_cons _ (.cons_cons _ (List.nil_sublist _)))) ?_
                                refine JL.loadOwn 1 az_3 rfl rfl rfl .none rfl ?_
                                refine JA.cont ?_
                                refine JA.take 5 (listed' := #[true, true, true, true, true, true, false, false, false, false, false, false, false, false, false, false, false, false]) hQ rfl (by kernel_rfl) (by kernel_rfl) (by kernel_rfl) (by kernel_rfl) (by kernel_rfl) hE (HSub.refl _) (.cons_cons _ (.cons_cons _ (.cons_cons _ (List.nil_sublist _)))) ?_
                                refine JL.indexSL (R := RInt) sl_28 (SL.mono RInt.mono (HSub.trans hs39 hs262) hy15a_0) rfl hy639 .none rfl ?_
                                rintro b719 o720 cs721 hc722 - rfl
                                refine JA.cont ?_
                                refine JA.take 6 (listed' := #[true, true, true, true, true, true, true, false, false, false, false, false, false, false, false, false, false, false]) hQ rfl (by kernel_rfl) (by kernel_rfl) (by kernel_rfl) (by kernel_rfl) (by kernel_rfl) hE (HSub.refl _) (.cons_cons _ (.cons_cons _ (.cons_cons _ (List.nil_sublist _)))) ?_
                                refine JL.loadH 0 az_3 rfl hc722 rfl .none rfl ?_
                                refine JA.cont ?_
                                refine JA.take 7 (listed' := #[true, true, true, true, true, true, true, true, false, false, false, false, false, false, false, false, false, false]) hQ rfl (by kernel_rfl) (by kernel_rfl) (by kernel_rfl) (by kernel_rfl) (by kernel_rfl) hE (HSub.refl _) (.cons_cons _ (.cons_cons _ (.cons_cons _ (List.nil_sublist _)))) ?_
                                refine JL.fieldAddr fo_30_1 rfl .none rfl ?_
                                refine JA.cont ?_
                                refine JA.take 8 (listed' := #[true, true, true, true, true, true, true, true, true, false, false, false, false, false, false, false, false, false]) hQ rfl (by kernel_rfl) (by kernel_rfl) (by kernel_rfl) (by kernel_rfl) (by kernel_rfl) hE (HSub.refl _) (.cons_cons _ (.cons_cons _ (.cons_cons _ (List.nil_sublist _)))) ?_
                                refine JL.loadOwn 2 az_27 rfl rfl rfl .none rfl ?_
                                refine JA.cont ?_
                                refine JA.take 9 (listed' := #[true, true, true, true, true, true, true, true, true, true, false, false, false, false, false, false, false, false]) hQ rfl (by kernel_rfl) (by kernel_rfl) (by kernel_rfl) (by kernel_rfl) (by kernel_rfl) hE (HSub.refl _) (.cons_cons _ (.cons_cons _ (.cons_cons _ (List.nil_sublist _)))) ?_
                                refine JL.move .none rfl ?_
                                refine JA.cont ?_
                                refine JA.take 10 (listed' := #[true, true, true, true, true, true, true, true, true, true, true, false, false, false, false, false, false, false]) hQ rfl (by kernel_rfl) (by kernel_rfl) (by kernel_rfl) (by kernel_rfl) (by kernel_rfl) hE (HSub.refl _) (.cons_cons _ (.cons_cons _ (.cons_cons _ (List.nil_sublist _)))) ?_
                                refine JL.fieldAddr fo_69_0 rfl .none rfl ?_
                                refine JA.cont ?_
                                refine JA.take 11 (listed' := #[true, true, true, true, true, true, true, true, true, true, true, true, false, false, false, false, false, false]) hQ rfl (by kernel_rfl) (by kernel_rfl) (by kernel_rfl) (by kernel_rfl) (by kernel_rfl) hE (HSub.refl _) (.cons_cons _ (.cons_cons _ (.cons_cons _ (List.nil_sublist _)))) ?_
                                refine JL.loadOwn 1 az_3 rfl rfl rfl .none rfl ?_
                                refine JA.cont ?_
                                refine JA.take 12 (listed' := #[true, true, true, true, true, true, true, true, true, true, true, true, true, false, false, false, false, false]) hQ rfl (by kernel_rfl) (by kernel_rfl) (by kernel_rfl) (by kernel_rfl) (by kernel_rfl) hE (HSub.refl _) (.cons_cons _ (.cons_cons _ (.cons_cons _ (List.nil_sublist _)))) ?_
                                refine JL.indexSL (R := RInt) sl_28 (SL.mono RInt.mono (HSub.trans hs39 hs262) hy15a_0) rfl hy644 .none rfl ?_
                                rintro b727 o728 cs729 hc730 - rfl
                                refine JA.cont ?_
                                refine JA.take 13 (listed' := #[true, true, true, true, true, true, true, true, true, true, true, true, true, true, false, false, false, false]) hQ rfl (by kernel_rfl) (by kernel_rfl) (by kernel_rfl) (by kernel_rfl) (by kernel_rfl) hE (HSub.refl _) (.cons_cons _ (.cons_cons _ (.cons_cons _ (List.nil_sublist _)))) ?_
                                refine JL.loadH 0 az_3 rfl hc730 rfl .none rfl ?_
                                refine JA.cont ?_
                                refine JA.take 14 (listed' := #[true, true, true, true, true, true, true, true, true, true, true, true, true, true, true, false, false, false]) hQ rfl (by kernel_rfl) (by kernel_rfl) (by kernel_rfl) (by kernel_rfl) (by kernel_rfl) hE (HSub.refl _) (.cons_cons _ (.cons_cons _ (.cons_cons _ (List.nil_sublist _)))) ?_
                                refine JL.indexSL (R := R_Span) sl_27 (SL.mono R_Span_mono (HSub.trans hs13 (HSub.trans hs16 (HSub.trans hs39 hs262))) hd_7) rfl hy649 .none rfl ?_
                                rintro b735 o736 cs737 hc738 - rfl
                                refine JA.cont ?_
                                refine JA.take 15 (listed' := #[true, true, true, true, true, true, true, true, true, true, true, true, true, true, true, true, false, false]) hQ rfl (by kernel_rfl) (by kernel_rfl) (by kernel_rfl) (by kernel_rfl) (by kernel_rfl) hE (HSub.refl _) (.cons_cons _ (.cons_cons _ (.cons_cons _ (List.nil_sublist _)))) ?_
                                refine JL.loadH 0 az_38 rfl hc738 rfl .none rfl ?_
                                refine JA.cont ?_
                                refine JA.many [16] (by kernel_rfl) (by simp) (all_one ⟨_, #[true, true, true, true, true, true, true, true, true, true, true, true, true, true, true, true, true, false], rfl, (by kernel_rfl), ?_⟩)
                                refine JL.indexG 1 (l := out_261) sl_27 rfl rfl rfl rfl hy654 .none rfl ?_
                                intro b739 hb740
                                refine JA.after hE (HSub.refl _) (.cons_cons _ (.cons_cons _ (.cons_cons _ (List.nil_sublist _)))) ?_
                                refine JA.many [17] (by kernel_rfl) (by simp) (all_one ⟨_, #[true, true, true, true, true, true, true, true, true, true, true, true, true, true, true, true, true, true], rfl, (by kernel_rfl), ?_⟩)
                                refine JL.storeG (R := R_Span) 1 (i := y639) (l := out_261) (y := y654) (y' := y649) (off := 0) az_38 rfl rfl rfl rfl (one_cons rfl (one_cons rfl one_nil)) rfl hb740 hout_261 rfl hy654 rfl (by rintro cs rfl; rfl) .none ?_
                                intro xs741 hch742
                                refine JA.sink (by kernel_rfl) ?_
                                refine JA.done hQ (by kernel_rfl) ?_
                                refine JQ.go ?_
                                refine JC.fresh (fun f => f 1 = class__v0 ∧ f 3 = .pointer (some ⟨b1, 0, none⟩) ∧ f 5 = .pointer (some ⟨b2, 0, none⟩) ∧ f 14 = .pointer (some ⟨b43, 0, none⟩)) ⟨rfl, rfl, rfl, rfl⟩ ?_
                                rintro f ⟨hf1, hf3, hf5, hf14⟩
                                refine (JC.norm (i := 1) hf1 (JC.norm (i := 3) hf3 (JC.norm (i := 5) hf5 (JC.norm (i := 14) hf14 ?_))))
                                refine JC.seq ?_
                                refine JC.region (by rfl) ?_
                                intro hQ
                                refine JL.loadOwn 0 az_30 rfl rfl rfl .none rfl ?_
                                refine JL.move .none rfl ?_
                                obtain ⟨y746, hy746, hF⟩ := bind_some hF
                                refine JL.callLG2 (R := R_Span) (S := RInt) 1 0 rfl R_Span_mono hch742 rfl rfl RInt.mono (CH.mono RInt.mono hs262 hy38_2) rfl (fun H743 hs743 hg744 hg745 => c_gusts_Stands n H743 (Canopy.mk y38.Frame (setx out_261 y639 y649) y38.Shares) y38_v0 (SL.mono R_Section_mono (HSub.trans hs262 hs743) hy38_0) vout_261 hg744 y38_v2 hg745 class_ class__v0 (SL.mono R_Gust_mono (HSub.trans hs13 (HSub.trans hs16 (HSub.trans hs39 (HSub.trans hs262 hs743)))) hclass__0) y746 hy746) rfl en_29 .none rfl ?_
                                refine JL.move .none rfl ?_
                                refine JL.extract rfl rfl .none rfl ?_
                                refine JL.extract rfl rfl .none rfl ?_
                                refine JL.assign .none rfl ?_
                                refine JL.assign .none rfl ?_
                                refine JL.done hQ ?_
                                refine JQ.go ?_
                                refine JC.seq ?_
                                refine JC.region (by rfl) ?_
                                intro hQ
                                refine JL.move .none rfl ?_
                                refine JL.bin rfl rfl rfl .none rfl ?_
                                refine JL.move .none rfl ?_
                                refine JL.cut 3 (fun f => f 3 = .pointer (some ⟨b1, 0, none⟩) ∧ f 5 = .pointer (some ⟨b2, 0, none⟩) ∧ f 171 = .bool ((y746.2 != 0) || (y746.1 == 1))) ?_ ?_
                                · intro hJ747
                                  rcases bcases (y746.2 != 0) with hc748 | hc748
                                  · skip
                                    refine JL.skip (.bool rfl rfl rfl hc748) rfl ?_
                                    refine JL.skip (.bool rfl rfl rfl hc748) rfl ?_
                                    refine JL.pick_t (b := (y746.2 != 0)) rfl hc748 .none rfl ?_
                                    exact hJ747 _ ⟨rfl, rfl, or_t hc748 rfl⟩
                                  · skip
                                    refine JL.move (.some rfl rfl rfl hc748) rfl ?_
                                    refine JL.bin rfl rfl rfl (.some rfl rfl rfl hc748) rfl ?_
                                    refine JL.pick_f (b := (y746.2 != 0)) rfl hc748 .none rfl ?_
                                    exact hJ747 _ ⟨rfl, rfl, or_f hc748 rfl⟩
                                · rintro f ⟨hf3, hf5, hf171⟩
                                  refine (JL.norm (i := 3) hf3 (JL.norm (i := 5) hf5 (JL.norm (i := 171) hf171 ?_)))
                                  refine JL.done hQ ?_
                                  refine JQ.go ?_
                                  rcases ite_some hF with ⟨hc749, hF⟩ | ⟨hc749, hF⟩
                                  · refine JC.cond_t (b := ((y746.2 != 0) || (y746.1 == 1))) rfl hc749 ?_
                                    refine JC.seq ?_
                                    refine JC.region (by rfl) ?_
                                    intro hQ
                                    refine JL.assign .none rfl ?_
                                    refine JL.done hQ ?_
                                    refine JQ.go ?_
                                    refine JC.ret ?_
                                    refine JQ.ret_join ?_
                                    refine JQ.ret_then ?_
                                    obtain rfl := Option.some.inj hF
                                    have hF := hKr619
                                    try dsimp only at hF
                                    obtain rfl := Option.some.inj hF
                                    exact JQ.outS rfl (.tmp .nil) rfl
                                  · refine JC.cond_f (b := ((y746.2 != 0) || (y746.1 == 1))) rfl hc749 ?_
                                    refine JC.skip ?_
                                    obtain rfl := Option.some.inj hF
                                    refine JQ.mask [false, true, true] [false, false] ?_
                                    exact JQ.join () ⟨rfl, rfl, rfl, rfl, (HSub.refl _), rfl⟩
                              · refine JC.cond_f (b := ((decide (0 ≤ x_.Place)) && (decide (x_.Place < (y15.1.length : Int))))) rfl hc620 ?_
                                refine JC.skip ?_
                                obtain rfl := Option.some.inj hF
                                refine JQ.mask [false, true, true] [false, false] ?_
                                exact JQ.join () ⟨rfl, rfl, rfl, rfl, (HSub.refl _), rfl⟩
                            · rintro _ H618 f bs gs ⟨hf3, hf5, rfl, rfl, hs618, rfl⟩
                              have hF := hKr619
                              try dsimp only at hF
                              refine (JQ.norm (i := 3) hf3 (JQ.norm (i := 5) hf5 ?_))
                              refine JQ.go ?_
                              refine JC.seq ?_
                              refine JC.region (by rfl) ?_
                              intro hQ
                              refine JL.loadOwn 1 az_30 rfl rfl rfl .none rfl ?_
                              refine JL.fieldAddr fo_69_1 rfl .none rfl ?_
                              refine JL.loadOwn 0 az_3 rfl rfl rfl .none rfl ?_
                              obtain ⟨y750, hy750, hF⟩ := bind_some hF
                              refine JL.callS (c_gusts_Most n H618 d d_v0 (SL.mono R_Section_mono (HSub.trans hs13 (HSub.trans hs16 (HSub.trans hs39 (HSub.trans hs262 hs618)))) hd_0) d_v7 (SL.mono R_Span_mono (HSub.trans hs13 (HSub.trans hs16 (HSub.trans hs39 (HSub.trans hs262 hs618)))) hd_7) d_v8 (SL.mono RInt.mono (HSub.trans hs13 (HSub.trans hs16 (HSub.trans hs39 (HSub.trans hs262 hs618)))) hd_8) x_.At y750 hy750) rfl en_30 .none rfl ?_
                              refine JL.move .none rfl ?_
                              refine JL.extract rfl rfl .none rfl ?_
                              refine JL.extract rfl rfl .none rfl ?_
                              refine JL.assign .none rfl ?_
                              refine JL.assign .none rfl ?_
                              refine JL.done hQ ?_
                              refine JQ.go ?_
                              refine JC.seq ?_
                              refine JC.seq ?_
                              refine JC.region (by rfl) ?_
                              intro hQ
                              refine JL.move .none rfl ?_
                              refine JL.bin rfl rfl rfl .none rfl ?_
                              refine JL.move .none rfl ?_
                              refine JL.cut 3 (fun f => f 3 = .pointer (some ⟨b1, 0, none⟩) ∧ f 5 = .pointer (some ⟨b2, 0, none⟩) ∧ f 20 = .int .i64 y750.1 ∧ f 184 = .bool ((y750.2 != 0) || (decide (y750.1 < 0)))) ?_ ?_
                              · intro hJ751
                                rcases bcases (y750.2 != 0) with hc752 | hc752
                                · skip
                                  refine JL.skip (.bool rfl rfl rfl hc752) rfl ?_
                                  refine JL.skip (.bool rfl rfl rfl hc752) rfl ?_
                                  refine JL.pick_t (b := (y750.2 != 0)) rfl hc752 .none rfl ?_
                                  exact hJ751 _ ⟨rfl, rfl, rfl, or_t hc752 rfl⟩
                                · skip
                                  refine JL.move (.some rfl rfl rfl hc752) rfl ?_
                                  refine JL.bin rfl rfl rfl (.some rfl rfl rfl hc752) rfl ?_
                                  refine JL.pick_f (b := (y750.2 != 0)) rfl hc752 .none rfl ?_
                                  exact hJ751 _ ⟨rfl, rfl, rfl, or_f hc752 rfl⟩
                              · rintro f ⟨hf3, hf5, hf20, hf184⟩
                                refine (JL.norm (i := 3) hf3 (JL.norm (i := 5) hf5 (JL.norm (i := 20) hf20 (JL.norm (i := 184) hf184 ?_))))
                                refine JL.move .none rfl ?_
                                refine JL.cut 3 (fun f => f 3 = .pointer (some ⟨b1, 0, none⟩) ∧ f 5 = .pointer (some ⟨b2, 0, none⟩) ∧ f 20 = .int .i64 y750.1 ∧ f 188 = .bool (((y750.2 != 0) || (decide (y750.1 < 0))) || (decide (99 < y750.1)))) ?_ ?_
                                · intro hJ753
                                  rcases bcases ((y750.2 != 0) || (decide (y750.1 < 0))) with hc754 | hc754
                                  · skip
                                    refine JL.skip (.bool rfl rfl rfl hc754) rfl ?_
                                    refine JL.skip (.bool rfl rfl rfl hc754) rfl ?_
                                    refine JL.pick_t (b := ((y750.2 != 0) || (decide (y750.1 < 0)))) rfl hc754 .none rfl ?_
                                    exact hJ753 _ ⟨rfl, rfl, rfl, or_t hc754 rfl⟩
                                  · skip
                                    refine JL.move (.some rfl rfl rfl hc754) rfl ?_
                                    refine JL.bin rfl rfl rfl (.some rfl rfl rfl hc754) rfl ?_
                                    refine JL.pick_f (b := ((y750.2 != 0) || (decide (y750.1 < 0)))) rfl hc754 .none rfl ?_
                                    exact hJ753 _ ⟨rfl, rfl, rfl, or_f hc754 rfl⟩
                                · rintro f ⟨hf3, hf5, hf20, hf188⟩
                                  refine (JL.norm (i := 3) hf3 (JL.norm (i := 5) hf5 (JL.norm (i := 20) hf20 (JL.norm (i := 188) hf188 ?_))))
                                  refine JL.done hQ ?_
                                  refine JQ.go ?_
                                  rcases ite_some hF with ⟨hc755, hF⟩ | ⟨hc755, hF⟩
                                  · refine JC.cond_t (b := (((y750.2 != 0) || (decide (y750.1 < 0))) || (decide (99 < y750.1)))) rfl hc755 ?_
                                    refine JC.seq ?_
                                    refine JC.region (by rfl) ?_
                                    intro hQ
                                    refine JL.assign .none rfl ?_
                                    refine JL.done hQ ?_
                                    refine JQ.go ?_
                                    refine JC.ret ?_
                                    refine JQ.ret_then ?_
                                    obtain rfl := Option.some.inj hF
                                    exact JQ.outS rfl (.tmp .nil) rfl
                                  · refine JC.cond_f (b := (((y750.2 != 0) || (decide (y750.1 < 0))) || (decide (99 < y750.1)))) rfl hc755 ?_
                                    refine JC.skip ?_
                                    refine JQ.go ?_
                                    refine JC.seq ?_
                                    refine JC.region (by rfl) ?_
                                    intro hQ
                                    refine JL.loadOwn 1 az_30 rfl rfl rfl .none rfl ?_
                                    refine JL.move .none rfl ?_
                                    refine JL.fieldAddr fo_69_1 rfl .none rfl ?_
                                    refine JL.loadOwn 0 az_3 rfl rfl rfl .none rfl ?_
                                    refine JL.build (l := [.int .i64 y750.1, .int .i64 x_.At]) (by kernel_rfl) .none rfl ?_
                                    refine JL.buildSlice (e := 32) (l := [.int .i64 y750.1, .int .i64 x_.At]) (by kernel_rfl) .none rfl ?_
                                    intro b756
                                    refine JL.freezeC 0 (l := [.int .i64 y750.1, .int .i64 x_.At]) rfl ?_
                                    intro H757 hs757 hc758
                                    have hg759 : SL H757 2 R_Gust (.slice (some ⟨b756, 0, none⟩) 1 1) [(Gust.mk y750.1 x_.At)] := CH.sl (l := [(Gust.mk y750.1 x_.At)]) (CH.cons (cs := [.int .i64 y750.1, .int .i64 x_.At]) rfl rfl CH.nil) hc758 ⟨by simp, by simp⟩
                                    obtain ⟨y760, hy760, hF⟩ := bind_some hF
                                    refine JL.callS (c_gusts_Stands n H757 d d_v0 (SL.mono R_Section_mono (HSub.trans hs13 (HSub.trans hs16 (HSub.trans hs39 (HSub.trans hs262 (HSub.trans hs618 hs757))))) hd_0) d_v7 (SL.mono R_Span_mono (HSub.trans hs13 (HSub.trans hs16 (HSub.trans hs39 (HSub.trans hs262 (HSub.trans hs618 hs757))))) hd_7) d_v8 (SL.mono RInt.mono (HSub.trans hs13 (HSub.trans hs16 (HSub.trans hs39 (HSub.trans hs262 (HSub.trans hs618 hs757))))) hd_8) [(Gust.mk y750.1 x_.At)] (.slice (some ⟨b756, 0, none⟩) 1 1) hg759 y760 hy760) rfl en_29 .none rfl ?_
                                    refine JL.move .none rfl ?_
                                    refine JL.extract rfl rfl .none rfl ?_
                                    refine JL.extract rfl rfl .none rfl ?_
                                    refine JL.assign .none rfl ?_
                                    refine JL.assign .none rfl ?_
                                    refine JL.done hQ ?_
                                    refine JQ.go ?_
                                    refine JC.fresh (fun f => f 3 = .pointer (some ⟨b1, 0, none⟩) ∧ f 5 = .pointer (some ⟨b2, 0, none⟩) ∧ f 20 = .int .i64 y750.1 ∧ f 22 = .int .i64 y760.1 ∧ f 23 = .int .i64 y760.2) ⟨rfl, rfl, rfl, rfl, rfl⟩ ?_
                                    rintro f ⟨hf3, hf5, hf20, hf22, hf23⟩
                                    refine (JC.norm (i := 3) hf3 (JC.norm (i := 5) hf5 (JC.norm (i := 20) hf20 (JC.norm (i := 22) hf22 (JC.norm (i := 23) hf23 ?_)))))
                                    refine JC.seq ?_
                                    refine JC.seq ?_
                                    refine JC.region (by rfl) ?_
                                    intro hQ
                                    refine JL.move .none rfl ?_
                                    refine JL.bin rfl rfl rfl .none rfl ?_
                                    refine JL.move .none rfl ?_
                                    refine JL.cut 3 (fun f => f 3 = .pointer (some ⟨b1, 0, none⟩) ∧ f 5 = .pointer (some ⟨b2, 0, none⟩) ∧ f 20 = .int .i64 y750.1 ∧ f 204 = .bool ((y760.2 != 0) || (y760.1 != 1))) ?_ ?_
                                    · intro hJ761
                                      rcases bcases (y760.2 != 0) with hc762 | hc762
                                      · skip
                                        refine JL.skip (.bool rfl rfl rfl hc762) rfl ?_
                                        refine JL.skip (.bool rfl rfl rfl hc762) rfl ?_
                                        refine JL.pick_t (b := (y760.2 != 0)) rfl hc762 .none rfl ?_
                                        exact hJ761 _ ⟨rfl, rfl, rfl, or_t hc762 rfl⟩
                                      · skip
                                        refine JL.move (.some rfl rfl rfl hc762) rfl ?_
                                        refine JL.bin rfl rfl rfl (.some rfl rfl rfl hc762) rfl ?_
                                        refine JL.pick_f (b := (y760.2 != 0)) rfl hc762 .none rfl ?_
                                        exact hJ761 _ ⟨rfl, rfl, rfl, or_f hc762 rfl⟩
                                    · rintro f ⟨hf3, hf5, hf20, hf204⟩
                                      refine (JL.norm (i := 3) hf3 (JL.norm (i := 5) hf5 (JL.norm (i := 20) hf20 (JL.norm (i := 204) hf204 ?_))))
                                      refine JL.done hQ ?_
                                      refine JQ.go ?_
                                      rcases ite_some hF with ⟨hc763, hF⟩ | ⟨hc763, hF⟩
                                      · refine JC.cond_t (b := ((y760.2 != 0) || (y760.1 != 1))) rfl hc763 ?_
                                        refine JC.seq ?_
                                        refine JC.region (by rfl) ?_
                                        intro hQ
                                        refine JL.assign .none rfl ?_
                                        refine JL.done hQ ?_
                                        refine JQ.go ?_
                                        refine JC.ret ?_
                                        refine JQ.ret_then ?_
                                        obtain rfl := Option.some.inj hF
                                        exact JQ.outS rfl (.tmp .nil) rfl
                                      · refine JC.cond_f (b := ((y760.2 != 0) || (y760.1 != 1))) rfl hc763 ?_
                                        refine JC.skip ?_
                                        refine JQ.go ?_
                                        refine JC.seq ?_
                                        refine JC.seq ?_
                                        refine JC.region (by rfl) ?_
                                        intro hQ
                                        refine JL.move .none rfl ?_
                                        refine JL.bin rfl rfl rfl .none rfl ?_
                                        refine JL.done hQ ?_
                                        refine JQ.go ?_
                                        rcases ite_some hF with ⟨hc764, hF⟩ | ⟨hc764, hF⟩
                                        · refine JC.cond_t (b := decide (y750.1 < 99)) rfl hc764 ?_
                                          refine JC.seq ?_
                                          refine JC.region (by rfl) ?_
                                          intro hQ
                                          refine JL.loadOwn 1 az_30 rfl rfl rfl .none rfl ?_
                                          refine JL.move .none rfl ?_
                                          refine JL.bin rfl rfl rfl .none rfl ?_
                                          refine JL.fieldAddr fo_69_1 rfl .none rfl ?_
                                          refine JL.loadOwn 0 az_3 rfl rfl rfl .none rfl ?_
                                          refine JL.build (l := [.int .i64 (w64 (y750.1 + 1)), .int .i64 x_.At]) (by kernel_rfl) .none rfl ?_
                                          refine JL.buildSlice (e := 32) (l := [.int .i64 (w64 (y750.1 + 1)), .int .i64 x_.At]) (by kernel_rfl) .none rfl ?_
                                          intro b765
                                          refine JL.freezeC 0 (l := [.int .i64 (w64 (y750.1 + 1)), .int .i64 x_.At]) rfl ?_
                                          intro H766 hs766 hc767
                                          have hg768 : SL H766 2 R_Gust (.slice (some ⟨b765, 0, none⟩) 1 1) [(Gust.mk (w64 (y750.1 + 1)) x_.At)] := CH.sl (l := [(Gust.mk (w64 (y750.1 + 1)) x_.At)]) (CH.cons (cs := [.int .i64 (w64 (y750.1 + 1)), .int .i64 x_.At]) rfl rfl CH.nil) hc767 ⟨by simp, by simp⟩
                                          obtain ⟨y769, hy769, hF⟩ := bind_some hF
                                          refine JL.callS (c_gusts_Stands n H766 d d_v0 (SL.mono R_Section_mono (HSub.trans hs13 (HSub.trans hs16 (HSub.trans hs39 (HSub.trans hs262 (HSub.trans hs618 (HSub.trans hs757 hs766)))))) hd_0) d_v7 (SL.mono R_Span_mono (HSub.trans hs13 (HSub.trans hs16 (HSub.trans hs39 (HSub.trans hs262 (HSub.trans hs618 (HSub.trans hs757 hs766)))))) hd_7) d_v8 (SL.mono RInt.mono (HSub.trans hs13 (HSub.trans hs16 (HSub.trans hs39 (HSub.trans hs262 (HSub.trans hs618 (HSub.trans hs757 hs766)))))) hd_8) [(Gust.mk (w64 (y750.1 + 1)) x_.At)] (.slice (some ⟨b765, 0, none⟩) 1 1) hg768 y769 hy769) rfl en_29 .none rfl ?_
                                          refine JL.move .none rfl ?_
                                          refine JL.extract rfl rfl .none rfl ?_
                                          refine JL.extract rfl rfl .none rfl ?_
                                          refine JL.assign .none rfl ?_
                                          refine JL.assign .none rfl ?_
                                          refine JL.done hQ ?_
                                          refine JQ.go ?_
                                          refine JC.fresh (fun f => f 22 = .int .i64 y769.1 ∧ f 23 = .int .i64 y769.2) ⟨rfl, rfl⟩ ?_
                                          rintro f ⟨hf22, hf23⟩
                                          refine (JC.norm (i := 22) hf22 (JC.norm (i := 23) hf23 ?_))
                                          refine JC.seq ?_
                                          refine JC.region (by rfl) ?_
                                          intro hQ
                                          refine JL.move .none rfl ?_
                                          refine JL.bin rfl rfl rfl .none rfl ?_
                                          refine JL.move .none rfl ?_
                                          refine JL.cut 3 (fun f => f 223 = .bool ((y769.2 == 0) && (y769.1 != 1))) ?_ ?_
                                          · intro hJ770
                                            rcases bcases (y769.2 == 0) with hc771 | hc771
                                            · skip
                                              refine JL.move (.some rfl rfl rfl hc771) rfl ?_
                                              refine JL.bin rfl rfl rfl (.some rfl rfl rfl hc771) rfl ?_
                                              refine JL.pick_t (b := (y769.2 == 0)) rfl hc771 .none rfl ?_
                                              exact hJ770 _ (and_t hc771 rfl)
                                            · skip
                                              refine JL.skip (.bool rfl rfl rfl hc771) rfl ?_
                                              refine JL.skip (.bool rfl rfl rfl hc771) rfl ?_
                                              refine JL.pick_f (b := (y769.2 == 0)) rfl hc771 .none rfl ?_
                                              exact hJ770 _ (and_f hc771 rfl)
                                          · rintro f hf223
                                            refine (JL.norm (i := 223) hf223 ?_)
                                            refine JL.move .none rfl ?_
                                            obtain ⟨p773, hp773, hF⟩ := bind_some hF
                                            refine JL.cut 2 (fun f => f 226 = .bool p773) ?_ ?_
                                            · intro hJ774
                                              rcases ite_some hp773 with ⟨hc775, hF⟩ | ⟨hc775, hF⟩
                                              · skip
                                                obtain ⟨y776, hy776, hF⟩ := bind_some hF
                                                refine JL.callS (c_law05_works n H766 y776 hy776) rfl en_12 (.some rfl rfl rfl hc775) rfl ?_
                                                refine JL.pick_t (b := ((y769.2 == 0) && (y769.1 != 1))) rfl hc775 .none rfl ?_
                                                obtain rfl := Option.some.inj hF
                                                exact hJ774 _ (rfl)
                                              · skip
                                                refine JL.skip (.bool rfl rfl rfl hc775) rfl ?_
                                                refine JL.pick_f (b := ((y769.2 == 0) && (y769.1 != 1))) rfl hc775 .none rfl ?_
                                                obtain rfl := Option.some.inj hF
                                                exact hJ774 _ (rfl)
                                            · rintro f hf226
                                              refine (JL.norm (i := 226) hf226 ?_)
                                              refine JL.assign .none rfl ?_
                                              refine JL.done hQ ?_
                                              refine JQ.go ?_
                                              refine JC.ret ?_
                                              refine JQ.ret_then ?_
                                              obtain rfl := Option.some.inj hF
                                              exact JQ.outS rfl (.tmp .nil) rfl
                                        · refine JC.cond_f (b := decide (y750.1 < 99)) rfl hc764 ?_
                                          refine JC.skip ?_
                                          refine JQ.go ?_
                                          refine JC.seq ?_
                                          refine JC.region (by rfl) ?_
                                          intro hQ
                                          obtain ⟨y777, hy777, hF⟩ := bind_some hF
                                          refine JL.callS (c_law05_works n H757 y777 hy777) rfl en_12 .none rfl ?_
                                          refine JL.assign .none rfl ?_
                                          refine JL.done hQ ?_
                                          refine JQ.go ?_
                                          refine JC.ret ?_
                                          obtain rfl := Option.some.inj hF
                                          exact JQ.outS rfl (.tmp .nil) rfl

end Go.Proofs.Ytcpnnfdhafbemaa
