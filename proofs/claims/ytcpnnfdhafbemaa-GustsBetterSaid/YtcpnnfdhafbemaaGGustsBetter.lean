/-
  Printed by a program: functions of the translation as plain functions, and their contracts.
-/
import Derived.Test.YtcpnnfdhafbemaaGenK14
namespace Go.Proofs.Ytcpnnfdhafbemaa
open Go Go.RowKit Go.Dec
set_option linter.unusedVariables false
-- 7 ferrule/ferrulelaw05.GustsBetter
def F_law05_GustsBetter_s1 (n : Nat) (d : Canopy) (class_ : List Gust) (x_ : law05_Better) (y19 : Canopy) (y40 : Span) (y45 : Span) : Int → Option (Int ⊕ (Bool ⊕ Unit))
  | i_733 => if decide (i_733 < (class_.length : Int)) = true then ((geti class_ i_733).bind fun y744 => (F_gusts_Goes n d y744).bind fun y749 => (geti class_ i_733).bind fun y778 => (F_gusts_Goes n (Canopy.mk y19.Frame (setx y19.Ribs x_.Rib (Span.mk (w64 (y40.Low + x_.Low)) (w64 (y45.High - x_.High)))) y19.Shares) y778).bind fun y783 => (if ((y749.2.2 != 0) || (y783.2.2 != 0)) = true then (some true) else ((F_law05_subset n y749.1 y783.1).bind fun y812 => some (!y812)) : Option Bool).bind fun p809 => (if p809 = true then (some true) else ((F_law05_subset n y783.2.1 y749.2.1).bind fun y817 => some (!y817)) : Option Bool).bind fun p814 => if p814 = true then (some (Sum.inr (Sum.inl false))) else (some (Sum.inl (w64 (i_733 + 1))))) else (some (Sum.inr (Sum.inr ())))
def F_law05_GustsBetter (n : Nat) (d : Canopy) (class_ : List Gust) (x_ : law05_Better) : Option Bool :=
  (F_law05_ready n d class_).bind fun y3 => (if (!y3) = true then (some true) else ((F_ref05_IsRib n d x_.Rib).bind fun y8 => some (!y8)) : Option Bool).bind fun p5 => if ((((p5 || (decide (x_.Low < 0))) || (decide (x_.High < 0))) || (decide (99999 < x_.Low))) || (decide (99999 < x_.High))) = true then ((F_law05_works n).bind fun y18 => some y18) else ((F_ref05_Copy n d).bind fun y19 => (geti d.Ribs x_.Rib).bind fun y40 => (geti d.Ribs x_.Rib).bind fun y45 => (geti y19.Ribs x_.Rib).bind fun y50 => (F_law05_ready n (Canopy.mk y19.Frame (setx y19.Ribs x_.Rib (Span.mk (w64 (y40.Low + x_.Low)) (w64 (y45.High - x_.High)))) y19.Shares) class_).bind fun y118 => if (!y118) = true then ((F_law05_works n).bind fun y120 => some y120) else ((loopO n (F_law05_GustsBetter_s1 n d class_ x_ y19 y40 y45) 0).bind fun r564 => match r564 with | .inl o => some o | .inr _ => (F_gusts_Stands n d class_).bind fun y819 => (F_gusts_Stands n (Canopy.mk y19.Frame (setx y19.Ribs x_.Rib (Span.mk (w64 (y40.Low + x_.Low)) (w64 (y45.High - x_.High)))) y19.Shares) class_).bind fun y820 => (F_gusts_Weak n d class_).bind fun y821 => (F_gusts_Weak n (Canopy.mk y19.Frame (setx y19.Ribs x_.Rib (Span.mk (w64 (y40.Low + x_.Low)) (w64 (y45.High - x_.High)))) y19.Shares) class_).bind fun y824 => (if (((((y819.2 == 0) && (y820.2 == 0)) && (y821.2 == 0)) && (y824.2 == 0)) && ((y819.1 == 3) || (y819.1 == y820.1))) = true then ((F_law05_subset n y824.1 y821.1).bind fun y843 => some y843) else (some false) : Option Bool).bind fun p840 => (if p840 = true then ((F_law05_works n).bind fun y848 => some y848) else (some false) : Option Bool).bind fun p845 => some p845))
set_option maxRecDepth 100000 in
set_option maxHeartbeats 40000000 in
theorem c_law05_GustsBetter (n : Nat) (H : Hp) (d : Canopy) (d_v0 : Value) (hd_0 : SL H 7 R_Section d_v0 d.Frame.Sections) (d_v7 : Value) (hd_7 : SL H 2 R_Span d_v7 d.Ribs) (d_v8 : Value) (hd_8 : SL H 1 RInt d_v8 d.Shares) (class_ : List Gust) (class__v0 : Value) (hclass__0 : SL H 2 R_Gust class__v0 class_) (x_ : law05_Better) (y : Bool) (hF : F_law05_GustsBetter n d class_ x_ = some y) : SC Try.prog 7 [.agg [d_v0, .int .i64 d.Frame.Low, .int .i64 d.Frame.High, .int .i64 d.Frame.Ease.Num, .int .i64 d.Frame.Ease.Den, .int .i64 d.Frame.Rod, .int .i64 d.Frame.Case, d_v7, d_v8].toArray, class__v0, .agg [.int .i64 x_.Rib, .int .i64 x_.Low, .int .i64 x_.High].toArray] (.bool y) H := by
  rw [F_law05_GustsBetter] at hF
  refine SC.of (N := 187) Try.func7 rfl rfl rfl fun w => ?_
  refine JC.seq ?_
  refine JC.region (by rfl) ?_
  intro hQ
  refine JL.box (cs := [d_v0, .int .i64 d.Frame.Low, .int .i64 d.Frame.High, .int .i64 d.Frame.Ease.Num, .int .i64 d.Frame.Ease.Den, .int .i64 d.Frame.Rod, .int .i64 d.Frame.Case, d_v7, d_v8]) rfl .none rfl ?_
  intro b1
  refine JL.box (cs := [.int .i64 x_.Rib, .int .i64 x_.Low, .int .i64 x_.High]) rfl .none rfl ?_
  intro b2
  refine JL.assign .none rfl ?_
  refine JL.done hQ ?_
  refine JQ.go ?_
  refine JC.seq ?_
  refine JC.seq ?_
  refine JC.region (by rfl) ?_
  intro hQ
  refine JL.loadOwn 1 az_30 rfl rfl rfl .none rfl ?_
  refine JL.move .none rfl ?_
  obtain ⟨y3, hy3, hF⟩ := bind_some hF
  refine JL.callS (c_law05_ready n H d d_v0 hd_0 d_v7 hd_7 d_v8 hd_8 class_ class__v0 hclass__0 y3 hy3) rfl en_11 .none rfl ?_
  refine JL.not rfl .none rfl ?_
  refine JL.move .none rfl ?_
  obtain ⟨p5, hp5, hF⟩ := bind_some hF
  refine JL.cut 6 (fun f => f 1 = class__v0 ∧ f 3 = .pointer (some ⟨b1, 0, none⟩) ∧ f 5 = .pointer (some ⟨b2, 0, none⟩) ∧ f 33 = .bool p5) ?_ ?_
  · intro hJ6
    rcases ite_some hp5 with ⟨hc7, hF⟩ | ⟨hc7, hF⟩
    · skip
      refine JL.skip (.bool rfl rfl rfl hc7) rfl ?_
      refine JL.skip (.bool rfl rfl rfl hc7) rfl ?_
      refine JL.skip (.bool rfl rfl rfl hc7) rfl ?_
      refine JL.skip (.bool rfl rfl rfl hc7) rfl ?_
      refine JL.skip (.bool rfl rfl rfl hc7) rfl ?_
      refine JL.pick_t (b := (!y3)) rfl hc7 .none rfl ?_
      obtain rfl := Option.some.inj hF
      exact hJ6 _ ⟨rfl, rfl, rfl, rfl⟩
    · skip
      refine JL.loadOwn 1 az_30 rfl rfl rfl (.some rfl rfl rfl hc7) rfl ?_
      refine JL.fieldAddr fo_63_0 rfl (.some rfl rfl rfl hc7) rfl ?_
      refine JL.loadOwn 0 az_3 rfl rfl rfl (.some rfl rfl rfl hc7) rfl ?_
      obtain ⟨y8, hy8, hF⟩ := bind_some hF
      refine JL.callS (c_ref05_IsRib n H d d_v0 hd_0 d_v7 hd_7 d_v8 hd_8 x_.Rib y8 hy8) rfl en_28 (.some rfl rfl rfl hc7) rfl ?_
      refine JL.not rfl (.some rfl rfl rfl hc7) rfl ?_
      refine JL.pick_f (b := (!y3)) rfl hc7 .none rfl ?_
      obtain rfl := Option.some.inj hF
      exact hJ6 _ ⟨rfl, rfl, rfl, rfl⟩
  · rintro f ⟨hf1, hf3, hf5, hf33⟩
    refine (JL.norm (i := 1) hf1 (JL.norm (i := 3) hf3 (JL.norm (i := 5) hf5 (JL.norm (i := 33) hf33 ?_))))
    refine JL.move .none rfl ?_
    refine JL.cut 4 (fun f => f 1 = class__v0 ∧ f 3 = .pointer (some ⟨b1, 0, none⟩) ∧ f 5 = .pointer (some ⟨b2, 0, none⟩) ∧ f 38 = .bool (p5 || (decide (x_.Low < 0)))) ?_ ?_
    · intro hJ9
      rcases bcases p5 with hc10 | hc10
      · skip
        refine JL.skip (.bool rfl rfl rfl hc10) rfl ?_
        refine JL.skip (.bool rfl rfl rfl hc10) rfl ?_
        refine JL.skip (.bool rfl rfl rfl hc10) rfl ?_
        refine JL.pick_t (b := p5) rfl hc10 .none rfl ?_
        exact hJ9 _ ⟨rfl, rfl, rfl, or_t hc10 rfl⟩
      · skip
        refine JL.fieldAddr fo_63_1 rfl (.some rfl rfl rfl hc10) rfl ?_
        refine JL.loadOwn 0 az_3 rfl rfl rfl (.some rfl rfl rfl hc10) rfl ?_
        refine JL.bin rfl rfl rfl (.some rfl rfl rfl hc10) rfl ?_
        refine JL.pick_f (b := p5) rfl hc10 .none rfl ?_
        exact hJ9 _ ⟨rfl, rfl, rfl, or_f hc10 rfl⟩
    · rintro f ⟨hf1, hf3, hf5, hf38⟩
      refine (JL.norm (i := 1) hf1 (JL.norm (i := 3) hf3 (JL.norm (i := 5) hf5 (JL.norm (i := 38) hf38 ?_))))
      refine JL.move .none rfl ?_
      refine JL.cut 4 (fun f => f 1 = class__v0 ∧ f 3 = .pointer (some ⟨b1, 0, none⟩) ∧ f 5 = .pointer (some ⟨b2, 0, none⟩) ∧ f 43 = .bool ((p5 || (decide (x_.Low < 0))) || (decide (x_.High < 0)))) ?_ ?_
      · intro hJ11
        rcases bcases (p5 || (decide (x_.Low < 0))) with hc12 | hc12
        · skip
          refine JL.skip (.bool rfl rfl rfl hc12) rfl ?_
          refine JL.skip (.bool rfl rfl rfl hc12) rfl ?_
          refine JL.skip (.bool rfl rfl rfl hc12) rfl ?_
          refine JL.pick_t (b := (p5 || (decide (x_.Low < 0)))) rfl hc12 .none rfl ?_
          exact hJ11 _ ⟨rfl, rfl, rfl, or_t hc12 rfl⟩
        · skip
          refine JL.fieldAddr fo_63_2 rfl (.some rfl rfl rfl hc12) rfl ?_
          refine JL.loadOwn 0 az_3 rfl rfl rfl (.some rfl rfl rfl hc12) rfl ?_
          refine JL.bin rfl rfl rfl (.some rfl rfl rfl hc12) rfl ?_
          refine JL.pick_f (b := (p5 || (decide (x_.Low < 0)))) rfl hc12 .none rfl ?_
          exact hJ11 _ ⟨rfl, rfl, rfl, or_f hc12 rfl⟩
      · rintro f ⟨hf1, hf3, hf5, hf43⟩
        refine (JL.norm (i := 1) hf1 (JL.norm (i := 3) hf3 (JL.norm (i := 5) hf5 (JL.norm (i := 43) hf43 ?_))))
        refine JL.move .none rfl ?_
        refine JL.cut 4 (fun f => f 1 = class__v0 ∧ f 3 = .pointer (some ⟨b1, 0, none⟩) ∧ f 5 = .pointer (some ⟨b2, 0, none⟩) ∧ f 48 = .bool (((p5 || (decide (x_.Low < 0))) || (decide (x_.High < 0))) || (decide (99999 < x_.Low)))) ?_ ?_
        · intro hJ13
          rcases bcases ((p5 || (decide (x_.Low < 0))) || (decide (x_.High < 0))) with hc14 | hc14
          · skip
            refine JL.skip (.bool rfl rfl rfl hc14) rfl ?_
            refine JL.skip (.bool rfl rfl rfl hc14) rfl ?_
            refine JL.skip (.bool rfl rfl rfl hc14) rfl ?_
            refine JL.pick_t (b := ((p5 || (decide (x_.Low < 0))) || (decide (x_.High < 0)))) rfl hc14 .none rfl ?_
            exact hJ13 _ ⟨rfl, rfl, rfl, or_t hc14 rfl⟩
          · skip
            refine JL.fieldAddr fo_63_1 rfl (.some rfl rfl rfl hc14) rfl ?_
            refine JL.loadOwn 0 az_3 rfl rfl rfl (.some rfl rfl rfl hc14) rfl ?_
            refine JL.bin rfl rfl rfl (.some rfl rfl rfl hc14) rfl ?_
            refine JL.pick_f (b := ((p5 || (decide (x_.Low < 0))) || (decide (x_.High < 0)))) rfl hc14 .none rfl ?_
            exact hJ13 _ ⟨rfl, rfl, rfl, or_f hc14 rfl⟩
        · rintro f ⟨hf1, hf3, hf5, hf48⟩
          refine (JL.norm (i := 1) hf1 (JL.norm (i := 3) hf3 (JL.norm (i := 5) hf5 (JL.norm (i := 48) hf48 ?_))))
          refine JL.move .none rfl ?_
          refine JL.cut 4 (fun f => f 1 = class__v0 ∧ f 3 = .pointer (some ⟨b1, 0, none⟩) ∧ f 5 = .pointer (some ⟨b2, 0, none⟩) ∧ f 53 = .bool ((((p5 || (decide (x_.Low < 0))) || (decide (x_.High < 0))) || (decide (99999 < x_.Low))) || (decide (99999 < x_.High)))) ?_ ?_
          · intro hJ15
            rcases bcases (((p5 || (decide (x_.Low < 0))) || (decide (x_.High < 0))) || (decide (99999 < x_.Low))) with hc16 | hc16
            · skip
              refine JL.skip (.bool rfl rfl rfl hc16) rfl ?_
              refine JL.skip (.bool rfl rfl rfl hc16) rfl ?_
              refine JL.skip (.bool rfl rfl rfl hc16) rfl ?_
              refine JL.pick_t (b := (((p5 || (decide (x_.Low < 0))) || (decide (x_.High < 0))) || (decide (99999 < x_.Low)))) rfl hc16 .none rfl ?_
              exact hJ15 _ ⟨rfl, rfl, rfl, or_t hc16 rfl⟩
            · skip
              refine JL.fieldAddr fo_63_2 rfl (.some rfl rfl rfl hc16) rfl ?_
              refine JL.loadOwn 0 az_3 rfl rfl rfl (.some rfl rfl rfl hc16) rfl ?_
              refine JL.bin rfl rfl rfl (.some rfl rfl rfl hc16) rfl ?_
              refine JL.pick_f (b := (((p5 || (decide (x_.Low < 0))) || (decide (x_.High < 0))) || (decide (99999 < x_.Low)))) rfl hc16 .none rfl ?_
              exact hJ15 _ ⟨rfl, rfl, rfl, or_f hc16 rfl⟩
          · rintro f ⟨hf1, hf3, hf5, hf53⟩
            refine (JL.norm (i := 1) hf1 (JL.norm (i := 3) hf3 (JL.norm (i := 5) hf5 (JL.norm (i := 53) hf53 ?_))))
            refine JL.done hQ ?_
            refine JQ.go ?_
            rcases ite_some hF with ⟨hc17, hF⟩ | ⟨hc17, hF⟩
            · refine JC.cond_t (b := ((((p5 || (decide (x_.Low < 0))) || (decide (x_.High < 0))) || (decide (99999 < x_.Low))) || (decide (99999 < x_.High)))) rfl hc17 ?_
              refine JC.seq ?_
              refine JC.region (by rfl) ?_
              intro hQ
              obtain ⟨y18, hy18, hF⟩ := bind_some hF
              refine JL.callS (c_law05_works n H y18 hy18) rfl en_12 .none rfl ?_
              refine JL.assign .none rfl ?_
              refine JL.done hQ ?_
              refine JQ.go ?_
              refine JC.ret ?_
              refine JQ.ret_then ?_
              obtain rfl := Option.some.inj hF
              exact JQ.outS rfl (.tmp .nil) rfl
            · refine JC.cond_f (b := ((((p5 || (decide (x_.Low < 0))) || (decide (x_.High < 0))) || (decide (99999 < x_.Low))) || (decide (99999 < x_.High)))) rfl hc17 ?_
              refine JC.skip ?_
              refine JQ.go ?_
              refine JC.seq ?_
              refine JC.region (by rfl) ?_
              intro hQ
              refine JL.loadOwn 1 az_30 rfl rfl rfl .none rfl ?_
              obtain ⟨y19, hy19, hF⟩ := bind_some hF
              refine JL.callXC (x_ref05_Copy n H d d_v0 hd_0 d_v7 hd_7 d_v8 hd_8 y19 hy19) rfl en_13 .none rfl ?_
              rintro H20 vv21 _ hs20 ⟨y19_v0, y19_v1, y19_xs1, y19_v2, y19_xs2, rfl, rfl, hy19_0, hy19_1, hy19_2⟩
              refine JL.alloc ze_30 .none rfl ?_
              intro b24
              refine JL.oneG 1 rfl (fun ho25 => ?_)
              refine JL.oneG 0 rfl (fun ho26 => ?_)
              refine JL.storeOwn 0 (cs := [y19_v0, .int .i64 y19.Frame.Low, .int .i64 y19.Frame.High, .int .i64 y19.Frame.Ease.Num, .int .i64 y19.Frame.Ease.Den, .int .i64 y19.Frame.Rod, .int .i64 y19.Frame.Case, y19_v1, y19_v2]) az_30 rfl rfl rfl (one_cons (SL.one hy19_0) (one_cons rfl (one_cons rfl (one_cons rfl (one_cons rfl (one_cons rfl (one_cons rfl (one_cons ho25.1 (one_cons ho26.1 one_nil))))))))) rfl rfl .none ?_
              refine JL.done hQ ?_
              refine JQ.go ?_
              refine JC.seq ?_
              obtain ⟨y40, hy40, hF⟩ := bind_some hF
              obtain ⟨y45, hy45, hF⟩ := bind_some hF
              obtain ⟨y50, hy50, hF⟩ := bind_some hF
              refine JC.mixed 26 27 #[false, false, false, false, false, false, false, false, false, false, false, false, false, false, false, false, false, false, false, false, false, false, false, false, false, false, false] [(b24, .cells [y19_v0, .int .i64 y19.Frame.Low, .int .i64 y19.Frame.High, .int .i64 y19.Frame.Ease.Num, .int .i64 y19.Frame.Ease.Den, .int .i64 y19.Frame.Rod, .int .i64 y19.Frame.Case, y19_v1, y19_v2].toArray 30), (b2, .cells [.int .i64 x_.Rib, .int .i64 x_.Low, .int .i64 x_.High].toArray 63), (b1, .cells [d_v0, .int .i64 d.Frame.Low, .int .i64 d.Frame.High, .int .i64 d.Frame.Ease.Num, .int .i64 d.Frame.Ease.Den, .int .i64 d.Frame.Rod, .int .i64 d.Frame.Case, d_v7, d_v8].toArray 30)] (by rfl) mo_ (by kernel_rfl) (by kernel_rfl) ?_
              intro hQ hE
              refine JA.take 0 (listed' := #[true, false, false, false, false, false, false, false, false, false, false, false, false, false, false, false, false, false, false, false, false, false, false, false, false, false, false]) hQ rfl (by kernel_rfl) (by kernel_rfl) (by kernel_rfl) (by kernel_rfl) (by kernel_rfl) hE (HSub.refl _) (.cons_cons _ (.cons_cons _ (.cons_cons _ (List.nil_sublist _)))) ?_
              refine JL.fieldAddr fo_30_1 rfl .none rfl ?_
              refine JA.cont ?_
              refine JA.take 1 (listed' := #[true, true, false, false, false, false, false, false, false, false, false, false, false, false, false, false, false, false, false, false, false, false, false, false, false, false, false]) hQ rfl (by kernel_rfl) (by kernel_rfl) (by kernel_rfl) (by kernel_rfl) (by kernel_rfl) hE (HSub.refl _) (.cons_cons _ (.cons_cons _ (.cons_cons _ (List.nil_sublist _)))) ?_
              refine JL.loadOwn 0 az_27 rfl rfl rfl .none rfl ?_
              refine JA.cont ?_
              refine JA.take 2 (listed' := #[true, true, true, false, false, false, false, false, false, false, false, false, false, false, false, false, false, false, false, false, false, false, false, false, false, false, false]) hQ rfl (by kernel_rfl) (by kernel_rfl) (by kernel_rfl) (by kernel_rfl) (by kernel_rfl) hE (HSub.refl _) (.cons_cons _ (.cons_cons _ (.cons_cons _ (List.nil_sublist _)))) ?_
              refine JL.fieldAddr fo_63_0 rfl .none rfl ?_
              refine JA.cont ?_
              refine JA.take 3 (listed' := #[true, true, true, true, false, false, false, false, false, false, false, false, false, false, false, false, false, false, false, false, false, false, false, false, false, false, false]) hQ rfl (by kernel_rfl) (by kernel_rfl) (by kernel_rfl) (by kernel_rfl) (by kernel_rfl) hE (HSub.refl _) (.cons_cons _ (.cons_cons _ (.cons_cons _ (List.nil_sublist _)))) ?_
              refine JL.loadOwn 1 az_3 rfl rfl rfl .none rfl ?_
              refine JA.cont ?_
              refine JA.take 4 (listed' := #[true, true, true, true, true, false, false, false, false, false, false, false, false, false, false, false, false, false, false, false, false, false, false, false, false, false, false]) hQ rfl (by kernel_rfl) (by kernel_rfl) (by kernel_rfl) (by kernel_rfl) (by kernel_rfl) hE (HSub.refl _) (.cons_cons _ (.cons_cons _ (.cons_cons _ (List.nil_sublist _)))) ?_
              refine JL.fieldAddr fo_30_1 rfl .none rfl ?_
              refine JA.cont ?_
              refine JA.take 5 (listed' := #[true, true, true, true, true, true, false, false, false, false, false, false, false, false, false, false, false, false, false, false, false, false, false, false, false, false, false]) hQ rfl (by kernel_rfl) (by kernel_rfl) (by kernel_rfl) (by kernel_rfl) (by kernel_rfl) hE (HSub.refl _) (.cons_cons _ (.cons_cons _ (.cons_cons _ (List.nil_sublist _)))) ?_
              refine JL.loadOwn 2 az_27 rfl rfl rfl .none rfl ?_
              refine JA.cont ?_
              refine JA.take 6 (listed' := #[true, true, true, true, true, true, true, false, false, false, false, false, false, false, false, false, false, false, false, false, false, false, false, false, false, false, false]) hQ rfl (by kernel_rfl) (by kernel_rfl) (by kernel_rfl) (by kernel_rfl) (by kernel_rfl) hE (HSub.refl _) (.cons_cons _ (.cons_cons _ (.cons_cons _ (List.nil_sublist _)))) ?_
              refine JL.fieldAddr fo_63_0 rfl .none rfl ?_
              refine JA.cont ?_
              refine JA.take 7 (listed' := #[true, true, true, true, true, true, true, true, false, false, false, false, false, false, false, false, false, false, false, false, false, false, false, false, false, false, false]) hQ rfl (by kernel_rfl) (by kernel_rfl) (by kernel_rfl) (by kernel_rfl) (by kernel_rfl) hE (HSub.refl _) (.cons_cons _ (.cons_cons _ (.cons_cons _ (List.nil_sublist _)))) ?_
              refine JL.loadOwn 1 az_3 rfl rfl rfl .none rfl ?_
              refine JA.cont ?_
              refine JA.take 8 (listed' := #[true, true, true, true, true, true, true, true, true, false, false, false, false, false, false, false, false, false, false, false, false, false, false, false, false, false, false]) hQ rfl (by kernel_rfl) (by kernel_rfl) (by kernel_rfl) (by kernel_rfl) (by kernel_rfl) hE (HSub.refl _) (.cons_cons _ (.cons_cons _ (.cons_cons _ (List.nil_sublist _)))) ?_
              refine JL.indexSL (R := R_Span) sl_27 (SL.mono R_Span_mono hs20 hd_7) rfl hy40 .none rfl ?_
              rintro b99 o100 cs101 hc102 - rfl
              refine JA.cont ?_
              refine JA.take 9 (listed' := #[true, true, true, true, true, true, true, true, true, true, false, false, false, false, false, false, false, false, false, false, false, false, false, false, false, false, false]) hQ rfl (by kernel_rfl) (by kernel_rfl) (by kernel_rfl) (by kernel_rfl) (by kernel_rfl) hE (HSub.refl _) (.cons_cons _ (.cons_cons _ (.cons_cons _ (List.nil_sublist _)))) ?_
              refine JL.fieldAddr fo_38_0 rfl .none rfl ?_
              refine JA.cont ?_
              refine JA.take 10 (listed' := #[true, true, true, true, true, true, true, true, true, true, true, false, false, false, false, false, false, false, false, false, false, false, false, false, false, false, false]) hQ rfl (by kernel_rfl) (by kernel_rfl) (by kernel_rfl) (by kernel_rfl) (by kernel_rfl) hE (HSub.refl _) (.cons_cons _ (.cons_cons _ (.cons_cons _ (List.nil_sublist _)))) ?_
              refine JL.loadH 0 az_3 rfl hc102 rfl .none rfl ?_
              refine JA.cont ?_
              refine JA.take 11 (listed' := #[true, true, true, true, true, true, true, true, true, true, true, true, false, false, false, false, false, false, false, false, false, false, false, false, false, false, false]) hQ rfl (by kernel_rfl) (by kernel_rfl) (by kernel_rfl) (by kernel_rfl) (by kernel_rfl) hE (HSub.refl _) (.cons_cons _ (.cons_cons _ (.cons_cons _ (List.nil_sublist _)))) ?_
              refine JL.fieldAddr fo_63_1 rfl .none rfl ?_
              refine JA.cont ?_
              refine JA.take 12 (listed' := #[true, true, true, true, true, true, true, true, true, true, true, true, true, false, false, false, false, false, false, false, false, false, false, false, false, false, false]) hQ rfl (by kernel_rfl) (by kernel_rfl) (by kernel_rfl) (by kernel_rfl) (by kernel_rfl) hE (HSub.refl _) (.cons_cons _ (.cons_cons _ (.cons_cons _ (List.nil_sublist _)))) ?_
              refine JL.loadOwn 1 az_3 rfl rfl rfl .none rfl ?_
              refine JA.cont ?_
              refine JA.take 13 (listed' := #[true, true, true, true, true, true, true, true, true, true, true, true, true, true, false, false, false, false, false, false, false, false, false, false, false, false, false]) hQ rfl (by kernel_rfl) (by kernel_rfl) (by kernel_rfl) (by kernel_rfl) (by kernel_rfl) hE (HSub.refl _) (.cons_cons _ (.cons_cons _ (.cons_cons _ (List.nil_sublist _)))) ?_
              refine JL.bin rfl rfl rfl .none rfl ?_
              refine JA.cont ?_
              refine JA.take 14 (listed' := #[true, true, true, true, true, true, true, true, true, true, true, true, true, true, true, false, false, false, false, false, false, false, false, false, false, false, false]) hQ rfl (by kernel_rfl) (by kernel_rfl) (by kernel_rfl) (by kernel_rfl) (by kernel_rfl) hE (HSub.refl _) (.cons_cons _ (.cons_cons _ (.cons_cons _ (List.nil_sublist _)))) ?_
              refine JL.fieldAddr fo_30_1 rfl .none rfl ?_
              refine JA.cont ?_
              refine JA.take 15 (listed' := #[true, true, true, true, true, true, true, true, true, true, true, true, true, true, true, true, false, false, false, false, false, false, false, false, false, false, false]) hQ rfl (by kernel_rfl) (by kernel_rfl) (by kernel_rfl) (by kernel_rfl) (by kernel_rfl) hE (HSub.refl _) (.cons_cons _ (.cons_cons _ (.cons_cons _ (List.nil_sublist _)))) ?_
              refine JL.loadOwn 2 az_27 rfl rfl rfl .none rfl ?_
              refine JA.cont ?_
              refine JA.take 16 (listed' := #[true, true, true, true, true, true, true, true, true, true, true, true, true, true, true, true, true, false, false, false, false, false, false, false, false, false, false]) hQ rfl (by kernel_rfl) (by kernel_rfl) (by kernel_rfl) (by kernel_rfl) (by kernel_rfl) hE (HSub.refl _) (.cons_cons _ (.cons_cons _ (.cons_cons _ (List.nil_sublist _)))) ?_
              refine JL.fieldAddr fo_63_0 rfl .none rfl ?_
              refine JA.cont ?_
              refine JA.take 17 (listed' := #[true, true, true, true, true, true, true, true, true, true, true, true, true, true, true, true, true, true, false, false, false, false, false, false, false, false, false]) hQ rfl (by kernel_rfl) (by kernel_rfl) (by kernel_rfl) (by kernel_rfl) (by kernel_rfl) hE (HSub.refl _) (.cons_cons _ (.cons_cons _ (.cons_cons _ (List.nil_sublist _)))) ?_
              refine JL.loadOwn 1 az_3 rfl rfl rfl .none rfl ?_
              refine JA.cont ?_
              refine JA.take 18 (listed' := #[true, true, true, true, true, true, true, true, true, true, true, true, true, true, true, true, true, true, true, false, false, false, false, false, false, false, false]) hQ rfl (by kernel_rfl) (by kernel_rfl) (by kernel_rfl) (by kernel_rfl) (by kernel_rfl) hE (HSub.refl _) (.cons_cons _ (.cons_cons _ (.cons_cons _ (List.nil_sublist _)))) ?_
              refine JL.indexSL (R := R_Span) sl_27 (SL.mono R_Span_mono hs20 hd_7) rfl hy45 .none rfl ?_
              rintro b107 o108 cs109 hc110 - rfl
              refine JA.cont ?_
              refine JA.take 19 (listed' := #[true, true, true, true, true, true, true, true, true, true, true, true, true, true, true, true, true, true, true, true, false, false, false, false, false, false, false]) hQ rfl (by kernel_rfl) (by kernel_rfl) (by kernel_rfl) (by kernel_rfl) (by kernel_rfl) hE (HSub.refl _) (.cons_cons _ (.cons_cons _ (.cons_cons _ (List.nil_sublist _)))) ?_
              refine JL.fieldAddr fo_38_1 rfl .none rfl ?_
              refine JA.cont ?_
              refine JA.take 20 (listed' := #[true, true, true, true, true, true, true, true, true, true, true, true, true, true, true, true, true, true, true, true, true, false, false, false, false, false, false]) hQ rfl (by kernel_rfl) (by kernel_rfl) (by kernel_rfl) (by kernel_rfl) (by kernel_rfl) hE (HSub.refl _) (.cons_cons _ (.cons_cons _ (.cons_cons _ (List.nil_sublist _)))) ?_
              refine JL.loadH 1 az_3 rfl hc110 rfl .none rfl ?_
              refine JA.cont ?_
              refine JA.take 21 (listed' := #[true, true, true, true, true, true, true, true, true, true, true, true, true, true, true, true, true, true, true, true, true, true, false, false, false, false, false]) hQ rfl (by kernel_rfl) (by kernel_rfl) (by kernel_rfl) (by kernel_rfl) (by kernel_rfl) hE (HSub.refl _) (.cons_cons _ (.cons_cons _ (.cons_cons _ (List.nil_sublist _)))) ?_
              refine JL.fieldAddr fo_63_2 rfl .none rfl ?_
              refine JA.cont ?_
              refine JA.take 22 (listed' := #[true, true, true, true, true, true, true, true, true, true, true, true, true, true, true, true, true, true, true, true, true, true, true, false, false, false, false]) hQ rfl (by kernel_rfl) (by kernel_rfl) (by kernel_rfl) (by kernel_rfl) (by kernel_rfl) hE (HSub.refl _) (.cons_cons _ (.cons_cons _ (.cons_cons _ (List.nil_sublist _)))) ?_
              refine JL.loadOwn 1 az_3 rfl rfl rfl .none rfl ?_
              refine JA.cont ?_
              refine JA.take 23 (listed' := #[true, true, true, true, true, true, true, true, true, true, true, true, true, true, true, true, true, true, true, true, true, true, true, true, false, false, false]) hQ rfl (by kernel_rfl) (by kernel_rfl) (by kernel_rfl) (by kernel_rfl) (by kernel_rfl) hE (HSub.refl _) (.cons_cons _ (.cons_cons _ (.cons_cons _ (List.nil_sublist _)))) ?_
              refine JL.bin rfl rfl rfl .none rfl ?_
              refine JA.cont ?_
              refine JA.take 24 (listed' := #[true, true, true, true, true, true, true, true, true, true, true, true, true, true, true, true, true, true, true, true, true, true, true, true, true, false, false]) hQ rfl (by kernel_rfl) (by kernel_rfl) (by kernel_rfl) (by kernel_rfl) (by kernel_rfl) hE (HSub.refl _) (.cons_cons _ (.cons_cons _ (.cons_cons _ (List.nil_sublist _)))) ?_
              refine JL.build (l := [.int .i64 (w64 (y40.Low + x_.Low)), .int .i64 (w64 (y45.High - x_.High))]) (by kernel_rfl) .none rfl ?_
              refine JA.cont ?_
              refine JA.many [25] (by kernel_rfl) (by simp) (all_one ⟨_, #[true, true, true, true, true, true, true, true, true, true, true, true, true, true, true, true, true, true, true, true, true, true, true, true, true, true, false], rfl, (by kernel_rfl), ?_⟩)
              refine JL.indexG 1 (l := y19.Ribs) sl_27 rfl rfl rfl rfl hy50 .none rfl ?_
              intro b111 hb112
              refine JA.after hE (HSub.refl _) (.cons_cons _ (.cons_cons _ (.cons_cons _ (List.nil_sublist _)))) ?_
              refine JA.many [26] (by kernel_rfl) (by simp) (all_one ⟨_, #[true, true, true, true, true, true, true, true, true, true, true, true, true, true, true, true, true, true, true, true, true, true, true, true, true, true, true], rfl, (by kernel_rfl), ?_⟩)
              refine JL.storeG (R := R_Span) 1 (i := x_.Rib) (l := y19.Ribs) (y := y50) (y' := (Span.mk (w64 (y40.Low + x_.Low)) (w64 (y45.High - x_.High)))) (off := 0) az_38 rfl rfl rfl rfl (one_cons rfl (one_cons rfl one_nil)) rfl hb112 hy19_1 rfl hy50 rfl (by rintro cs rfl; rfl) .none ?_
              intro xs113 hch114
              refine JA.sink (by kernel_rfl) ?_
              refine JA.done hQ (by kernel_rfl) ?_
              refine JQ.go ?_
              refine JC.fresh (fun f => f 1 = class__v0 ∧ f 3 = .pointer (some ⟨b1, 0, none⟩) ∧ f 7 = .pointer (some ⟨b24, 0, none⟩)) ⟨rfl, rfl, rfl⟩ ?_
              rintro f ⟨hf1, hf3, hf7⟩
              refine (JC.norm (i := 1) hf1 (JC.norm (i := 3) hf3 (JC.norm (i := 7) hf7 ?_)))
              refine JC.seq ?_
              refine JC.seq ?_
              refine JC.region (by rfl) ?_
              intro hQ
              refine JL.loadOwn 0 az_30 rfl rfl rfl .none rfl ?_
              refine JL.move .none rfl ?_
              obtain ⟨y118, hy118, hF⟩ := bind_some hF
              refine JL.callLG2 (R := R_Span) (S := RInt) 1 0 rfl R_Span_mono hch114 rfl rfl RInt.mono hy19_2 rfl (fun H115 hs115 hg116 hg117 => c_law05_ready n H115 (Canopy.mk y19.Frame (setx y19.Ribs x_.Rib (Span.mk (w64 (y40.Low + x_.Low)) (w64 (y45.High - x_.High)))) y19.Shares) y19_v0 (SL.mono R_Section_mono hs115 hy19_0) y19_v1 hg116 y19_v2 hg117 class_ class__v0 (SL.mono R_Gust_mono (HSub.trans hs20 hs115) hclass__0) y118 hy118) rfl en_11 .none rfl ?_
              refine JL.not rfl .none rfl ?_
              refine JL.done hQ ?_
              refine JQ.go ?_
              rcases ite_some hF with ⟨hc119, hF⟩ | ⟨hc119, hF⟩
              · refine JC.cond_t (b := (!y118)) rfl hc119 ?_
                refine JC.seq ?_
                refine JC.region (by rfl) ?_
                intro hQ
                obtain ⟨y120, hy120, hF⟩ := bind_some hF
                refine JL.callS (c_law05_works n H20 y120 hy120) rfl en_12 .none rfl ?_
                refine JL.assign .none rfl ?_
                refine JL.done hQ ?_
                refine JQ.go ?_
                refine JC.ret ?_
                refine JQ.ret_then ?_
                obtain rfl := Option.some.inj hF
                exact JQ.outS rfl (.tmp .nil) rfl
              · refine JC.cond_f (b := (!y118)) rfl hc119 ?_
                refine JC.skip ?_
                refine JQ.go ?_
                refine JC.seq ?_
                refine JC.seq ?_
                refine JC.region (by rfl) ?_
                intro hQ
                refine JL.assign .none rfl ?_
                refine JL.done hQ ?_
                refine JQ.go ?_
                refine JC.freezeG 1 (R := R_Span) rfl R_Span_mono hch114 rfl ?_
                intro H216 hs216 hg217
                refine JC.freezeG 0 (R := RInt) rfl RInt.mono (CH.mono RInt.mono hs216 hy19_2) rfl ?_
                intro H307 hs307 hg308
                obtain ⟨r564, hlr564, hKr564⟩ := bind_some hF
                refine JC.join (fun (_ : Unit) H563 f bs gs => f 1 = class__v0 ∧ f 3 = .pointer (some ⟨b1, 0, none⟩) ∧ f 7 = .pointer (some ⟨b24, 0, none⟩) ∧ bs = [(b24, .cells [y19_v0, .int .i64 y19.Frame.Low, .int .i64 y19.Frame.High, .int .i64 y19.Frame.Ease.Num, .int .i64 y19.Frame.Ease.Den, .int .i64 y19.Frame.Rod, .int .i64 y19.Frame.Case, y19_v1, y19_v2].toArray 30), (b1, .cells [d_v0, .int .i64 d.Frame.Low, .int .i64 d.Frame.High, .int .i64 d.Frame.Ease.Num, .int .i64 d.Frame.Ease.Den, .int .i64 d.Frame.Rod, .int .i64 d.Frame.Case, d_v7, d_v8].toArray 30)] ∧ gs = [] ∧ HSub H307 H563 ∧ Sum.inr () = r564) ?_ ?_
                · skip
                  refine JC.block ?_
                  refine JC.mask [true, false, true] [] ?_
                  refine JC.loop hlr564 (fun (i_733 : Int) H734 f bs gs => f 1 = class__v0 ∧ f 3 = .pointer (some ⟨b1, 0, none⟩) ∧ f 7 = .pointer (some ⟨b24, 0, none⟩) ∧ f 8 = .int .i64 i_733 ∧ bs = [(b24, .cells [y19_v0, .int .i64 y19.Frame.Low, .int .i64 y19.Frame.High, .int .i64 y19.Frame.Ease.Num, .int .i64 y19.Frame.Ease.Den, .int .i64 y19.Frame.Rod, .int .i64 y19.Frame.Case, y19_v1, y19_v2].toArray 30), (b1, .cells [d_v0, .int .i64 d.Frame.Low, .int .i64 d.Frame.High, .int .i64 d.Frame.Ease.Num, .int .i64 d.Frame.Ease.Den, .int .i64 d.Frame.Rod, .int .i64 d.Frame.Case, d_v7, d_v8].toArray 30)] ∧ gs = [] ∧ HSub H307 H734) ⟨rfl, rfl, rfl, rfl, rfl, rfl, (HSub.refl _)⟩ ?_
                  rintro i_733 x736 H734 f bs gs ⟨hf1, hf3, hf7, hf8, rfl, rfl, hs734⟩ hF hr735
                  rw [F_law05_GustsBetter_s1] at hF
                  refine (JC.norm (i := 1) hf1 (JC.norm (i := 3) hf3 (JC.norm (i := 7) hf7 (JC.norm (i := 8) hf8 ?_))))
                  refine JC.seq ?_
                  refine JC.seq ?_
                  refine JC.region (by rfl) ?_
                  intro hQ
                  refine JL.move .none rfl ?_
                  refine JL.move .none rfl ?_
                  refine JL.lenSL (R := R_Gust) ul_34 (SL.mono R_Gust_mono (HSub.trans hs20 (HSub.trans hs216 (HSub.trans hs307 hs734))) hclass__0) .none rfl ?_
                  refine JL.bin rfl rfl rfl .none rfl ?_
                  refine JL.done hQ ?_
                  refine JQ.go ?_
                  rcases ite_some hF with ⟨hc737, hF⟩ | ⟨hc737, hF⟩
                  · refine JC.cond_t (b := decide (i_733 < (class_.length : Int))) rfl hc737 ?_
                    refine JC.skip ?_
                    refine JQ.go ?_
                    refine JC.seq ?_
                    refine JC.block ?_
                    refine JC.seq ?_
                    obtain ⟨y744, hy744, hF⟩ := bind_some hF
                    obtain ⟨y749, hy749, hF⟩ := bind_some hF
                    refine JC.mixed 13 13 #[false, false, false, false, false, false, false, false, false, false, false, false, false] [(b24, .cells [y19_v0, .int .i64 y19.Frame.Low, .int .i64 y19.Frame.High, .int .i64 y19.Frame.Ease.Num, .int .i64 y19.Frame.Ease.Den, .int .i64 y19.Frame.Rod, .int .i64 y19.Frame.Case, y19_v1, y19_v2].toArray 30), (b1, .cells [d_v0, .int .i64 d.Frame.Low, .int .i64 d.Frame.High, .int .i64 d.Frame.Ease.Num, .int .i64 d.Frame.Ease.Den, .int .i64 d.Frame.Rod, .int .i64 d.Frame.Case, d_v7, d_v8].toArray 30)] (by rfl) mo_ (by kernel_rfl) (by kernel_rfl) ?_
                    intro hQ hE
                    refine JA.take 0 (listed' := #[true, false, false, false, false, false, false, false, false, false, false, false, false]) hQ rfl (by kernel_rfl) (by kernel_rfl) (by kernel_rfl) (by kernel_rfl) (by kernel_rfl) hE (HSub.refl _) (.cons_cons _ (.cons_cons _ (List.nil_sublist _))) ?_
                    refine JL.loadOwn 1 az_30 rfl rfl rfl .none rfl ?_
                    refine JA.cont ?_
                    refine JA.take 1 (listed' := #[true, true, false, false, false, false, false, false, false, false, false, false, false]) hQ rfl (by kernel_rfl) (by kernel_rfl) (by kernel_rfl) (by kernel_rfl) (by kernel_rfl) hE (HSub.refl _) (.cons_cons _ (.cons_cons _ (List.nil_sublist _))) ?_
                    refine JL.move .none rfl ?_
                    refine JA.cont ?_
                    refine JA.take 2 (listed' := #[true, true, true, false, false, false, false, false, false, false, false, false, false]) hQ rfl (by kernel_rfl) (by kernel_rfl) (by kernel_rfl) (by kernel_rfl) (by kernel_rfl) hE (HSub.refl _) (.cons_cons _ (.cons_cons _ (List.nil_sublist _))) ?_
                    refine JL.move .none rfl ?_
                    refine JA.cont ?_
                    refine JA.take 3 (listed' := #[true, true, true, true, false, false, false, false, false, false, false, false, false]) hQ rfl (by kernel_rfl) (by kernel_rfl) (by kernel_rfl) (by kernel_rfl) (by kernel_rfl) hE (HSub.refl _) (.cons_cons _ (.cons_cons _ (List.nil_sublist _))) ?_
                    refine JL.indexSL (R := R_Gust) sl_34 (SL.mono R_Gust_mono (HSub.trans hs20 (HSub.trans hs216 (HSub.trans hs307 hs734))) hclass__0) rfl hy744 .none rfl ?_
                    rintro b766 o767 cs768 hc769 - rfl
                    refine JA.cont ?_
                    refine JA.take 4 (listed' := #[true, true, true, true, true, false, false, false, false, false, false, false, false]) hQ rfl (by kernel_rfl) (by kernel_rfl) (by kernel_rfl) (by kernel_rfl) (by kernel_rfl) hE (HSub.refl _) (.cons_cons _ (.cons_cons _ (List.nil_sublist _))) ?_
                    refine JL.loadH 0 az_32 rfl hc769 rfl .none rfl ?_
                    refine JA.cont ?_
                    refine JA.many [5] (by kernel_rfl) (by simp) (all_one ⟨_, #[true, true, true, true, true, true, false, false, false, false, false, false, false], rfl, (by kernel_rfl), ?_⟩)
                    refine JL.callH (c_gusts_Goes n H734 d d_v0 (SL.mono R_Section_mono (HSub.trans hs20 (HSub.trans hs216 (HSub.trans hs307 hs734))) hd_0) d_v7 (SL.mono R_Span_mono (HSub.trans hs20 (HSub.trans hs216 (HSub.trans hs307 hs734))) hd_7) d_v8 (SL.mono RInt.mono (HSub.trans hs20 (HSub.trans hs216 (HSub.trans hs307 hs734))) hd_8) y744 y749 hy749) rfl en_14 .none rfl ?_
                    rintro H770 vv771 hs770 ⟨y749a_v0, y749b_v0, rfl, hy749a_0, hy749b_0⟩
                    refine JA.after hE hs770 (.cons_cons _ (.cons_cons _ (List.nil_sublist _))) ?_
                    refine JA.take 6 (listed' := #[true, true, true, true, true, true, true, false, false, false, false, false, false]) hQ rfl (by kernel_rfl) (by kernel_rfl) (by kernel_rfl) (by kernel_rfl) (by kernel_rfl) hE hs770 (.cons_cons _ (.cons_cons _ (List.nil_sublist _))) ?_
                    refine JL.move .none rfl ?_
                    refine JA.cont ?_
                    refine JA.take 7 (listed' := #[true, true, true, true, true, true, true, true, false, false, false, false, false]) hQ rfl (by kernel_rfl) (by kernel_rfl) (by kernel_rfl) (by kernel_rfl) (by kernel_rfl) hE hs770 (.cons_cons _ (.cons_cons _ (List.nil_sublist _))) ?_
                    refine JL.extract rfl rfl .none rfl ?_
                    refine JA.cont ?_
                    refine JA.take 8 (listed' := #[true, true, true, true, true, true, true, true, true, false, false, false, false]) hQ rfl (by kernel_rfl) (by kernel_rfl) (by kernel_rfl) (by kernel_rfl) (by kernel_rfl) hE hs770 (.cons_cons _ (.cons_cons _ (List.nil_sublist _))) ?_
                    refine JL.extract rfl rfl .none rfl ?_
                    refine JA.cont ?_
                    refine JA.take 9 (listed' := #[true, true, true, true, true, true, true, true, true, true, false, false, false]) hQ rfl (by kernel_rfl) (by kernel_rfl) (by kernel_rfl) (by kernel_rfl) (by kernel_rfl) hE hs770 (.cons_cons _ (.cons_cons _ (List.nil_sublist _))) ?_
                    refine JL.extract rfl rfl .none rfl ?_
                    refine JA.cont ?_
                    refine JA.take 10 (listed' := #[true, true, true, true, true, true, true, true, true, true, true, false, false]) hQ rfl (by kernel_rfl) (by kernel_rfl) (by kernel_rfl) (by kernel_rfl) (by kernel_rfl) hE hs770 (.cons_cons _ (.cons_cons _ (List.nil_sublist _))) ?_
                    refine JL.assign .none rfl ?_
                    refine JA.cont ?_
                    refine JA.take 11 (listed' := #[true, true, true, true, true, true, true, true, true, true, true, true, false]) hQ rfl (by kernel_rfl) (by kernel_rfl) (by kernel_rfl) (by kernel_rfl) (by kernel_rfl) hE hs770 (.cons_cons _ (.cons_cons _ (List.nil_sublist _))) ?_
                    refine JL.assign .none rfl ?_
                    refine JA.cont ?_
                    refine JA.take 12 (listed' := #[true, true, true, true, true, true, true, true, true, true, true, true, true]) hQ rfl (by kernel_rfl) (by kernel_rfl) (by kernel_rfl) (by kernel_rfl) (by kernel_rfl) hE hs770 (.cons_cons _ (.cons_cons _ (List.nil_sublist _))) ?_
                    refine JL.assign .none rfl ?_
                    refine JA.cont ?_
                    refine JA.done hQ (by kernel_rfl) ?_
                    refine JQ.go ?_
                    refine JC.fresh (fun f => f 1 = class__v0 ∧ f 3 = .pointer (some ⟨b1, 0, none⟩) ∧ f 7 = .pointer (some ⟨b24, 0, none⟩) ∧ f 8 = .int .i64 i_733 ∧ f 9 = y749a_v0 ∧ f 10 = y749b_v0 ∧ f 11 = .int .i64 y749.2.2) ⟨rfl, rfl, rfl, rfl, rfl, rfl, rfl⟩ ?_
                    rintro f ⟨hf1, hf3, hf7, hf8, hf9, hf10, hf11⟩
                    refine (JC.norm (i := 1) hf1 (JC.norm (i := 3) hf3 (JC.norm (i := 7) hf7 (JC.norm (i := 8) hf8 (JC.norm (i := 9) hf9 (JC.norm (i := 10) hf10 (JC.norm (i := 11) hf11 ?_)))))))
                    refine JC.seq ?_
                    obtain ⟨y778, hy778, hF⟩ := bind_some hF
                    obtain ⟨y783, hy783, hF⟩ := bind_some hF
                    refine JC.mixed 13 13 #[false, false, false, false, false, false, false, false, false, false, false, false, false] [(b24, .cells [y19_v0, .int .i64 y19.Frame.Low, .int .i64 y19.Frame.High, .int .i64 y19.Frame.Ease.Num, .int .i64 y19.Frame.Ease.Den, .int .i64 y19.Frame.Rod, .int .i64 y19.Frame.Case, y19_v1, y19_v2].toArray 30), (b1, .cells [d_v0, .int .i64 d.Frame.Low, .int .i64 d.Frame.High, .int .i64 d.Frame.Ease.Num, .int .i64 d.Frame.Ease.Den, .int .i64 d.Frame.Rod, .int .i64 d.Frame.Case, d_v7, d_v8].toArray 30)] (by rfl) mo_ (by kernel_rfl) (by kernel_rfl) ?_
                    intro hQ hE
                    refine JA.take 0 (listed' := #[true, false, false, false, false, false, false, false, false, false, false, false, false]) hQ rfl (by kernel_rfl) (by kernel_rfl) (by kernel_rfl) (by kernel_rfl) (by kernel_rfl) hE (HSub.refl _) (.cons_cons _ (.cons_cons _ (List.nil_sublist _))) ?_
                    refine JL.loadOwn 0 az_30 rfl rfl rfl .none rfl ?_
                    refine JA.cont ?_
                    refine JA.take 1 (listed' := #[true, true, false, false, false, false, false, false, false, false, false, false, false]) hQ rfl (by kernel_rfl) (by kernel_rfl) (by kernel_rfl) (by kernel_rfl) (by kernel_rfl) hE (HSub.refl _) (.cons_cons _ (.cons_cons _ (List.nil_sublist _))) ?_
                    refine JL.move .none rfl ?_
                    refine JA.cont ?_
                    refine JA.take 2 (listed' := #[true, true, true, false, false, false, false, false, false, false, false, false, false]) hQ rfl (by kernel_rfl) (by kernel_rfl) (by kernel_rfl) (by kernel_rfl) (by kernel_rfl) hE (HSub.refl _) (.cons_cons _ (.cons_cons _ (List.nil_sublist _))) ?_
                    refine JL.move .none rfl ?_
                    refine JA.cont ?_
                    refine JA.take 3 (listed' := #[true, true, true, true, false, false, false, false, false, false, false, false, false]) hQ rfl (by kernel_rfl) (by kernel_rfl) (by kernel_rfl) (by kernel_rfl) (by kernel_rfl) hE (HSub.refl _) (.cons_cons _ (.cons_cons _ (List.nil_sublist _))) ?_
                    refine JL.indexSL (R := R_Gust) sl_34 (SL.mono R_Gust_mono (HSub.trans hs20 (HSub.trans hs216 (HSub.trans hs307 (HSub.trans hs734 hs770)))) hclass__0) rfl hy778 .none rfl ?_
                    rintro b800 o801 cs802 hc803 - rfl
                    refine JA.cont ?_
                    refine JA.take 4 (listed' := #[true, true, true, true, true, false, false, false, false, false, false, false, false]) hQ rfl (by kernel_rfl) (by kernel_rfl) (by kernel_rfl) (by kernel_rfl) (by kernel_rfl) hE (HSub.refl _) (.cons_cons _ (.cons_cons _ (List.nil_sublist _))) ?_
                    refine JL.loadH 0 az_32 rfl hc803 rfl .none rfl ?_
                    refine JA.cont ?_
                    refine JA.many [5] (by kernel_rfl) (by simp) (all_one ⟨_, #[true, true, true, true, true, true, false, false, false, false, false, false, false], rfl, (by kernel_rfl), ?_⟩)
                    refine JL.callH (c_gusts_Goes n H770 (Canopy.mk y19.Frame (setx y19.Ribs x_.Rib (Span.mk (w64 (y40.Low + x_.Low)) (w64 (y45.High - x_.High)))) y19.Shares) y19_v0 (SL.mono R_Section_mono (HSub.trans hs216 (HSub.trans hs307 (HSub.trans hs734 hs770))) hy19_0) y19_v1 (SL.mono R_Span_mono (HSub.trans hs307 (HSub.trans hs734 hs770)) hg217) y19_v2 (SL.mono RInt.mono (HSub.trans hs734 hs770) hg308) y778 y783 hy783) rfl en_14 .none rfl ?_
                    rintro H804 vv805 hs804 ⟨y783a_v0, y783b_v0, rfl, hy783a_0, hy783b_0⟩
                    refine JA.after hE hs804 (.cons_cons _ (.cons_cons _ (List.nil_sublist _))) ?_
                    refine JA.take 6 (listed' := #[true, true, true, true, true, true, true, false, false, false, false, false, false]) hQ rfl (by kernel_rfl) (by kernel_rfl) (by kernel_rfl) (by kernel_rfl) (by kernel_rfl) hE hs804 (.cons_cons _ (.cons_cons _ (List.nil_sublist _))) ?_
                    refine JL.move .none rfl ?_
                    refine JA.cont ?_
                    refine JA.take 7 (listed' := #[true, true, true, true, true, true, true, true, false, false, false, false, false]) hQ rfl (by kernel_rfl) (by kernel_rfl) (by kernel_rfl) (by kernel_rfl) (by kernel_rfl) hE hs804 (.cons_cons _ (.cons_cons _ (List.nil_sublist _))) ?_
                    refine JL.extract rfl rfl .none rfl ?_
                    refine JA.cont ?_
                    refine JA.take 8 (listed' := #[true, true, true, true, true, true, true, true, true, false, false, false, false]) hQ rfl (by kernel_rfl) (by kernel_rfl) (by kernel_rfl) (by kernel_rfl) (by kernel_rfl) hE hs804 (.cons_cons _ (.cons_cons _ (List.nil_sublist _))) ?_
                    refine JL.extract rfl rfl .none rfl ?_
                    refine JA.cont ?_
                    refine JA.take 9 (listed' := #[true, true, true, true, true, true, true, true, true, true, false, false, false]) hQ rfl (by kernel_rfl) (by kernel_rfl) (by kernel_rfl) (by kernel_rfl) (by kernel_rfl) hE hs804 (.cons_cons _ (.cons_cons _ (List.nil_sublist _))) ?_
                    refine JL.extract rfl rfl .none rfl ?_
                    refine JA.cont ?_
                    refine JA.take 10 (listed' := #[true, true, true, true, true, true, true, true, true, true, true, false, false]) hQ rfl (by kernel_rfl) (by kernel_rfl) (by kernel_rfl) (by kernel_rfl) (by kernel_rfl) hE hs804 (.cons_cons _ (.cons_cons _ (List.nil_sublist _))) ?_
                    refine JL.assign .none rfl ?_
                    refine JA.cont ?_
                    refine JA.take 11 (listed' := #[true, true, true, true, true, true, true, true, true, true, true, true, false]) hQ rfl (by kernel_rfl) (by kernel_rfl) (by kernel_rfl) (by kernel_rfl) (by kernel_rfl) hE hs804 (.cons_cons _ (.cons_cons _ (List.nil_sublist _))) ?_
                    refine JL.assign .none rfl ?_
                    refine JA.cont ?_
                    refine JA.take 12 (listed' := #[true, true, true, true, true, true, true, true, true, true, true, true, true]) hQ rfl (by kernel_rfl) (by kernel_rfl) (by kernel_rfl) (by kernel_rfl) (by kernel_rfl) hE hs804 (.cons_cons _ (.cons_cons _ (List.nil_sublist _))) ?_
                    refine JL.assign .none rfl ?_
                    refine JA.cont ?_
                    refine JA.done hQ (by kernel_rfl) ?_
                    refine JQ.go ?_
                    refine JC.fresh (fun f => f 1 = class__v0 ∧ f 3 = .pointer (some ⟨b1, 0, none⟩) ∧ f 7 = .pointer (some ⟨b24, 0, none⟩) ∧ f 8 = .int .i64 i_733 ∧ f 9 = y749a_v0 ∧ f 10 = y749b_v0 ∧ f 11 = .int .i64 y749.2.2 ∧ f 12 = y783a_v0 ∧ f 13 = y783b_v0 ∧ f 14 = .int .i64 y783.2.2) ⟨rfl, rfl, rfl, rfl, rfl, rfl, rfl, rfl, rfl, rfl⟩ ?_
                    rintro f ⟨hf1, hf3, hf7, hf8, hf9, hf10, hf11, hf12, hf13, hf14⟩
                    refine (JC.norm (i := 1) hf1 (JC.norm (i := 3) hf3 (JC.norm (i := 7) hf7 (JC.norm (i := 8) hf8 (JC.norm (i := 9) hf9 (JC.norm (i := 10) hf10 (JC.norm (i := 11) hf11 (JC.norm (i := 12) hf12 (JC.norm (i := 13) hf13 (JC.norm (i := 14) hf14 ?_))))))))))
                    refine JC.seq ?_
                    refine JC.region (by rfl) ?_
                    intro hQ
                    refine JL.move .none rfl ?_
                    refine JL.bin rfl rfl rfl .none rfl ?_
                    refine JL.move .none rfl ?_
                    refine JL.cut 3 (fun f => f 1 = class__v0 ∧ f 3 = .pointer (some ⟨b1, 0, none⟩) ∧ f 7 = .pointer (some ⟨b24, 0, none⟩) ∧ f 8 = .int .i64 i_733 ∧ f 9 = y749a_v0 ∧ f 10 = y749b_v0 ∧ f 12 = y783a_v0 ∧ f 13 = y783b_v0 ∧ f 119 = .bool ((y749.2.2 != 0) || (y783.2.2 != 0))) ?_ ?_
                    · intro hJ806
                      rcases bcases (y749.2.2 != 0) with hc807 | hc807
                      · skip
                        refine JL.skip (.bool rfl rfl rfl hc807) rfl ?_
                        refine JL.skip (.bool rfl rfl rfl hc807) rfl ?_
                        refine JL.pick_t (b := (y749.2.2 != 0)) rfl hc807 .none rfl ?_
                        exact hJ806 _ ⟨rfl, rfl, rfl, rfl, rfl, rfl, rfl, rfl, or_t hc807 rfl⟩
                      · skip
                        refine JL.move (.some rfl rfl rfl hc807) rfl ?_
                        refine JL.bin rfl rfl rfl (.some rfl rfl rfl hc807) rfl ?_
                        refine JL.pick_f (b := (y749.2.2 != 0)) rfl hc807 .none rfl ?_
                        exact hJ806 _ ⟨rfl, rfl, rfl, rfl, rfl, rfl, rfl, rfl, or_f hc807 rfl⟩
                    · rintro f ⟨hf1, hf3, hf7, hf8, hf9, hf10, hf12, hf13, hf119⟩
                      refine (JL.norm (i := 1) hf1 (JL.norm (i := 3) hf3 (JL.norm (i := 7) hf7 (JL.norm (i := 8) hf8 (JL.norm (i := 9) hf9 (JL.norm (i := 10) hf10 (JL.norm (i := 12) hf12 (JL.norm (i := 13) hf13 (JL.norm (i := 119) hf119 ?_)))))))))
                      refine JL.move .none rfl ?_
                      obtain ⟨p809, hp809, hF⟩ := bind_some hF
                      refine JL.cut 5 (fun f => f 1 = class__v0 ∧ f 3 = .pointer (some ⟨b1, 0, none⟩) ∧ f 7 = .pointer (some ⟨b24, 0, none⟩) ∧ f 8 = .int .i64 i_733 ∧ f 10 = y749b_v0 ∧ f 13 = y783b_v0 ∧ f 125 = .bool p809) ?_ ?_
                      · intro hJ810
                        rcases ite_some hp809 with ⟨hc811, hF⟩ | ⟨hc811, hF⟩
                        · skip
                          refine JL.skip (.bool rfl rfl rfl hc811) rfl ?_
                          refine JL.skip (.bool rfl rfl rfl hc811) rfl ?_
                          refine JL.skip (.bool rfl rfl rfl hc811) rfl ?_
                          refine JL.skip (.bool rfl rfl rfl hc811) rfl ?_
                          refine JL.pick_t (b := ((y749.2.2 != 0) || (y783.2.2 != 0))) rfl hc811 .none rfl ?_
                          obtain rfl := Option.some.inj hF
                          exact hJ810 _ ⟨rfl, rfl, rfl, rfl, rfl, rfl, rfl⟩
                        · skip
                          refine JL.move (.some rfl rfl rfl hc811) rfl ?_
                          refine JL.move (.some rfl rfl rfl hc811) rfl ?_
                          obtain ⟨y812, hy812, hF⟩ := bind_some hF
                          refine JL.callS (c_law05_subset n H804 y749.1 y749a_v0 (SL.mono RInt.mono hs804 hy749a_0) y783.1 y783a_v0 hy783a_0 y812 hy812) rfl en_27 (.some rfl rfl rfl hc811) rfl ?_
                          refine JL.not rfl (.some rfl rfl rfl hc811) rfl ?_
                          refine JL.pick_f (b := ((y749.2.2 != 0) || (y783.2.2 != 0))) rfl hc811 .none rfl ?_
                          obtain rfl := Option.some.inj hF
                          exact hJ810 _ ⟨rfl, rfl, rfl, rfl, rfl, rfl, rfl⟩
                      · rintro f ⟨hf1, hf3, hf7, hf8, hf10, hf13, hf125⟩
                        refine (JL.norm (i := 1) hf1 (JL.norm (i := 3) hf3 (JL.norm (i := 7) hf7 (JL.norm (i := 8) hf8 (JL.norm (i := 10) hf10 (JL.norm (i := 13) hf13 (JL.norm (i := 125) hf125 ?_)))))))
                        refine JL.move .none rfl ?_
                        obtain ⟨p814, hp814, hF⟩ := bind_some hF
                        refine JL.cut 5 (fun f => f 1 = class__v0 ∧ f 3 = .pointer (some ⟨b1, 0, none⟩) ∧ f 7 = .pointer (some ⟨b24, 0, none⟩) ∧ f 8 = .int .i64 i_733 ∧ f 131 = .bool p814) ?_ ?_
                        · intro hJ815
                          rcases ite_some hp814 with ⟨hc816, hF⟩ | ⟨hc816, hF⟩
                          · skip
                            refine JL.skip (.bool rfl rfl rfl hc816) rfl ?_
                            refine JL.skip (.bool rfl rfl rfl hc816) rfl ?_
                            refine JL.skip (.bool rfl rfl rfl hc816) rfl ?_
                            refine JL.skip (.bool rfl rfl rfl hc816) rfl ?_
                            refine JL.pick_t (b := p809) rfl hc816 .none rfl ?_
                            obtain rfl := Option.some.inj hF
                            exact hJ815 _ ⟨rfl, rfl, rfl, rfl, rfl⟩
                          · skip
                            refine JL.move (.some rfl rfl rfl hc816) rfl ?_
                            refine JL.move (.some rfl rfl rfl hc816) rfl ?_
                            obtain ⟨y817, hy817, hF⟩ := bind_some hF
                            refine JL.callS (c_law05_subset n H804 y783.2.1 y783b_v0 hy783b_0 y749.2.1 y749b_v0 (SL.mono RInt.mono hs804 hy749b_0) y817 hy817) rfl en_27 (.some rfl rfl rfl hc816) rfl ?_
                            refine JL.not rfl (.some rfl rfl rfl hc816) rfl ?_
                            refine JL.pick_f (b := p809) rfl hc816 .none rfl ?_
                            obtain rfl := Option.some.inj hF
                            exact hJ815 _ ⟨rfl, rfl, rfl, rfl, rfl⟩
                        · rintro f ⟨hf1, hf3, hf7, hf8, hf131⟩
                          refine (JL.norm (i := 1) hf1 (JL.norm (i := 3) hf3 (JL.norm (i := 7) hf7 (JL.norm (i := 8) hf8 (JL.norm (i := 131) hf131 ?_)))))
                          refine JL.done hQ ?_
                          refine JQ.go ?_
                          rcases ite_some hF with ⟨hc818, hF⟩ | ⟨hc818, hF⟩
                          · refine JC.cond_t (b := p814) rfl hc818 ?_
                            refine JC.seq ?_
                            refine JC.region (by rfl) ?_
                            intro hQ
                            refine JL.assign .none rfl ?_
                            refine JL.done hQ ?_
                            refine JQ.go ?_
                            refine JC.ret ?_
                            refine JQ.ret_block ?_
                            refine JQ.ret_then ?_
                            refine JQ.ret_then ?_
                            refine JQ.ret_block ?_
                            refine JQ.ret_join ?_
                            refine JQ.ret_then ?_
                            obtain rfl := Option.some.inj hF
                            have ehr735 := hr735 _ rfl
                            subst ehr735
                            have hF := hKr564
                            try dsimp only at hF
                            obtain rfl := Option.some.inj hF
                            exact JQ.outS rfl (.tmp .nil) rfl
                          · refine JC.cond_f (b := p814) rfl hc818 ?_
                            refine JC.skip ?_
                            refine JQ.normal_block ?_
                            refine JQ.go ?_
                            refine JC.region (by rfl) ?_
                            intro hQ
                            refine JL.move .none rfl ?_
                            refine JL.bin rfl rfl rfl .none rfl ?_
                            refine JL.assign .none rfl ?_
                            refine JL.done hQ ?_
                            obtain rfl := Option.some.inj hF
                            exact JQ.next rfl ⟨rfl, rfl, rfl, rfl, rfl, rfl, (HSub.trans hs734 (HSub.trans hs770 hs804))⟩
                  · refine JC.cond_f (b := decide (i_733 < (class_.length : Int))) rfl hc737 ?_
                    refine JC.exit ?_
                    refine JQ.exit_then ?_
                    refine JQ.exit_then ?_
                    refine JQ.exit_block ?_
                    obtain rfl := Option.some.inj hF
                    have ehr735 := hr735 _ rfl
                    subst ehr735
                    exact JQ.join () ⟨rfl, rfl, rfl, rfl, rfl, hs734, rfl⟩
                · rintro _ H563 f bs gs ⟨hf1, hf3, hf7, rfl, rfl, hs563, rfl⟩
                  have hF := hKr564
                  try dsimp only at hF
                  refine (JQ.norm (i := 1) hf1 (JQ.norm (i := 3) hf3 (JQ.norm (i := 7) hf7 ?_)))
                  refine JQ.go ?_
                  refine JC.seq ?_
                  refine JC.region (by rfl) ?_
                  intro hQ
                  refine JL.loadOwn 1 az_30 rfl rfl rfl .none rfl ?_
                  refine JL.move .none rfl ?_
                  obtain ⟨y819, hy819, hF⟩ := bind_some hF
                  refine JL.callS (c_gusts_Stands n H563 d d_v0 (SL.mono R_Section_mono (HSub.trans hs20 (HSub.trans hs216 (HSub.trans hs307 hs563))) hd_0) d_v7 (SL.mono R_Span_mono (HSub.trans hs20 (HSub.trans hs216 (HSub.trans hs307 hs563))) hd_7) d_v8 (SL.mono RInt.mono (HSub.trans hs20 (HSub.trans hs216 (HSub.trans hs307 hs563))) hd_8) class_ class__v0 (SL.mono R_Gust_mono (HSub.trans hs20 (HSub.trans hs216 (HSub.trans hs307 hs563))) hclass__0) y819 hy819) rfl en_29 .none rfl ?_
                  refine JL.move .none rfl ?_
                  refine JL.extract rfl rfl .none rfl ?_
                  refine JL.extract rfl rfl .none rfl ?_
                  refine JL.assign .none rfl ?_
                  refine JL.assign .none rfl ?_
                  refine JL.done hQ ?_
                  refine JQ.go ?_
                  refine JC.seq ?_
                  refine JC.region (by rfl) ?_
                  intro hQ
                  refine JL.loadOwn 0 az_30 rfl rfl rfl .none rfl ?_
                  refine JL.move .none rfl ?_
                  obtain ⟨y820, hy820, hF⟩ := bind_some hF
                  refine JL.callS (c_gusts_Stands n H563 (Canopy.mk y19.Frame (setx y19.Ribs x_.Rib (Span.mk (w64 (y40.Low + x_.Low)) (w64 (y45.High - x_.High)))) y19.Shares) y19_v0 (SL.mono R_Section_mono (HSub.trans hs216 (HSub.trans hs307 hs563)) hy19_0) y19_v1 (SL.mono R_Span_mono (HSub.trans hs307 hs563) hg217) y19_v2 (SL.mono RInt.mono hs563 hg308) class_ class__v0 (SL.mono R_Gust_mono (HSub.trans hs20 (HSub.trans hs216 (HSub.trans hs307 hs563))) hclass__0) y820 hy820) rfl en_29 .none rfl ?_
                  refine JL.move .none rfl ?_
                  refine JL.extract rfl rfl .none rfl ?_
                  refine JL.extract rfl rfl .none rfl ?_
                  refine JL.assign .none rfl ?_
                  refine JL.assign .none rfl ?_
                  refine JL.done hQ ?_
                  refine JQ.go ?_
                  refine JC.fresh (fun f => f 1 = class__v0 ∧ f 3 = .pointer (some ⟨b1, 0, none⟩) ∧ f 7 = .pointer (some ⟨b24, 0, none⟩) ∧ f 15 = .int .i64 y819.1 ∧ f 16 = .int .i64 y819.2 ∧ f 17 = .int .i64 y820.1 ∧ f 18 = .int .i64 y820.2) ⟨rfl, rfl, rfl, rfl, rfl, rfl, rfl⟩ ?_
                  rintro f ⟨hf1, hf3, hf7, hf15, hf16, hf17, hf18⟩
                  refine (JC.norm (i := 1) hf1 (JC.norm (i := 3) hf3 (JC.norm (i := 7) hf7 (JC.norm (i := 15) hf15 (JC.norm (i := 16) hf16 (JC.norm (i := 17) hf17 (JC.norm (i := 18) hf18 ?_)))))))
                  refine JC.seq ?_
                  refine JC.region (by rfl) ?_
                  intro hQ
                  refine JL.loadOwn 1 az_30 rfl rfl rfl .none rfl ?_
                  refine JL.move .none rfl ?_
                  obtain ⟨y821, hy821, hF⟩ := bind_some hF
                  refine JL.callH (c_gusts_Weak n H563 d d_v0 (SL.mono R_Section_mono (HSub.trans hs20 (HSub.trans hs216 (HSub.trans hs307 hs563))) hd_0) d_v7 (SL.mono R_Span_mono (HSub.trans hs20 (HSub.trans hs216 (HSub.trans hs307 hs563))) hd_7) d_v8 (SL.mono RInt.mono (HSub.trans hs20 (HSub.trans hs216 (HSub.trans hs307 hs563))) hd_8) class_ class__v0 (SL.mono R_Gust_mono (HSub.trans hs20 (HSub.trans hs216 (HSub.trans hs307 hs563))) hclass__0) y821 hy821) rfl en_31 .none rfl ?_
                  rintro H822 vv823 hs822 ⟨y821a_v0, rfl, hy821a_0⟩
                  refine JL.move .none rfl ?_
                  refine JL.extract rfl rfl .none rfl ?_
                  refine JL.extract rfl rfl .none rfl ?_
                  refine JL.assign .none rfl ?_
                  refine JL.assign .none rfl ?_
                  refine JL.done hQ ?_
                  refine JQ.go ?_
                  refine JC.seq ?_
                  refine JC.region (by rfl) ?_
                  intro hQ
                  refine JL.loadOwn 0 az_30 rfl rfl rfl .none rfl ?_
                  refine JL.move .none rfl ?_
                  obtain ⟨y824, hy824, hF⟩ := bind_some hF
                  refine JL.callH (c_gusts_Weak n H822 (Canopy.mk y19.Frame (setx y19.Ribs x_.Rib (Span.mk (w64 (y40.Low + x_.Low)) (w64 (y45.High - x_.High)))) y19.Shares) y19_v0 (SL.mono R_Section_mono (HSub.trans hs216 (HSub.trans hs307 (HSub.trans hs563 hs822))) hy19_0) y19_v1 (SL.mono R_Span_mono (HSub.trans hs307 (HSub.trans hs563 hs822)) hg217) y19_v2 (SL.mono RInt.mono (HSub.trans hs563 hs822) hg308) class_ class__v0 (SL.mono R_Gust_mono (HSub.trans hs20 (HSub.trans hs216 (HSub.trans hs307 (HSub.trans hs563 hs822)))) hclass__0) y824 hy824) rfl en_31 .none rfl ?_
                  rintro H825 vv826 hs825 ⟨y824a_v0, rfl, hy824a_0⟩
                  refine JL.move .none rfl ?_
                  refine JL.extract rfl rfl .none rfl ?_
                  refine JL.extract rfl rfl .none rfl ?_
                  refine JL.assign .none rfl ?_
                  refine JL.assign .none rfl ?_
                  refine JL.done hQ ?_
                  refine JQ.go ?_
                  refine JC.fresh (fun f => f 15 = .int .i64 y819.1 ∧ f 16 = .int .i64 y819.2 ∧ f 17 = .int .i64 y820.1 ∧ f 18 = .int .i64 y820.2 ∧ f 19 = y821a_v0 ∧ f 20 = .int .i64 y821.2 ∧ f 21 = y824a_v0 ∧ f 22 = .int .i64 y824.2) ⟨rfl, rfl, rfl, rfl, rfl, rfl, rfl, rfl⟩ ?_
                  rintro f ⟨hf15, hf16, hf17, hf18, hf19, hf20, hf21, hf22⟩
                  refine (JC.norm (i := 15) hf15 (JC.norm (i := 16) hf16 (JC.norm (i := 17) hf17 (JC.norm (i := 18) hf18 (JC.norm (i := 19) hf19 (JC.norm (i := 20) hf20 (JC.norm (i := 21) hf21 (JC.norm (i := 22) hf22 ?_))))))))
                  refine JC.seq ?_
                  refine JC.region (by rfl) ?_
                  intro hQ
                  refine JL.move .none rfl ?_
                  refine JL.bin rfl rfl rfl .none rfl ?_
                  refine JL.move .none rfl ?_
                  refine JL.cut 3 (fun f => f 15 = .int .i64 y819.1 ∧ f 17 = .int .i64 y820.1 ∧ f 19 = y821a_v0 ∧ f 20 = .int .i64 y821.2 ∧ f 21 = y824a_v0 ∧ f 22 = .int .i64 y824.2 ∧ f 161 = .bool ((y819.2 == 0) && (y820.2 == 0))) ?_ ?_
                  · intro hJ827
                    rcases bcases (y819.2 == 0) with hc828 | hc828
                    · skip
                      refine JL.move (.some rfl rfl rfl hc828) rfl ?_
                      refine JL.bin rfl rfl rfl (.some rfl rfl rfl hc828) rfl ?_
                      refine JL.pick_t (b := (y819.2 == 0)) rfl hc828 .none rfl ?_
                      exact hJ827 _ ⟨rfl, rfl, rfl, rfl, rfl, rfl, and_t hc828 rfl⟩
                    · skip
                      refine JL.skip (.bool rfl rfl rfl hc828) rfl ?_
                      refine JL.skip (.bool rfl rfl rfl hc828) rfl ?_
                      refine JL.pick_f (b := (y819.2 == 0)) rfl hc828 .none rfl ?_
                      exact hJ827 _ ⟨rfl, rfl, rfl, rfl, rfl, rfl, and_f hc828 rfl⟩
                  · rintro f ⟨hf15, hf17, hf19, hf20, hf21, hf22, hf161⟩
                    refine (JL.norm (i := 15) hf15 (JL.norm (i := 17) hf17 (JL.norm (i := 19) hf19 (JL.norm (i := 20) hf20 (JL.norm (i := 21) hf21 (JL.norm (i := 22) hf22 (JL.norm (i := 161) hf161 ?_)))))))
                    refine JL.move .none rfl ?_
                    refine JL.cut 3 (fun f => f 15 = .int .i64 y819.1 ∧ f 17 = .int .i64 y820.1 ∧ f 19 = y821a_v0 ∧ f 21 = y824a_v0 ∧ f 22 = .int .i64 y824.2 ∧ f 165 = .bool (((y819.2 == 0) && (y820.2 == 0)) && (y821.2 == 0))) ?_ ?_
                    · intro hJ829
                      rcases bcases ((y819.2 == 0) && (y820.2 == 0)) with hc830 | hc830
                      · skip
                        refine JL.move (.some rfl rfl rfl hc830) rfl ?_
                        refine JL.bin rfl rfl rfl (.some rfl rfl rfl hc830) rfl ?_
                        refine JL.pick_t (b := ((y819.2 == 0) && (y820.2 == 0))) rfl hc830 .none rfl ?_
                        exact hJ829 _ ⟨rfl, rfl, rfl, rfl, rfl, and_t hc830 rfl⟩
                      · skip
                        refine JL.skip (.bool rfl rfl rfl hc830) rfl ?_
                        refine JL.skip (.bool rfl rfl rfl hc830) rfl ?_
                        refine JL.pick_f (b := ((y819.2 == 0) && (y820.2 == 0))) rfl hc830 .none rfl ?_
                        exact hJ829 _ ⟨rfl, rfl, rfl, rfl, rfl, and_f hc830 rfl⟩
                    · rintro f ⟨hf15, hf17, hf19, hf21, hf22, hf165⟩
                      refine (JL.norm (i := 15) hf15 (JL.norm (i := 17) hf17 (JL.norm (i := 19) hf19 (JL.norm (i := 21) hf21 (JL.norm (i := 22) hf22 (JL.norm (i := 165) hf165 ?_))))))
                      refine JL.move .none rfl ?_
                      refine JL.cut 3 (fun f => f 15 = .int .i64 y819.1 ∧ f 17 = .int .i64 y820.1 ∧ f 19 = y821a_v0 ∧ f 21 = y824a_v0 ∧ f 169 = .bool ((((y819.2 == 0) && (y820.2 == 0)) && (y821.2 == 0)) && (y824.2 == 0))) ?_ ?_
                      · intro hJ831
                        rcases bcases (((y819.2 == 0) && (y820.2 == 0)) && (y821.2 == 0)) with hc832 | hc832
                        · skip
                          refine JL.move (.some rfl rfl rfl hc832) rfl ?_
                          refine JL.bin rfl rfl rfl (.some rfl rfl rfl hc832) rfl ?_
                          refine JL.pick_t (b := (((y819.2 == 0) && (y820.2 == 0)) && (y821.2 == 0))) rfl hc832 .none rfl ?_
                          exact hJ831 _ ⟨rfl, rfl, rfl, rfl, and_t hc832 rfl⟩
                        · skip
                          refine JL.skip (.bool rfl rfl rfl hc832) rfl ?_
                          refine JL.skip (.bool rfl rfl rfl hc832) rfl ?_
                          refine JL.pick_f (b := (((y819.2 == 0) && (y820.2 == 0)) && (y821.2 == 0))) rfl hc832 .none rfl ?_
                          exact hJ831 _ ⟨rfl, rfl, rfl, rfl, and_f hc832 rfl⟩
                      · rintro f ⟨hf15, hf17, hf19, hf21, hf169⟩
                        refine (JL.norm (i := 15) hf15 (JL.norm (i := 17) hf17 (JL.norm (i := 19) hf19 (JL.norm (i := 21) hf21 (JL.norm (i := 169) hf169 ?_)))))
                        refine JL.move .none rfl ?_
                        refine JL.cut 8 (fun f => f 19 = y821a_v0 ∧ f 21 = y824a_v0 ∧ f 178 = .bool (((((y819.2 == 0) && (y820.2 == 0)) && (y821.2 == 0)) && (y824.2 == 0)) && ((y819.1 == 3) || (y819.1 == y820.1)))) ?_ ?_
                        · intro hJ835
                          rcases bcases ((((y819.2 == 0) && (y820.2 == 0)) && (y821.2 == 0)) && (y824.2 == 0)) with hc836 | hc836
                          · skip
                            refine JL.move (.some rfl rfl rfl hc836) rfl ?_
                            refine JL.bin rfl rfl rfl (.some rfl rfl rfl hc836) rfl ?_
                            refine JL.move (.some rfl rfl rfl hc836) rfl ?_
                            refine JL.cut 4 (fun f => f 19 = y821a_v0 ∧ f 21 = y824a_v0 ∧ f 170 = .bool ((((y819.2 == 0) && (y820.2 == 0)) && (y821.2 == 0)) && (y824.2 == 0)) ∧ f 177 = .bool ((y819.1 == 3) || (y819.1 == y820.1))) ?_ ?_
                            · intro hJ837
                              rcases bcases (y819.1 == 3) with hc838 | hc838
                              · skip
                                refine JL.skip (.bool rfl rfl rfl hc838) rfl ?_
                                refine JL.skip (.bool rfl rfl rfl hc838) rfl ?_
                                refine JL.skip (.bool rfl rfl rfl hc838) rfl ?_
                                refine JL.pick_t (b := (y819.1 == 3)) rfl hc838 (.some rfl rfl rfl hc836) rfl ?_
                                exact hJ837 _ ⟨rfl, rfl, rfl, or_t hc838 rfl⟩
                              · skip
                                refine JL.move (.some rfl rfl rfl hc838) rfl ?_
                                refine JL.move (.some rfl rfl rfl hc838) rfl ?_
                                refine JL.bin rfl rfl rfl (.some rfl rfl rfl hc838) rfl ?_
                                refine JL.pick_f (b := (y819.1 == 3)) rfl hc838 (.some rfl rfl rfl hc836) rfl ?_
                                exact hJ837 _ ⟨rfl, rfl, rfl, or_f hc838 rfl⟩
                            · rintro f ⟨hf19, hf21, hf170, hf177⟩
                              refine (JL.norm (i := 19) hf19 (JL.norm (i := 21) hf21 (JL.norm (i := 170) hf170 (JL.norm (i := 177) hf177 ?_))))
                              refine JL.pick_t (b := ((((y819.2 == 0) && (y820.2 == 0)) && (y821.2 == 0)) && (y824.2 == 0))) rfl hc836 .none rfl ?_
                              exact hJ835 _ ⟨rfl, rfl, and_t hc836 rfl⟩
                          · skip
                            refine JL.skip (.bool rfl rfl rfl hc836) rfl ?_
                            refine JL.skip (.bool rfl rfl rfl hc836) rfl ?_
                            refine JL.skip (.bool rfl rfl rfl hc836) rfl ?_
                            refine JL.skip (.no rfl rfl rfl) rfl ?_
                            refine JL.skip (.no rfl rfl rfl) rfl ?_
                            refine JL.skip (.no rfl rfl rfl) rfl ?_
                            refine JL.skip (.bool rfl rfl rfl hc836) rfl ?_
                            refine JL.pick_f (b := ((((y819.2 == 0) && (y820.2 == 0)) && (y821.2 == 0)) && (y824.2 == 0))) rfl hc836 .none rfl ?_
                            exact hJ835 _ ⟨rfl, rfl, and_f hc836 rfl⟩
                        · rintro f ⟨hf19, hf21, hf178⟩
                          refine (JL.norm (i := 19) hf19 (JL.norm (i := 21) hf21 (JL.norm (i := 178) hf178 ?_)))
                          refine JL.move .none rfl ?_
                          obtain ⟨p840, hp840, hF⟩ := bind_some hF
                          refine JL.cut 4 (fun f => f 183 = .bool p840) ?_ ?_
                          · intro hJ841
                            rcases ite_some hp840 with ⟨hc842, hF⟩ | ⟨hc842, hF⟩
                            · skip
                              refine JL.move (.some rfl rfl rfl hc842) rfl ?_
                              refine JL.move (.some rfl rfl rfl hc842) rfl ?_
                              obtain ⟨y843, hy843, hF⟩ := bind_some hF
                              refine JL.callS (c_law05_subset n H825 y824.1 y824a_v0 hy824a_0 y821.1 y821a_v0 (SL.mono RInt.mono hs825 hy821a_0) y843 hy843) rfl en_27 (.some rfl rfl rfl hc842) rfl ?_
                              refine JL.pick_t (b := (((((y819.2 == 0) && (y820.2 == 0)) && (y821.2 == 0)) && (y824.2 == 0)) && ((y819.1 == 3) || (y819.1 == y820.1)))) rfl hc842 .none rfl ?_
                              obtain rfl := Option.some.inj hF
                              exact hJ841 _ (rfl)
                            · skip
                              refine JL.skip (.bool rfl rfl rfl hc842) rfl ?_
                              refine JL.skip (.bool rfl rfl rfl hc842) rfl ?_
                              refine JL.skip (.bool rfl rfl rfl hc842) rfl ?_
                              refine JL.pick_f (b := (((((y819.2 == 0) && (y820.2 == 0)) && (y821.2 == 0)) && (y824.2 == 0)) && ((y819.1 == 3) || (y819.1 == y820.1)))) rfl hc842 .none rfl ?_
                              obtain rfl := Option.some.inj hF
                              exact hJ841 _ (rfl)
                          · rintro f hf183
                            refine (JL.norm (i := 183) hf183 ?_)
                            refine JL.move .none rfl ?_
                            obtain ⟨p845, hp845, hF⟩ := bind_some hF
                            refine JL.cut 2 (fun f => f 186 = .bool p845) ?_ ?_
                            · intro hJ846
                              rcases ite_some hp845 with ⟨hc847, hF⟩ | ⟨hc847, hF⟩
                              · skip
                                obtain ⟨y848, hy848, hF⟩ := bind_some hF
                                refine JL.callS (c_law05_works n H825 y848 hy848) rfl en_12 (.some rfl rfl rfl hc847) rfl ?_
                                refine JL.pick_t (b := p840) rfl hc847 .none rfl ?_
                                obtain rfl := Option.some.inj hF
                                exact hJ846 _ (rfl)
                              · skip
                                refine JL.skip (.bool rfl rfl rfl hc847) rfl ?_
                                refine JL.pick_f (b := p840) rfl hc847 .none rfl ?_
                                obtain rfl := Option.some.inj hF
                                exact hJ846 _ (rfl)
                            · rintro f hf186
                              refine (JL.norm (i := 186) hf186 ?_)
                              refine JL.assign .none rfl ?_
                              refine JL.done hQ ?_
                              refine JQ.go ?_
                              refine JC.ret ?_
                              obtain rfl := Option.some.inj hF
                              exact JQ.outS rfl (.tmp .nil) rfl

end Go.Proofs.Ytcpnnfdhafbemaa
