/-
  Printed by a program: functions of the translation as plain functions, and their contracts.
-/
import Derived.Test.YtcpnnfdhafbemaaGenK14
namespace Go.Proofs.Ytcpnnfdhafbemaa
open Go Go.RowKit Go.Dec
set_option linter.unusedVariables false
-- 6 ferrule/ferrulelaw05.GustsStronger
def F_law05_GustsStronger (n : Nat) (d : Canopy) (g : Gust) (x_ : law05_Stronger) : Option Bool :=
  (F_law05_ready n d [g]).bind fun y8 => (if (!y8) = true then (some true) else ((F_ref05_IsRib n d x_.Rib).bind fun y13 => some (!y13)) : Option Bool).bind fun p10 => if ((((p10 || (decide (x_.By < 0))) || (decide (99999 < x_.By))) || (decide (x_.Force < 0))) || (decide (g.Force < x_.Force))) = true then ((F_law05_works n).bind fun y23 => some y23) else ((F_ref05_Copy n d).bind fun y24 => (geti y24.Ribs x_.Rib).bind fun y38 => (geti y24.Ribs x_.Rib).bind fun y41 => (geti (setx y24.Ribs x_.Rib (Span.mk (min 99999 (w64 (y38.Low + x_.By))) y41.High)) x_.Rib).bind fun y70 => (geti (setx y24.Ribs x_.Rib (Span.mk (min 99999 (w64 (y38.Low + x_.By))) y41.High)) x_.Rib).bind fun y73 => (F_gusts_Goes n d g).bind fun y97 => (F_gusts_Goes n (Canopy.mk y24.Frame (setx (setx y24.Ribs x_.Rib (Span.mk (min 99999 (w64 (y38.Low + x_.By))) y41.High)) x_.Rib (Span.mk y73.Low (min 99999 (w64 (y70.High + x_.By))))) y24.Shares) (Gust.mk (w64 (g.Force - x_.Force)) g.At)).bind fun y104 => (F_gusts_Stands n d [g]).bind fun y107 => (F_gusts_Stands n (Canopy.mk y24.Frame (setx (setx y24.Ribs x_.Rib (Span.mk (min 99999 (w64 (y38.Low + x_.By))) y41.High)) x_.Rib (Span.mk y73.Low (min 99999 (w64 (y70.High + x_.By))))) y24.Shares) [(Gust.mk (w64 (g.Force - x_.Force)) g.At)]).bind fun y112 => (F_gusts_Most n d g.At).bind fun y113 => (F_gusts_Most n (Canopy.mk y24.Frame (setx (setx y24.Ribs x_.Rib (Span.mk (min 99999 (w64 (y38.Low + x_.By))) y41.High)) x_.Rib (Span.mk y73.Low (min 99999 (w64 (y70.High + x_.By))))) y24.Shares) g.At).bind fun y114 => if (((((((y97.2.2 != 0) || (y104.2.2 != 0)) || (y107.2 != 0)) || (y112.2 != 0)) || (y113.2 != 0)) || (y114.2 != 0)) || (decide (40 < (w64 ((y104.1.length : Int) + (y104.2.1.length : Int)))))) = true then (some false) else ((F_law05_subset n y104.1 y97.1).bind fun y128 => (if y128 = true then ((F_law05_subset n y104.2.1 y97.2.1).bind fun y133 => some y133) else (some false) : Option Bool).bind fun p130 => (if (((p130 && ((y107.1 != 1) || (y112.1 == 1))) && ((y112.1 != 2) || (y107.1 == 2))) && (decide (y113.1 ≤ y114.1))) = true then ((F_law05_works n).bind fun y152 => some y152) else (some false) : Option Bool).bind fun p149 => some p149))
set_option maxRecDepth 100000 in
set_option maxHeartbeats 40000000 in
theorem c_law05_GustsStronger (n : Nat) (H : Hp) (d : Canopy) (d_v0 : Value) (hd_0 : SL H 7 R_Section d_v0 d.Frame.Sections) (d_v7 : Value) (hd_7 : SL H 2 R_Span d_v7 d.Ribs) (d_v8 : Value) (hd_8 : SL H 1 RInt d_v8 d.Shares) (g : Gust) (x_ : law05_Stronger) (y : Bool) (hF : F_law05_GustsStronger n d g x_ = some y) : SC Try.prog 6 [.agg [d_v0, .int .i64 d.Frame.Low, .int .i64 d.Frame.High, .int .i64 d.Frame.Ease.Num, .int .i64 d.Frame.Ease.Den, .int .i64 d.Frame.Rod, .int .i64 d.Frame.Case, d_v7, d_v8].toArray, .agg [.int .i64 g.Force, .int .i64 g.At].toArray, .agg [.int .i64 x_.Rib, .int .i64 x_.By, .int .i64 x_.Force].toArray] (.bool y) H := by
  rw [F_law05_GustsStronger] at hF
  refine SC.of (N := 207) Try.func6 rfl rfl rfl fun w => ?_
  refine JC.seq ?_
  refine JC.region (by rfl) ?_
  intro hQ
  refine JL.box (cs := [d_v0, .int .i64 d.Frame.Low, .int .i64 d.Frame.High, .int .i64 d.Frame.Ease.Num, .int .i64 d.Frame.Ease.Den, .int .i64 d.Frame.Rod, .int .i64 d.Frame.Case, d_v7, d_v8]) rfl .none rfl ?_
  intro b1
  refine JL.box (cs := [.int .i64 g.Force, .int .i64 g.At]) rfl .none rfl ?_
  intro b2
  refine JL.box (cs := [.int .i64 x_.Rib, .int .i64 x_.By, .int .i64 x_.Force]) rfl .none rfl ?_
  intro b3
  refine JL.assign .none rfl ?_
  refine JL.done hQ ?_
  refine JQ.go ?_
  refine JC.seq ?_
  refine JC.region (by rfl) ?_
  intro hQ
  refine JL.loadOwn 1 az_32 rfl rfl rfl .none rfl ?_
  refine JL.buildSlice (e := 32) (l := [.int .i64 g.Force, .int .i64 g.At]) (by kernel_rfl) .none rfl ?_
  intro b4
  refine JL.assign .none rfl ?_
  refine JL.done hQ ?_
  refine JQ.go ?_
  refine JC.seq ?_
  refine JC.seq ?_
  refine JC.region (by rfl) ?_
  intro hQ
  refine JL.loadOwn 3 az_30 rfl rfl rfl .none rfl ?_
  refine JL.move .none rfl ?_
  refine JL.freezeC 0 (l := [.int .i64 g.Force, .int .i64 g.At]) rfl ?_
  intro H5 hs5 hc6
  have hg7 : SL H5 2 R_Gust (.slice (some ⟨b4, 0, none⟩) 1 1) [g] := CH.sl (l := [g]) (CH.cons (cs := [.int .i64 g.Force, .int .i64 g.At]) rfl rfl CH.nil) hc6 ⟨by simp, by simp⟩
  obtain ⟨y8, hy8, hF⟩ := bind_some hF
  refine JL.callS (c_law05_ready n H5 d d_v0 (SL.mono R_Section_mono hs5 hd_0) d_v7 (SL.mono R_Span_mono hs5 hd_7) d_v8 (SL.mono RInt.mono hs5 hd_8) [g] (.slice (some ⟨b4, 0, none⟩) 1 1) hg7 y8 hy8) rfl en_11 .none rfl ?_
  refine JL.not rfl .none rfl ?_
  refine JL.move .none rfl ?_
  obtain ⟨p10, hp10, hF⟩ := bind_some hF
  refine JL.cut 6 (fun f => f 3 = .pointer (some ⟨b1, 0, none⟩) ∧ f 4 = .pointer (some ⟨b2, 0, none⟩) ∧ f 5 = .pointer (some ⟨b3, 0, none⟩) ∧ f 7 = (.slice (some ⟨b4, 0, none⟩) 1 1) ∧ f 36 = .bool p10) ?_ ?_
  · intro hJ11
    rcases ite_some hp10 with ⟨hc12, hF⟩ | ⟨hc12, hF⟩
    · skip
      refine JL.skip (.bool rfl rfl rfl hc12) rfl ?_
      refine JL.skip (.bool rfl rfl rfl hc12) rfl ?_
      refine JL.skip (.bool rfl rfl rfl hc12) rfl ?_
      refine JL.skip (.bool rfl rfl rfl hc12) rfl ?_
      refine JL.skip (.bool rfl rfl rfl hc12) rfl ?_
      refine JL.pick_t (b := (!y8)) rfl hc12 .none rfl ?_
      obtain rfl := Option.some.inj hF
      exact hJ11 _ ⟨rfl, rfl, rfl, rfl, rfl⟩
    · skip
      refine JL.loadOwn 2 az_30 rfl rfl rfl (.some rfl rfl rfl hc12) rfl ?_
      refine JL.fieldAddr fo_56_0 rfl (.some rfl rfl rfl hc12) rfl ?_
      refine JL.loadOwn 0 az_3 rfl rfl rfl (.some rfl rfl rfl hc12) rfl ?_
      obtain ⟨y13, hy13, hF⟩ := bind_some hF
      refine JL.callS (c_ref05_IsRib n H5 d d_v0 (SL.mono R_Section_mono hs5 hd_0) d_v7 (SL.mono R_Span_mono hs5 hd_7) d_v8 (SL.mono RInt.mono hs5 hd_8) x_.Rib y13 hy13) rfl en_28 (.some rfl rfl rfl hc12) rfl ?_
      refine JL.not rfl (.some rfl rfl rfl hc12) rfl ?_
      refine JL.pick_f (b := (!y8)) rfl hc12 .none rfl ?_
      obtain rfl := Option.some.inj hF
      exact hJ11 _ ⟨rfl, rfl, rfl, rfl, rfl⟩
  · rintro f ⟨hf3, hf4, hf5, hf7, hf36⟩
    refine (JL.norm (i := 3) hf3 (JL.norm (i := 4) hf4 (JL.norm (i := 5) hf5 (JL.norm (i := 7) hf7 (JL.norm (i := 36) hf36 ?_)))))
    refine JL.move .none rfl ?_
    refine JL.cut 4 (fun f => f 3 = .pointer (some ⟨b1, 0, none⟩) ∧ f 4 = .pointer (some ⟨b2, 0, none⟩) ∧ f 5 = .pointer (some ⟨b3, 0, none⟩) ∧ f 7 = (.slice (some ⟨b4, 0, none⟩) 1 1) ∧ f 41 = .bool (p10 || (decide (x_.By < 0)))) ?_ ?_
    · intro hJ14
      rcases bcases p10 with hc15 | hc15
      · skip
        refine JL.skip (.bool rfl rfl rfl hc15) rfl ?_
        refine JL.skip (.bool rfl rfl rfl hc15) rfl ?_
        refine JL.skip (.bool rfl rfl rfl hc15) rfl ?_
        refine JL.pick_t (b := p10) rfl hc15 .none rfl ?_
        exact hJ14 _ ⟨rfl, rfl, rfl, rfl, or_t hc15 rfl⟩
      · skip
        refine JL.fieldAddr fo_56_1 rfl (.some rfl rfl rfl hc15) rfl ?_
        refine JL.loadOwn 0 az_3 rfl rfl rfl (.some rfl rfl rfl hc15) rfl ?_
        refine JL.bin rfl rfl rfl (.some rfl rfl rfl hc15) rfl ?_
        refine JL.pick_f (b := p10) rfl hc15 .none rfl ?_
        exact hJ14 _ ⟨rfl, rfl, rfl, rfl, or_f hc15 rfl⟩
    · rintro f ⟨hf3, hf4, hf5, hf7, hf41⟩
      refine (JL.norm (i := 3) hf3 (JL.norm (i := 4) hf4 (JL.norm (i := 5) hf5 (JL.norm (i := 7) hf7 (JL.norm (i := 41) hf41 ?_)))))
      refine JL.move .none rfl ?_
      refine JL.cut 4 (fun f => f 3 = .pointer (some ⟨b1, 0, none⟩) ∧ f 4 = .pointer (some ⟨b2, 0, none⟩) ∧ f 5 = .pointer (some ⟨b3, 0, none⟩) ∧ f 7 = (.slice (some ⟨b4, 0, none⟩) 1 1) ∧ f 46 = .bool ((p10 || (decide (x_.By < 0))) || (decide (99999 < x_.By)))) ?_ ?_
      · intro hJ16
        rcases bcases (p10 || (decide (x_.By < 0))) with hc17 | hc17
        · skip
          refine JL.skip (.bool rfl rfl rfl hc17) rfl ?_
          refine JL.skip (.bool rfl rfl rfl hc17) rfl ?_
          refine JL.skip (.bool rfl rfl rfl hc17) rfl ?_
          refine JL.pick_t (b := (p10 || (decide (x_.By < 0)))) rfl hc17 .none rfl ?_
          exact hJ16 _ ⟨rfl, rfl, rfl, rfl, or_t hc17 rfl⟩
        · skip
          refine JL.fieldAddr fo_56_1 rfl (.some rfl rfl rfl hc17) rfl ?_
          refine JL.loadOwn 0 az_3 rfl rfl rfl (.some rfl rfl rfl hc17) rfl ?_
          refine JL.bin rfl rfl rfl (.some rfl rfl rfl hc17) rfl ?_
          refine JL.pick_f (b := (p10 || (decide (x_.By < 0)))) rfl hc17 .none rfl ?_
          exact hJ16 _ ⟨rfl, rfl, rfl, rfl, or_f hc17 rfl⟩
      · rintro f ⟨hf3, hf4, hf5, hf7, hf46⟩
        refine (JL.norm (i := 3) hf3 (JL.norm (i := 4) hf4 (JL.norm (i := 5) hf5 (JL.norm (i := 7) hf7 (JL.norm (i := 46) hf46 ?_)))))
        refine JL.move .none rfl ?_
        refine JL.cut 4 (fun f => f 3 = .pointer (some ⟨b1, 0, none⟩) ∧ f 4 = .pointer (some ⟨b2, 0, none⟩) ∧ f 5 = .pointer (some ⟨b3, 0, none⟩) ∧ f 7 = (.slice (some ⟨b4, 0, none⟩) 1 1) ∧ f 51 = .bool (((p10 || (decide (x_.By < 0))) || (decide (99999 < x_.By))) || (decide (x_.Force < 0)))) ?_ ?_
        · intro hJ18
          rcases bcases ((p10 || (decide (x_.By < 0))) || (decide (99999 < x_.By))) with hc19 | hc19
          · skip
            refine JL.skip (.bool rfl rfl rfl hc19) rfl ?_
            refine JL.skip (.bool rfl rfl rfl hc19) rfl ?_
            refine JL.skip (.bool rfl rfl rfl hc19) rfl ?_
            refine JL.pick_t (b := ((p10 || (decide (x_.By < 0))) || (decide (99999 < x_.By)))) rfl hc19 .none rfl ?_
            exact hJ18 _ ⟨rfl, rfl, rfl, rfl, or_t hc19 rfl⟩
          · skip
            refine JL.fieldAddr fo_56_2 rfl (.some rfl rfl rfl hc19) rfl ?_
            refine JL.loadOwn 0 az_3 rfl rfl rfl (.some rfl rfl rfl hc19) rfl ?_
            refine JL.bin rfl rfl rfl (.some rfl rfl rfl hc19) rfl ?_
            refine JL.pick_f (b := ((p10 || (decide (x_.By < 0))) || (decide (99999 < x_.By)))) rfl hc19 .none rfl ?_
            exact hJ18 _ ⟨rfl, rfl, rfl, rfl, or_f hc19 rfl⟩
        · rintro f ⟨hf3, hf4, hf5, hf7, hf51⟩
          refine (JL.norm (i := 3) hf3 (JL.norm (i := 4) hf4 (JL.norm (i := 5) hf5 (JL.norm (i := 7) hf7 (JL.norm (i := 51) hf51 ?_)))))
          refine JL.move .none rfl ?_
          refine JL.cut 6 (fun f => f 3 = .pointer (some ⟨b1, 0, none⟩) ∧ f 4 = .pointer (some ⟨b2, 0, none⟩) ∧ f 5 = .pointer (some ⟨b3, 0, none⟩) ∧ f 7 = (.slice (some ⟨b4, 0, none⟩) 1 1) ∧ f 58 = .bool ((((p10 || (decide (x_.By < 0))) || (decide (99999 < x_.By))) || (decide (x_.Force < 0))) || (decide (g.Force < x_.Force)))) ?_ ?_
          · intro hJ20
            rcases bcases (((p10 || (decide (x_.By < 0))) || (decide (99999 < x_.By))) || (decide (x_.Force < 0))) with hc21 | hc21
            · skip
              refine JL.skip (.bool rfl rfl rfl hc21) rfl ?_
              refine JL.skip (.bool rfl rfl rfl hc21) rfl ?_
              refine JL.skip (.bool rfl rfl rfl hc21) rfl ?_
              refine JL.skip (.bool rfl rfl rfl hc21) rfl ?_
              refine JL.skip (.bool rfl rfl rfl hc21) rfl ?_
              refine JL.pick_t (b := (((p10 || (decide (x_.By < 0))) || (decide (99999 < x_.By))) || (decide (x_.Force < 0)))) rfl hc21 .none rfl ?_
              exact hJ20 _ ⟨rfl, rfl, rfl, rfl, or_t hc21 rfl⟩
            · skip
              refine JL.fieldAddr fo_56_2 rfl (.some rfl rfl rfl hc21) rfl ?_
              refine JL.loadOwn 0 az_3 rfl rfl rfl (.some rfl rfl rfl hc21) rfl ?_
              refine JL.fieldAddr fo_32_0 rfl (.some rfl rfl rfl hc21) rfl ?_
              refine JL.loadOwn 1 az_3 rfl rfl rfl (.some rfl rfl rfl hc21) rfl ?_
              refine JL.bin rfl rfl rfl (.some rfl rfl rfl hc21) rfl ?_
              refine JL.pick_f (b := (((p10 || (decide (x_.By < 0))) || (decide (99999 < x_.By))) || (decide (x_.Force < 0)))) rfl hc21 .none rfl ?_
              exact hJ20 _ ⟨rfl, rfl, rfl, rfl, or_f hc21 rfl⟩
          · rintro f ⟨hf3, hf4, hf5, hf7, hf58⟩
            refine (JL.norm (i := 3) hf3 (JL.norm (i := 4) hf4 (JL.norm (i := 5) hf5 (JL.norm (i := 7) hf7 (JL.norm (i := 58) hf58 ?_)))))
            refine JL.done hQ ?_
            refine JQ.go ?_
            rcases ite_some hF with ⟨hc22, hF⟩ | ⟨hc22, hF⟩
            · refine JC.cond_t (b := ((((p10 || (decide (x_.By < 0))) || (decide (99999 < x_.By))) || (decide (x_.Force < 0))) || (decide (g.Force < x_.Force)))) rfl hc22 ?_
              refine JC.seq ?_
              refine JC.region (by rfl) ?_
              intro hQ
              obtain ⟨y23, hy23, hF⟩ := bind_some hF
              refine JL.callS (c_law05_works n H5 y23 hy23) rfl en_12 .none rfl ?_
              refine JL.assign .none rfl ?_
              refine JL.done hQ ?_
              refine JQ.go ?_
              refine JC.ret ?_
              refine JQ.ret_then ?_
              obtain rfl := Option.some.inj hF
              exact JQ.outS rfl (.tmp .nil) rfl
            · refine JC.cond_f (b := ((((p10 || (decide (x_.By < 0))) || (decide (99999 < x_.By))) || (decide (x_.Force < 0))) || (decide (g.Force < x_.Force)))) rfl hc22 ?_
              refine JC.skip ?_
              refine JQ.go ?_
              refine JC.seq ?_
              refine JC.region (by rfl) ?_
              intro hQ
              refine JL.loadOwn 2 az_30 rfl rfl rfl .none rfl ?_
              obtain ⟨y24, hy24, hF⟩ := bind_some hF
              refine JL.callXC (x_ref05_Copy n H5 d d_v0 (SL.mono R_Section_mono hs5 hd_0) d_v7 (SL.mono R_Span_mono hs5 hd_7) d_v8 (SL.mono RInt.mono hs5 hd_8) y24 hy24) rfl en_13 .none rfl ?_
              rintro H25 vv26 _ hs25 ⟨y24_v0, y24_v1, y24_xs1, y24_v2, y24_xs2, rfl, rfl, hy24_0, hy24_1, hy24_2⟩
              refine JL.alloc ze_30 .none rfl ?_
              intro b29
              refine JL.oneG 1 rfl (fun ho30 => ?_)
              refine JL.oneG 0 rfl (fun ho31 => ?_)
              refine JL.storeOwn 0 (cs := [y24_v0, .int .i64 y24.Frame.Low, .int .i64 y24.Frame.High, .int .i64 y24.Frame.Ease.Num, .int .i64 y24.Frame.Ease.Den, .int .i64 y24.Frame.Rod, .int .i64 y24.Frame.Case, y24_v1, y24_v2]) az_30 rfl rfl rfl (one_cons (SL.one hy24_0) (one_cons rfl (one_cons rfl (one_cons rfl (one_cons rfl (one_cons rfl (one_cons rfl (one_cons ho30.1 (one_cons ho31.1 one_nil))))))))) rfl rfl .none ?_
              refine JL.done hQ ?_
              refine JQ.go ?_
              refine JC.seq ?_
              obtain ⟨y38, hy38, hF⟩ := bind_some hF
              obtain ⟨y41, hy41, hF⟩ := bind_some hF
              refine JC.mixed 17 18 #[false, false, false, false, false, false, false, false, false, false, false, false, false, false, false, false, false, false] [(b29, .cells [y24_v0, .int .i64 y24.Frame.Low, .int .i64 y24.Frame.High, .int .i64 y24.Frame.Ease.Num, .int .i64 y24.Frame.Ease.Den, .int .i64 y24.Frame.Rod, .int .i64 y24.Frame.Case, y24_v1, y24_v2].toArray 30), (b3, .cells [.int .i64 x_.Rib, .int .i64 x_.By, .int .i64 x_.Force].toArray 56), (b2, .cells [.int .i64 g.Force, .int .i64 g.At].toArray 32), (b1, .cells [d_v0, .int .i64 d.Frame.Low, .int .i64 d.Frame.High, .int .i64 d.Frame.Ease.Num, .int .i64 d.Frame.Ease.Den, .int .i64 d.Frame.Rod, .int .i64 d.Frame.Case, d_v7, d_v8].toArray 30)] (by rfl) mo_ (by kernel_rfl) (by kernel_rfl) ?_
              intro hQ hE
              refine JA.take 0 (listed' := #[true, false, false, false, false, false, false, false, false, false, false, false, false, false, false, false, false, false]) hQ rfl (by kernel_rfl) (by kernel_rfl) (by kernel_rfl) (by kernel_rfl) (by kernel_rfl) hE (HSub.refl _) (.cons_cons _ (.cons_cons _ (.cons_cons _ (.cons_cons _ (List.nil_sublist _))))) ?_
              refine JL.fieldAddr fo_30_1 rfl .none rfl ?_
              refine JA.cont ?_
              refine JA.take 1 (listed' := #[true, true, false, false, false, false, false, false, false, false, false, false, false, false, false, false, false, false]) hQ rfl (by kernel_rfl) (by kernel_rfl) (by kernel_rfl) (by kernel_rfl) (by kernel_rfl) hE (HSub.refl _) (.cons_cons _ (.cons_cons _ (.cons_cons _ (.cons_cons _ (List.nil_sublist _))))) ?_
              refine JL.loadOwn 0 az_27 rfl rfl rfl .none rfl ?_
              refine JA.cont ?_
              refine JA.take 2 (listed' := #[true, true, true, false, false, false, false, false, false, false, false, false, false, false, false, false, false, false]) hQ rfl (by kernel_rfl) (by kernel_rfl) (by kernel_rfl) (by kernel_rfl) (by kernel_rfl) hE (HSub.refl _) (.cons_cons _ (.cons_cons _ (.cons_cons _ (.cons_cons _ (List.nil_sublist _))))) ?_
              refine JL.fieldAddr fo_56_0 rfl .none rfl ?_
              refine JA.cont ?_
              refine JA.take 3 (listed' := #[true, true, true, true, false, false, false, false, false, false, false, false, false, false, false, false, false, false]) hQ rfl (by kernel_rfl) (by kernel_rfl) (by kernel_rfl) (by kernel_rfl) (by kernel_rfl) hE (HSub.refl _) (.cons_cons _ (.cons_cons _ (.cons_cons _ (.cons_cons _ (List.nil_sublist _))))) ?_
              refine JL.loadOwn 1 az_3 rfl rfl rfl .none rfl ?_
              refine JA.cont ?_
              refine JA.take 4 (listed' := #[true, true, true, true, true, false, false, false, false, false, false, false, false, false, false, false, false, false]) hQ rfl (by kernel_rfl) (by kernel_rfl) (by kernel_rfl) (by kernel_rfl) (by kernel_rfl) hE (HSub.refl _) (.cons_cons _ (.cons_cons _ (.cons_cons _ (.cons_cons _ (List.nil_sublist _))))) ?_
              refine JL.fieldAddr fo_30_1 rfl .none rfl ?_
              refine JA.cont ?_
              refine JA.take 5 (listed' := #[true, true, true, true, true, true, false, false, false, false, false, false, false, false, false, false, false, false]) hQ rfl (by kernel_rfl) (by kernel_rfl) (by kernel_rfl) (by kernel_rfl) (by kernel_rfl) hE (HSub.refl _) (.cons_cons _ (.cons_cons _ (.cons_cons _ (.cons_cons _ (List.nil_sublist _))))) ?_
              refine JL.loadOwn 0 az_27 rfl rfl rfl .none rfl ?_
              refine JA.cont ?_
              refine JA.take 6 (listed' := #[true, true, true, true, true, true, true, false, false, false, false, false, false, false, false, false, false, false]) hQ rfl (by kernel_rfl) (by kernel_rfl) (by kernel_rfl) (by kernel_rfl) (by kernel_rfl) hE (HSub.refl _) (.cons_cons _ (.cons_cons _ (.cons_cons _ (.cons_cons _ (List.nil_sublist _))))) ?_
              refine JL.fieldAddr fo_56_0 rfl .none rfl ?_
              refine JA.cont ?_
              refine JA.take 7 (listed' := #[true, true, true, true, true, true, true, true, false, false, false, false, false, false, false, false, false, false]) hQ rfl (by kernel_rfl) (by kernel_rfl) (by kernel_rfl) (by kernel_rfl) (by kernel_rfl) hE (HSub.refl _) (.cons_cons _ (.cons_cons _ (.cons_cons _ (.cons_cons _ (List.nil_sublist _))))) ?_
              refine JL.loadOwn 1 az_3 rfl rfl rfl .none rfl ?_
              refine JA.cont ?_
              refine JA.take 11 (listed' := #[true, true, true, true, true, true, true, true, false, false, false, true, false, false, false, false, false, false]) hQ rfl (by kernel_rfl) (by kernel_rfl) (by kernel_rfl) (by kernel_rfl) (by kernel_rfl) hE (HSub.refl _) (.cons_cons _ (.cons_cons _ (.cons_cons _ (.cons_cons _ (List.nil_sublist _))))) ?_
              refine JL.fieldAddr fo_56_1 rfl .none rfl ?_
              refine JA.cont ?_
              refine JA.take 12 (listed' := #[true, true, true, true, true, true, true, true, false, false, false, true, true, false, false, false, false, false]) hQ rfl (by kernel_rfl) (by kernel_rfl) (by kernel_rfl) (by kernel_rfl) (by kernel_rfl) hE (HSub.refl _) (.cons_cons _ (.cons_cons _ (.cons_cons _ (.cons_cons _ (List.nil_sublist _))))) ?_
              refine JL.loadOwn 1 az_3 rfl rfl rfl .none rfl ?_
              refine JA.cont ?_
              refine JA.many [8] (by kernel_rfl) (by simp) (all_one ⟨_, #[true, true, true, true, true, true, true, true, true, false, false, true, true, false, false, false, false, false], rfl, (by kernel_rfl), ?_⟩)
              refine JL.indexG 1 (l := y24.Ribs) sl_27 rfl rfl rfl rfl hy38 .none rfl ?_
              intro b58 hb59
              refine JA.after hE (HSub.refl _) (.cons_cons _ (.cons_cons _ (.cons_cons _ (.cons_cons _ (List.nil_sublist _))))) ?_
              refine JA.take 9 (listed' := #[true, true, true, true, true, true, true, true, true, true, false, true, true, false, false, false, false, false]) hQ rfl (by kernel_rfl) (by kernel_rfl) (by kernel_rfl) (by kernel_rfl) (by kernel_rfl) hE (HSub.refl _) (.cons_cons _ (.cons_cons _ (.cons_cons _ (.cons_cons _ (List.nil_sublist _))))) ?_
              refine JL.fieldAddr fo_38_0 rfl .none rfl ?_
              refine JA.cont ?_
              refine JA.many [10] (by kernel_rfl) (by simp) (all_one ⟨_, #[true, true, true, true, true, true, true, true, true, true, true, true, true, false, false, false, false, false], rfl, (by kernel_rfl), ?_⟩)
              refine JL.loadG (R := R_Span) 1 (i := x_.Rib) (l := y24.Ribs) (off := 0) az_3 rfl rfl rfl hb59 hy24_1 hy38 (by rintro cs rfl; rfl) .none rfl ?_
              refine JA.after hE (HSub.refl _) (.cons_cons _ (.cons_cons _ (.cons_cons _ (.cons_cons _ (List.nil_sublist _))))) ?_
              refine JA.take 13 (listed' := #[true, true, true, true, true, true, true, true, true, true, true, true, true, true, false, false, false, false]) hQ rfl (by kernel_rfl) (by kernel_rfl) (by kernel_rfl) (by kernel_rfl) (by kernel_rfl) hE (HSub.refl _) (.cons_cons _ (.cons_cons _ (.cons_cons _ (.cons_cons _ (List.nil_sublist _))))) ?_
              refine JL.bin rfl rfl rfl .none rfl ?_
              refine JA.cont ?_
              refine JA.take 14 (listed' := #[true, true, true, true, true, true, true, true, true, true, true, true, true, true, true, false, false, false]) hQ rfl (by kernel_rfl) (by kernel_rfl) (by kernel_rfl) (by kernel_rfl) (by kernel_rfl) hE (HSub.refl _) (.cons_cons _ (.cons_cons _ (.cons_cons _ (.cons_cons _ (List.nil_sublist _))))) ?_
              refine JL.min rfl rfl .none rfl ?_
              refine JA.cont ?_
              refine JA.many [15] (by kernel_rfl) (by simp) (all_one ⟨_, #[true, true, true, true, true, true, true, true, true, true, true, true, true, true, true, true, false, false], rfl, (by kernel_rfl), ?_⟩)
              refine JL.indexG 1 (l := y24.Ribs) sl_27 rfl rfl rfl rfl hy41 .none rfl ?_
              intro b60 hb61
              refine JA.after hE (HSub.refl _) (.cons_cons _ (.cons_cons _ (.cons_cons _ (.cons_cons _ (List.nil_sublist _))))) ?_
              refine JA.take 16 (listed' := #[true, true, true, true, true, true, true, true, true, true, true, true, true, true, true, true, true, false]) hQ rfl (by kernel_rfl) (by kernel_rfl) (by kernel_rfl) (by kernel_rfl) (by kernel_rfl) hE (HSub.refl _) (.cons_cons _ (.cons_cons _ (.cons_cons _ (.cons_cons _ (List.nil_sublist _))))) ?_
              refine JL.fieldAddr fo_38_0 rfl .none rfl ?_
              refine JA.cont ?_
              refine JA.many [17] (by kernel_rfl) (by simp) (all_one ⟨_, #[true, true, true, true, true, true, true, true, true, true, true, true, true, true, true, true, true, true], rfl, (by kernel_rfl), ?_⟩)
              refine JL.storeG (R := R_Span) 1 (i := x_.Rib) (l := y24.Ribs) (y := y41) (y' := (Span.mk (min 99999 (w64 (y38.Low + x_.By))) y41.High)) (off := 0) az_3 rfl rfl rfl rfl (one_cons rfl one_nil) rfl hb61 hy24_1 rfl hy41 rfl (by rintro cs rfl; rfl) .none ?_
              intro xs62 hch63
              refine JA.sink (by kernel_rfl) ?_
              refine JA.done hQ (by kernel_rfl) ?_
              refine JQ.go ?_
              refine JC.fresh (fun f => f 3 = .pointer (some ⟨b1, 0, none⟩) ∧ f 4 = .pointer (some ⟨b2, 0, none⟩) ∧ f 5 = .pointer (some ⟨b3, 0, none⟩) ∧ f 7 = (.slice (some ⟨b4, 0, none⟩) 1 1) ∧ f 8 = .pointer (some ⟨b29, 0, none⟩)) ⟨rfl, rfl, rfl, rfl, rfl⟩ ?_
              rintro f ⟨hf3, hf4, hf5, hf7, hf8⟩
              refine (JC.norm (i := 3) hf3 (JC.norm (i := 4) hf4 (JC.norm (i := 5) hf5 (JC.norm (i := 7) hf7 (JC.norm (i := 8) hf8 ?_)))))
              refine JC.seq ?_
              obtain ⟨y70, hy70, hF⟩ := bind_some hF
              obtain ⟨y73, hy73, hF⟩ := bind_some hF
              refine JC.mixed 17 18 #[false, false, false, false, false, false, false, false, false, false, false, false, false, false, false, false, false, false] [(b29, .cells [y24_v0, .int .i64 y24.Frame.Low, .int .i64 y24.Frame.High, .int .i64 y24.Frame.Ease.Num, .int .i64 y24.Frame.Ease.Den, .int .i64 y24.Frame.Rod, .int .i64 y24.Frame.Case, y24_v1, y24_v2].toArray 30), (b3, .cells [.int .i64 x_.Rib, .int .i64 x_.By, .int .i64 x_.Force].toArray 56), (b2, .cells [.int .i64 g.Force, .int .i64 g.At].toArray 32), (b1, .cells [d_v0, .int .i64 d.Frame.Low, .int .i64 d.Frame.High, .int .i64 d.Frame.Ease.Num, .int .i64 d.Frame.Ease.Den, .int .i64 d.Frame.Rod, .int .i64 d.Frame.Case, d_v7, d_v8].toArray 30)] (by rfl) mo_ (by kernel_rfl) (by kernel_rfl) ?_
              intro hQ hE
              refine JA.take 0 (listed' := #[true, false, false, false, false, false, false, false, false, false, false, false, false, false, false, false, false, false]) hQ rfl (by kernel_rfl) (by kernel_rfl) (by kernel_rfl) (by kernel_rfl) (by kernel_rfl) hE (HSub.refl _) (.cons_cons _ (.cons_cons _ (.cons_cons _ (.cons_cons _ (List.nil_sublist _))))) ?_
              refine JL.fieldAddr fo_30_1 rfl .none rfl ?_
              refine JA.cont ?_
              refine JA.take 1 (listed' := #[true, true, false, false, false, false, false, false, false, false, false, false, false, false, false, false, false, false]) hQ rfl (by kernel_rfl) (by kernel_rfl) (by kernel_rfl) (by kernel_rfl) (by kernel_rfl) hE (HSub.refl _) (.cons_cons _ (.cons_cons _ (.cons_cons _ (.cons_cons _ (List.nil_sublist _))))) ?_
              refine JL.loadOwn 0 az_27 rfl rfl rfl .none rfl ?_
              refine JA.cont ?_
              refine JA.take 2 (listed' := #[true, true, true, false, false, false, false, false, false, false, false, false, false, false, false, false, false, false]) hQ rfl (by kernel_rfl) (by kernel_rfl) (by kernel_rfl) (by kernel_rfl) (by kernel_rfl) hE (HSub.refl _) (.cons_cons _ (.cons_cons _ (.cons_cons _ (.cons_cons _ (List.nil_sublist _))))) ?_
              refine JL.fieldAddr fo_56_0 rfl .none rfl ?_
              refine JA.cont ?_
              refine JA.take 3 (listed' := #[true, true, true, true, false, false, false, false, false, false, false, false, false, false, false, false, false, false]) hQ rfl (by kernel_rfl) (by kernel_rfl) (by kernel_rfl) (by kernel_rfl) (by kernel_rfl) hE (HSub.refl _) (.cons_cons _ (.cons_cons _ (.cons_cons _ (.cons_cons _ (List.nil_sublist _))))) ?_
              refine JL.loadOwn 1 az_3 rfl rfl rfl .none rfl ?_
              refine JA.cont ?_
              refine JA.take 4 (listed' := #[true, true, true, true, true, false, false, false, false, false, false, false, false, false, false, false, false, false]) hQ rfl (by kernel_rfl) (by kernel_rfl) (by kernel_rfl) (by kernel_rfl) (by kernel_rfl) hE (HSub.refl _) (.cons_cons _ (.cons_cons _ (.cons_cons _ (.cons_cons _ (List.nil_sublist _))))) ?_
              refine JL.fieldAddr fo_30_1 rfl .none rfl ?_
              refine JA.cont ?_
              refine JA.take 5 (listed' := #[true, true, true, true, true, true, false, false, false, false, false, false, false, false, false, false, false, false]) hQ rfl (by kernel_rfl) (by kernel_rfl) (by kernel_rfl) (by kernel_rfl) (by kernel_rfl) hE (HSub.refl _) (.cons_cons _ (.cons_cons _ (.cons_cons _ (.cons_cons _ (List.nil_sublist _))))) ?_
              refine JL.loadOwn 0 az_27 rfl rfl rfl .none rfl ?_
              refine JA.cont ?_
              refine JA.take 6 (listed' := #[true, true, true, true, true, true, true, false, false, false, false, false, false, false, false, false, false, false]) hQ rfl (by kernel_rfl) (by kernel_rfl) (by kernel_rfl) (by kernel_rfl) (by kernel_rfl) hE (HSub.refl _) (.cons_cons _ (.cons_cons _ (.cons_cons _ (.cons_cons _ (List.nil_sublist _))))) ?_
              refine JL.fieldAddr fo_56_0 rfl .none rfl ?_
              refine JA.cont ?_
              refine JA.take 7 (listed' := #[true, true, true, true, true, true, true, true, false, false, false, false, false, false, false, false, false, false]) hQ rfl (by kernel_rfl) (by kernel_rfl) (by kernel_rfl) (by kernel_rfl) (by kernel_rfl) hE (HSub.refl _) (.cons_cons _ (.cons_cons _ (.cons_cons _ (.cons_cons _ (List.nil_sublist _))))) ?_
              refine JL.loadOwn 1 az_3 rfl rfl rfl .none rfl ?_
              refine JA.cont ?_
              refine JA.take 11 (listed' := #[true, true, true, true, true, true, true, true, false, false, false, true, false, false, false, false, false, false]) hQ rfl (by kernel_rfl) (by kernel_rfl) (by kernel_rfl) (by kernel_rfl) (by kernel_rfl) hE (HSub.refl _) (.cons_cons _ (.cons_cons _ (.cons_cons _ (.cons_cons _ (List.nil_sublist _))))) ?_
              refine JL.fieldAddr fo_56_1 rfl .none rfl ?_
              refine JA.cont ?_
              refine JA.take 12 (listed' := #[true, true, true, true, true, true, true, true, false, false, false, true, true, false, false, false, false, false]) hQ rfl (by kernel_rfl) (by kernel_rfl) (by kernel_rfl) (by kernel_rfl) (by kernel_rfl) hE (HSub.refl _) (.cons_cons _ (.cons_cons _ (.cons_cons _ (.cons_cons _ (List.nil_sublist _))))) ?_
              refine JL.loadOwn 1 az_3 rfl rfl rfl .none rfl ?_
              refine JA.cont ?_
              refine JA.many [8] (by kernel_rfl) (by simp) (all_one ⟨_, #[true, true, true, true, true, true, true, true, true, false, false, true, true, false, false, false, false, false], rfl, (by kernel_rfl), ?_⟩)
              refine JL.indexG 1 (l := (setx y24.Ribs x_.Rib (Span.mk (min 99999 (w64 (y38.Low + x_.By))) y41.High))) sl_27 rfl rfl rfl rfl hy70 .none rfl ?_
              intro b90 hb91
              refine JA.after hE (HSub.refl _) (.cons_cons _ (.cons_cons _ (.cons_cons _ (.cons_cons _ (List.nil_sublist _))))) ?_
              refine JA.take 9 (listed' := #[true, true, true, true, true, true, true, true, true, true, false, true, true, false, false, false, false, false]) hQ rfl (by kernel_rfl) (by kernel_rfl) (by kernel_rfl) (by kernel_rfl) (by kernel_rfl) hE (HSub.refl _) (.cons_cons _ (.cons_cons _ (.cons_cons _ (.cons_cons _ (List.nil_sublist _))))) ?_
              refine JL.fieldAddr fo_38_1 rfl .none rfl ?_
              refine JA.cont ?_
              refine JA.many [10] (by kernel_rfl) (by simp) (all_one ⟨_, #[true, true, true, true, true, true, true, true, true, true, true, true, true, false, false, false, false, false], rfl, (by kernel_rfl), ?_⟩)
              refine JL.loadG (R := R_Span) 1 (i := x_.Rib) (l := (setx y24.Ribs x_.Rib (Span.mk (min 99999 (w64 (y38.Low + x_.By))) y41.High))) (off := 1) az_3 rfl rfl rfl hb91 hch63 hy70 (by rintro cs rfl; rfl) .none rfl ?_
              refine JA.after hE (HSub.refl _) (.cons_cons _ (.cons_cons _ (.cons_cons _ (.cons_cons _ (List.nil_sublist _))))) ?_
              refine JA.take 13 (listed' := #[true, true, true, true, true, true, true, true, true, true, true, true, true, true, false, false, false, false]) hQ rfl (by kernel_rfl) (by kernel_rfl) (by kernel_rfl) (by kernel_rfl) (by kernel_rfl) hE (HSub.refl _) (.cons_cons _ (.cons_cons _ (.cons_cons _ (.cons_cons _ (List.nil_sublist _))))) ?_
              refine JL.bin rfl rfl rfl .none rfl ?_
              refine JA.cont ?_
              refine JA.take 14 (listed' := #[true, true, true, true, true, true, true, true, true, true, true, true, true, true, true, false, false, false]) hQ rfl (by kernel_rfl) (by kernel_rfl) (by kernel_rfl) (by kernel_rfl) (by kernel_rfl) hE (HSub.refl _) (.cons_cons _ (.cons_cons _ (.cons_cons _ (.cons_cons _ (List.nil_sublist _))))) ?_
              refine JL.min rfl rfl .none rfl ?_
              refine JA.cont ?_
              refine JA.many [15] (by kernel_rfl) (by simp) (all_one ⟨_, #[true, true, true, true, true, true, true, true, true, true, true, true, true, true, true, true, false, false], rfl, (by kernel_rfl), ?_⟩)
              refine JL.indexG 1 (l := (setx y24.Ribs x_.Rib (Span.mk (min 99999 (w64 (y38.Low + x_.By))) y41.High))) sl_27 rfl rfl rfl rfl hy73 .none rfl ?_
              intro b92 hb93
              refine JA.after hE (HSub.refl _) (.cons_cons _ (.cons_cons _ (.cons_cons _ (.cons_cons _ (List.nil_sublist _))))) ?_
              refine JA.take 16 (listed' := #[true, true, true, true, true, true, true, true, true, true, true, true, true, true, true, true, true, false]) hQ rfl (by kernel_rfl) (by kernel_rfl) (by kernel_rfl) (by kernel_rfl) (by kernel_rfl) hE (HSub.refl _) (.cons_cons _ (.cons_cons _ (.cons_cons _ (.cons_cons _ (List.nil_sublist _))))) ?_
              refine JL.fieldAddr fo_38_1 rfl .none rfl ?_
              refine JA.cont ?_
              refine JA.many [17] (by kernel_rfl) (by simp) (all_one ⟨_, #[true, true, true, true, true, true, true, true, true, true, true, true, true, true, true, true, true, true], rfl, (by kernel_rfl), ?_⟩)
              refine JL.storeG (R := R_Span) 1 (i := x_.Rib) (l := (setx y24.Ribs x_.Rib (Span.mk (min 99999 (w64 (y38.Low + x_.By))) y41.High))) (y := y73) (y' := (Span.mk y73.Low (min 99999 (w64 (y70.High + x_.By))))) (off := 1) az_3 rfl rfl rfl rfl (one_cons rfl one_nil) rfl hb93 hch63 rfl hy73 rfl (by rintro cs rfl; rfl) .none ?_
              intro xs94 hch95
              refine JA.sink (by kernel_rfl) ?_
              refine JA.done hQ (by kernel_rfl) ?_
              refine JQ.go ?_
              refine JC.fresh (fun f => f 3 = .pointer (some ⟨b1, 0, none⟩) ∧ f 4 = .pointer (some ⟨b2, 0, none⟩) ∧ f 5 = .pointer (some ⟨b3, 0, none⟩) ∧ f 7 = (.slice (some ⟨b4, 0, none⟩) 1 1) ∧ f 8 = .pointer (some ⟨b29, 0, none⟩)) ⟨rfl, rfl, rfl, rfl, rfl⟩ ?_
              rintro f ⟨hf3, hf4, hf5, hf7, hf8⟩
              refine (JC.norm (i := 3) hf3 (JC.norm (i := 4) hf4 (JC.norm (i := 5) hf5 (JC.norm (i := 7) hf7 (JC.norm (i := 8) hf8 ?_)))))
              refine JC.seq ?_
              refine JC.region (by rfl) ?_
              intro hQ
              refine JL.fieldAddr fo_32_0 rfl .none rfl ?_
              refine JL.loadOwn 2 az_3 rfl rfl rfl .none rfl ?_
              refine JL.fieldAddr fo_56_2 rfl .none rfl ?_
              refine JL.loadOwn 1 az_3 rfl rfl rfl .none rfl ?_
              refine JL.bin rfl rfl rfl .none rfl ?_
              refine JL.fieldAddr fo_32_1 rfl .none rfl ?_
              refine JL.loadOwn 2 az_3 rfl rfl rfl .none rfl ?_
              refine JL.build (l := [.int .i64 (w64 (g.Force - x_.Force)), .int .i64 g.At]) (by kernel_rfl) .none rfl ?_
              refine JL.alloc ze_32 .none rfl ?_
              intro b96
              refine JL.storeOwn 0 (cs := [.int .i64 (w64 (g.Force - x_.Force)), .int .i64 g.At]) az_32 rfl rfl rfl (one_cons rfl (one_cons rfl one_nil)) rfl rfl .none ?_
              refine JL.done hQ ?_
              refine JQ.go ?_
              refine JC.fresh (fun f => f 3 = .pointer (some ⟨b1, 0, none⟩) ∧ f 4 = .pointer (some ⟨b2, 0, none⟩) ∧ f 7 = (.slice (some ⟨b4, 0, none⟩) 1 1) ∧ f 8 = .pointer (some ⟨b29, 0, none⟩) ∧ f 9 = .pointer (some ⟨b96, 0, none⟩)) ⟨rfl, rfl, rfl, rfl, rfl⟩ ?_
              rintro f ⟨hf3, hf4, hf7, hf8, hf9⟩
              refine (JC.norm (i := 3) hf3 (JC.norm (i := 4) hf4 (JC.norm (i := 7) hf7 (JC.norm (i := 8) hf8 (JC.norm (i := 9) hf9 ?_)))))
              refine JC.seq ?_
              refine JC.region (by rfl) ?_
              intro hQ
              refine JL.loadOwn 4 az_30 rfl rfl rfl .none rfl ?_
              refine JL.loadOwn 3 az_32 rfl rfl rfl .none rfl ?_
              obtain ⟨y97, hy97, hF⟩ := bind_some hF
              refine JL.callH (c_gusts_Goes n H25 d d_v0 (SL.mono R_Section_mono (HSub.trans hs5 hs25) hd_0) d_v7 (SL.mono R_Span_mono (HSub.trans hs5 hs25) hd_7) d_v8 (SL.mono RInt.mono (HSub.trans hs5 hs25) hd_8) g y97 hy97) rfl en_14 .none rfl ?_
              rintro H98 vv99 hs98 ⟨y97a_v0, y97b_v0, rfl, hy97a_0, hy97b_0⟩
              refine JL.move .none rfl ?_
              refine JL.extract rfl rfl .none rfl ?_
              refine JL.extract rfl rfl .none rfl ?_
              refine JL.extract rfl rfl .none rfl ?_
              refine JL.assign .none rfl ?_
              refine JL.assign .none rfl ?_
              refine JL.assign .none rfl ?_
              refine JL.done hQ ?_
              refine JQ.go ?_
              refine JC.seq ?_
              refine JC.region (by rfl) ?_
              intro hQ
              refine JL.loadOwn 1 az_30 rfl rfl rfl .none rfl ?_
              refine JL.loadOwn 0 az_32 rfl rfl rfl .none rfl ?_
              refine JL.freezeG 1 (R := R_Span) rfl R_Span_mono (CH.mono R_Span_mono hs98 hch95) rfl ?_
              intro H100 hs100 hg101
              refine JL.freezeG 0 (R := RInt) rfl RInt.mono (CH.mono RInt.mono (HSub.trans hs98 hs100) hy24_2) rfl ?_
              intro H102 hs102 hg103
              obtain ⟨y104, hy104, hF⟩ := bind_some hF
              refine JL.callH (c_gusts_Goes n H102 (Canopy.mk y24.Frame (setx (setx y24.Ribs x_.Rib (Span.mk (min 99999 (w64 (y38.Low + x_.By))) y41.High)) x_.Rib (Span.mk y73.Low (min 99999 (w64 (y70.High + x_.By))))) y24.Shares) y24_v0 (SL.mono R_Section_mono (HSub.trans hs98 (HSub.trans hs100 hs102)) hy24_0) y24_v1 (SL.mono R_Span_mono hs102 hg101) y24_v2 hg103 (Gust.mk (w64 (g.Force - x_.Force)) g.At) y104 hy104) rfl en_14 .none rfl ?_
              rintro H105 vv106 hs105 ⟨y104a_v0, y104b_v0, rfl, hy104a_0, hy104b_0⟩
              refine JL.move .none rfl ?_
              refine JL.extract rfl rfl .none rfl ?_
              refine JL.extract rfl rfl .none rfl ?_
              refine JL.extract rfl rfl .none rfl ?_
              refine JL.assign .none rfl ?_
              refine JL.assign .none rfl ?_
              refine JL.assign .none rfl ?_
              refine JL.done hQ ?_
              refine JQ.go ?_
              refine JC.fresh (fun f => f 3 = .pointer (some ⟨b1, 0, none⟩) ∧ f 4 = .pointer (some ⟨b2, 0, none⟩) ∧ f 7 = (.slice (some ⟨b4, 0, none⟩) 1 1) ∧ f 8 = .pointer (some ⟨b29, 0, none⟩) ∧ f 9 = .pointer (some ⟨b96, 0, none⟩) ∧ f 10 = y97a_v0 ∧ f 11 = y97b_v0 ∧ f 12 = .int .i64 y97.2.2 ∧ f 13 = y104a_v0 ∧ f 14 = y104b_v0 ∧ f 15 = .int .i64 y104.2.2) ⟨rfl, rfl, rfl, rfl, rfl, rfl, rfl, rfl, rfl, rfl, rfl⟩ ?_
              rintro f ⟨hf3, hf4, hf7, hf8, hf9, hf10, hf11, hf12, hf13, hf14, hf15⟩
              refine (JC.norm (i := 3) hf3 (JC.norm (i := 4) hf4 (JC.norm (i := 7) hf7 (JC.norm (i := 8) hf8 (JC.norm (i := 9) hf9 (JC.norm (i := 10) hf10 (JC.norm (i := 11) hf11 (JC.norm (i := 12) hf12 (JC.norm (i := 13) hf13 (JC.norm (i := 14) hf14 (JC.norm (i := 15) hf15 ?_)))))))))))
              refine JC.seq ?_
              refine JC.region (by rfl) ?_
              intro hQ
              refine JL.loadOwn 4 az_30 rfl rfl rfl .none rfl ?_
              refine JL.move .none rfl ?_
              obtain ⟨y107, hy107, hF⟩ := bind_some hF
              refine JL.callS (c_gusts_Stands n H105 d d_v0 (SL.mono R_Section_mono (HSub.trans hs5 (HSub.trans hs25 (HSub.trans hs98 (HSub.trans hs100 (HSub.trans hs102 hs105))))) hd_0) d_v7 (SL.mono R_Span_mono (HSub.trans hs5 (HSub.trans hs25 (HSub.trans hs98 (HSub.trans hs100 (HSub.trans hs102 hs105))))) hd_7) d_v8 (SL.mono RInt.mono (HSub.trans hs5 (HSub.trans hs25 (HSub.trans hs98 (HSub.trans hs100 (HSub.trans hs102 hs105))))) hd_8) [g] (.slice (some ⟨b4, 0, none⟩) 1 1) (SL.mono R_Gust_mono (HSub.trans hs25 (HSub.trans hs98 (HSub.trans hs100 (HSub.trans hs102 hs105)))) hg7) y107 hy107) rfl en_29 .none rfl ?_
              refine JL.move .none rfl ?_
              refine JL.extract rfl rfl .none rfl ?_
              refine JL.extract rfl rfl .none rfl ?_
              refine JL.assign .none rfl ?_
              refine JL.assign .none rfl ?_
              refine JL.done hQ ?_
              refine JQ.go ?_
              refine JC.seq ?_
              refine JC.region (by rfl) ?_
              intro hQ
              refine JL.loadOwn 1 az_30 rfl rfl rfl .none rfl ?_
              refine JL.loadOwn 0 az_32 rfl rfl rfl .none rfl ?_
              refine JL.buildSlice (e := 32) (l := [.int .i64 (w64 (g.Force - x_.Force)), .int .i64 g.At]) (by kernel_rfl) .none rfl ?_
              intro b108
              refine JL.freezeC 0 (l := [.int .i64 (w64 (g.Force - x_.Force)), .int .i64 g.At]) rfl ?_
              intro H109 hs109 hc110
              have hg111 : SL H109 2 R_Gust (.slice (some ⟨b108, 0, none⟩) 1 1) [(Gust.mk (w64 (g.Force - x_.Force)) g.At)] := CH.sl (l := [(Gust.mk (w64 (g.Force - x_.Force)) g.At)]) (CH.cons (cs := [.int .i64 (w64 (g.Force - x_.Force)), .int .i64 g.At]) rfl rfl CH.nil) hc110 ⟨by simp, by simp⟩
              obtain ⟨y112, hy112, hF⟩ := bind_some hF
              refine JL.callS (c_gusts_Stands n H109 (Canopy.mk y24.Frame (setx (setx y24.Ribs x_.Rib (Span.mk (min 99999 (w64 (y38.Low + x_.By))) y41.High)) x_.Rib (Span.mk y73.Low (min 99999 (w64 (y70.High + x_.By))))) y24.Shares) y24_v0 (SL.mono R_Section_mono (HSub.trans hs98 (HSub.trans hs100 (HSub.trans hs102 (HSub.trans hs105 hs109)))) hy24_0) y24_v1 (SL.mono R_Span_mono (HSub.trans hs102 (HSub.trans hs105 hs109)) hg101) y24_v2 (SL.mono RInt.mono (HSub.trans hs105 hs109) hg103) [(Gust.mk (w64 (g.Force - x_.Force)) g.At)] (.slice (some ⟨b108, 0, none⟩) 1 1) hg111 y112 hy112) rfl en_29 .none rfl ?_
              refine JL.move .none rfl ?_
              refine JL.extract rfl rfl .none rfl ?_
              refine JL.extract rfl rfl .none rfl ?_
              refine JL.assign .none rfl ?_
              refine JL.assign .none rfl ?_
              refine JL.done hQ ?_
              refine JQ.go ?_
              refine JC.fresh (fun f => f 3 = .pointer (some ⟨b1, 0, none⟩) ∧ f 4 = .pointer (some ⟨b2, 0, none⟩) ∧ f 8 = .pointer (some ⟨b29, 0, none⟩) ∧ f 10 = y97a_v0 ∧ f 11 = y97b_v0 ∧ f 12 = .int .i64 y97.2.2 ∧ f 13 = y104a_v0 ∧ f 14 = y104b_v0 ∧ f 15 = .int .i64 y104.2.2 ∧ f 16 = .int .i64 y107.1 ∧ f 17 = .int .i64 y107.2 ∧ f 18 = .int .i64 y112.1 ∧ f 19 = .int .i64 y112.2) ⟨rfl, rfl, rfl, rfl, rfl, rfl, rfl, rfl, rfl, rfl, rfl, rfl, rfl⟩ ?_
              rintro f ⟨hf3, hf4, hf8, hf10, hf11, hf12, hf13, hf14, hf15, hf16, hf17, hf18, hf19⟩
              refine (JC.norm (i := 3) hf3 (JC.norm (i := 4) hf4 (JC.norm (i := 8) hf8 (JC.norm (i := 10) hf10 (JC.norm (i := 11) hf11 (JC.norm (i := 12) hf12 (JC.norm (i := 13) hf13 (JC.norm (i := 14) hf14 (JC.norm (i := 15) hf15 (JC.norm (i := 16) hf16 (JC.norm (i := 17) hf17 (JC.norm (i := 18) hf18 (JC.norm (i := 19) hf19 ?_)))))))))))))
              refine JC.seq ?_
              refine JC.region (by rfl) ?_
              intro hQ
              refine JL.loadOwn 4 az_30 rfl rfl rfl .none rfl ?_
              refine JL.fieldAddr fo_32_1 rfl .none rfl ?_
              refine JL.loadOwn 3 az_3 rfl rfl rfl .none rfl ?_
              obtain ⟨y113, hy113, hF⟩ := bind_some hF
              refine JL.callS (c_gusts_Most n H109 d d_v0 (SL.mono R_Section_mono (HSub.trans hs5 (HSub.trans hs25 (HSub.trans hs98 (HSub.trans hs100 (HSub.trans hs102 (HSub.trans hs105 hs109)))))) hd_0) d_v7 (SL.mono R_Span_mono (HSub.trans hs5 (HSub.trans hs25 (HSub.trans hs98 (HSub.trans hs100 (HSub.trans hs102 (HSub.trans hs105 hs109)))))) hd_7) d_v8 (SL.mono RInt.mono (HSub.trans hs5 (HSub.trans hs25 (HSub.trans hs98 (HSub.trans hs100 (HSub.trans hs102 (HSub.trans hs105 hs109)))))) hd_8) g.At y113 hy113) rfl en_30 .none rfl ?_
              refine JL.move .none rfl ?_
              refine JL.extract rfl rfl .none rfl ?_
              refine JL.extract rfl rfl .none rfl ?_
              refine JL.assign .none rfl ?_
              refine JL.assign .none rfl ?_
              refine JL.done hQ ?_
              refine JQ.go ?_
              refine JC.fresh (fun f => f 4 = .pointer (some ⟨b2, 0, none⟩) ∧ f 8 = .pointer (some ⟨b29, 0, none⟩) ∧ f 10 = y97a_v0 ∧ f 11 = y97b_v0 ∧ f 12 = .int .i64 y97.2.2 ∧ f 13 = y104a_v0 ∧ f 14 = y104b_v0 ∧ f 15 = .int .i64 y104.2.2 ∧ f 16 = .int .i64 y107.1 ∧ f 17 = .int .i64 y107.2 ∧ f 18 = .int .i64 y112.1 ∧ f 19 = .int .i64 y112.2 ∧ f 20 = .int .i64 y113.1 ∧ f 21 = .int .i64 y113.2) ⟨rfl, rfl, rfl, rfl, rfl, rfl, rfl, rfl, rfl, rfl, rfl, rfl, rfl, rfl⟩ ?_
              rintro f ⟨hf4, hf8, hf10, hf11, hf12, hf13, hf14, hf15, hf16, hf17, hf18, hf19, hf20, hf21⟩
              refine (JC.norm (i := 4) hf4 (JC.norm (i := 8) hf8 (JC.norm (i := 10) hf10 (JC.norm (i := 11) hf11 (JC.norm (i := 12) hf12 (JC.norm (i := 13) hf13 (JC.norm (i := 14) hf14 (JC.norm (i := 15) hf15 (JC.norm (i := 16) hf16 (JC.norm (i := 17) hf17 (JC.norm (i := 18) hf18 (JC.norm (i := 19) hf19 (JC.norm (i := 20) hf20 (JC.norm (i := 21) hf21 ?_))))))))))))))
              refine JC.seq ?_
              refine JC.region (by rfl) ?_
              intro hQ
              refine JL.loadOwn 1 az_30 rfl rfl rfl .none rfl ?_
              refine JL.fieldAddr fo_32_1 rfl .none rfl ?_
              refine JL.loadOwn 3 az_3 rfl rfl rfl .none rfl ?_
              obtain ⟨y114, hy114, hF⟩ := bind_some hF
              refine JL.callS (c_gusts_Most n H109 (Canopy.mk y24.Frame (setx (setx y24.Ribs x_.Rib (Span.mk (min 99999 (w64 (y38.Low + x_.By))) y41.High)) x_.Rib (Span.mk y73.Low (min 99999 (w64 (y70.High + x_.By))))) y24.Shares) y24_v0 (SL.mono R_Section_mono (HSub.trans hs98 (HSub.trans hs100 (HSub.trans hs102 (HSub.trans hs105 hs109)))) hy24_0) y24_v1 (SL.mono R_Span_mono (HSub.trans hs102 (HSub.trans hs105 hs109)) hg101) y24_v2 (SL.mono RInt.mono (HSub.trans hs105 hs109) hg103) g.At y114 hy114) rfl en_30 .none rfl ?_
              refine JL.move .none rfl ?_
              refine JL.extract rfl rfl .none rfl ?_
              refine JL.extract rfl rfl .none rfl ?_
              refine JL.assign .none rfl ?_
              refine JL.assign .none rfl ?_
              refine JL.done hQ ?_
              refine JQ.go ?_
              refine JC.fresh (fun f => f 10 = y97a_v0 ∧ f 11 = y97b_v0 ∧ f 12 = .int .i64 y97.2.2 ∧ f 13 = y104a_v0 ∧ f 14 = y104b_v0 ∧ f 15 = .int .i64 y104.2.2 ∧ f 16 = .int .i64 y107.1 ∧ f 17 = .int .i64 y107.2 ∧ f 18 = .int .i64 y112.1 ∧ f 19 = .int .i64 y112.2 ∧ f 20 = .int .i64 y113.1 ∧ f 21 = .int .i64 y113.2 ∧ f 22 = .int .i64 y114.1 ∧ f 23 = .int .i64 y114.2) ⟨rfl, rfl, rfl, rfl, rfl, rfl, rfl, rfl, rfl, rfl, rfl, rfl, rfl, rfl⟩ ?_
              rintro f ⟨hf10, hf11, hf12, hf13, hf14, hf15, hf16, hf17, hf18, hf19, hf20, hf21, hf22, hf23⟩
              refine (JC.norm (i := 10) hf10 (JC.norm (i := 11) hf11 (JC.norm (i := 12) hf12 (JC.norm (i := 13) hf13 (JC.norm (i := 14) hf14 (JC.norm (i := 15) hf15 (JC.norm (i := 16) hf16 (JC.norm (i := 17) hf17 (JC.norm (i := 18) hf18 (JC.norm (i := 19) hf19 (JC.norm (i := 20) hf20 (JC.norm (i := 21) hf21 (JC.norm (i := 22) hf22 (JC.norm (i := 23) hf23 ?_))))))))))))))
              refine JC.seq ?_
              refine JC.seq ?_
              refine JC.region (by rfl) ?_
              intro hQ
              refine JL.move .none rfl ?_
              refine JL.bin rfl rfl rfl .none rfl ?_
              refine JL.move .none rfl ?_
              refine JL.cut 3 (fun f => f 10 = y97a_v0 ∧ f 11 = y97b_v0 ∧ f 13 = y104a_v0 ∧ f 14 = y104b_v0 ∧ f 16 = .int .i64 y107.1 ∧ f 17 = .int .i64 y107.2 ∧ f 18 = .int .i64 y112.1 ∧ f 19 = .int .i64 y112.2 ∧ f 20 = .int .i64 y113.1 ∧ f 21 = .int .i64 y113.2 ∧ f 22 = .int .i64 y114.1 ∧ f 23 = .int .i64 y114.2 ∧ f 150 = .bool ((y97.2.2 != 0) || (y104.2.2 != 0))) ?_ ?_
              · intro hJ115
                rcases bcases (y97.2.2 != 0) with hc116 | hc116
                · skip
                  refine JL.skip (.bool rfl rfl rfl hc116) rfl ?_
                  refine JL.skip (.bool rfl rfl rfl hc116) rfl ?_
                  refine JL.pick_t (b := (y97.2.2 != 0)) rfl hc116 .none rfl ?_
                  exact hJ115 _ ⟨rfl, rfl, rfl, rfl, rfl, rfl, rfl, rfl, rfl, rfl, rfl, rfl, or_t hc116 rfl⟩
                · skip
                  refine JL.move (.some rfl rfl rfl hc116) rfl ?_
                  refine JL.bin rfl rfl rfl (.some rfl rfl rfl hc116) rfl ?_
                  refine JL.pick_f (b := (y97.2.2 != 0)) rfl hc116 .none rfl ?_
                  exact hJ115 _ ⟨rfl, rfl, rfl, rfl, rfl, rfl, rfl, rfl, rfl, rfl, rfl, rfl, or_f hc116 rfl⟩
              · rintro f ⟨hf10, hf11, hf13, hf14, hf16, hf17, hf18, hf19, hf20, hf21, hf22, hf23, hf150⟩
                refine (JL.norm (i := 10) hf10 (JL.norm (i := 11) hf11 (JL.norm (i := 13) hf13 (JL.norm (i := 14) hf14 (JL.norm (i := 16) hf16 (JL.norm (i := 17) hf17 (JL.norm (i := 18) hf18 (JL.norm (i := 19) hf19 (JL.norm (i := 20) hf20 (JL.norm (i := 21) hf21 (JL.norm (i := 22) hf22 (JL.norm (i := 23) hf23 (JL.norm (i := 150) hf150 ?_)))))))))))))
                refine JL.move .none rfl ?_
                refine JL.cut 3 (fun f => f 10 = y97a_v0 ∧ f 11 = y97b_v0 ∧ f 13 = y104a_v0 ∧ f 14 = y104b_v0 ∧ f 16 = .int .i64 y107.1 ∧ f 18 = .int .i64 y112.1 ∧ f 19 = .int .i64 y112.2 ∧ f 20 = .int .i64 y113.1 ∧ f 21 = .int .i64 y113.2 ∧ f 22 = .int .i64 y114.1 ∧ f 23 = .int .i64 y114.2 ∧ f 154 = .bool (((y97.2.2 != 0) || (y104.2.2 != 0)) || (y107.2 != 0))) ?_ ?_
                · intro hJ117
                  rcases bcases ((y97.2.2 != 0) || (y104.2.2 != 0)) with hc118 | hc118
                  · skip
                    refine JL.skip (.bool rfl rfl rfl hc118) rfl ?_
                    refine JL.skip (.bool rfl rfl rfl hc118) rfl ?_
                    refine JL.pick_t (b := ((y97.2.2 != 0) || (y104.2.2 != 0))) rfl hc118 .none rfl ?_
                    exact hJ117 _ ⟨rfl, rfl, rfl, rfl, rfl, rfl, rfl, rfl, rfl, rfl, rfl, or_t hc118 rfl⟩
                  · skip
                    refine JL.move (.some rfl rfl rfl hc118) rfl ?_
                    refine JL.bin rfl rfl rfl (.some rfl rfl rfl hc118) rfl ?_
                    refine JL.pick_f (b := ((y97.2.2 != 0) || (y104.2.2 != 0))) rfl hc118 .none rfl ?_
                    exact hJ117 _ ⟨rfl, rfl, rfl, rfl, rfl, rfl, rfl, rfl, rfl, rfl, rfl, or_f hc118 rfl⟩
                · rintro f ⟨hf10, hf11, hf13, hf14, hf16, hf18, hf19, hf20, hf21, hf22, hf23, hf154⟩
                  refine (JL.norm (i := 10) hf10 (JL.norm (i := 11) hf11 (JL.norm (i := 13) hf13 (JL.norm (i := 14) hf14 (JL.norm (i := 16) hf16 (JL.norm (i := 18) hf18 (JL.norm (i := 19) hf19 (JL.norm (i := 20) hf20 (JL.norm (i := 21) hf21 (JL.norm (i := 22) hf22 (JL.norm (i := 23) hf23 (JL.norm (i := 154) hf154 ?_))))))))))))
                  refine JL.move .none rfl ?_
                  refine JL.cut 3 (fun f => f 10 = y97a_v0 ∧ f 11 = y97b_v0 ∧ f 13 = y104a_v0 ∧ f 14 = y104b_v0 ∧ f 16 = .int .i64 y107.1 ∧ f 18 = .int .i64 y112.1 ∧ f 20 = .int .i64 y113.1 ∧ f 21 = .int .i64 y113.2 ∧ f 22 = .int .i64 y114.1 ∧ f 23 = .int .i64 y114.2 ∧ f 158 = .bool ((((y97.2.2 != 0) || (y104.2.2 != 0)) || (y107.2 != 0)) || (y112.2 != 0))) ?_ ?_
                  · intro hJ119
                    rcases bcases (((y97.2.2 != 0) || (y104.2.2 != 0)) || (y107.2 != 0)) with hc120 | hc120
                    · skip
                      refine JL.skip (.bool rfl rfl rfl hc120) rfl ?_
                      refine JL.skip (.bool rfl rfl rfl hc120) rfl ?_
                      refine JL.pick_t (b := (((y97.2.2 != 0) || (y104.2.2 != 0)) || (y107.2 != 0))) rfl hc120 .none rfl ?_
                      exact hJ119 _ ⟨rfl, rfl, rfl, rfl, rfl, rfl, rfl, rfl, rfl, rfl, or_t hc120 rfl⟩
                    · skip
                      refine JL.move (.some rfl rfl rfl hc120) rfl ?_
                      refine JL.bin rfl rfl rfl (.some rfl rfl rfl hc120) rfl ?_
                      refine JL.pick_f (b := (((y97.2.2 != 0) || (y104.2.2 != 0)) || (y107.2 != 0))) rfl hc120 .none rfl ?_
                      exact hJ119 _ ⟨rfl, rfl, rfl, rfl, rfl, rfl, rfl, rfl, rfl, rfl, or_f hc120 rfl⟩
                  · rintro f ⟨hf10, hf11, hf13, hf14, hf16, hf18, hf20, hf21, hf22, hf23, hf158⟩
                    refine (JL.norm (i := 10) hf10 (JL.norm (i := 11) hf11 (JL.norm (i := 13) hf13 (JL.norm (i := 14) hf14 (JL.norm (i := 16) hf16 (JL.norm (i := 18) hf18 (JL.norm (i := 20) hf20 (JL.norm (i := 21) hf21 (JL.norm (i := 22) hf22 (JL.norm (i := 23) hf23 (JL.norm (i := 158) hf158 ?_)))))))))))
                    refine JL.move .none rfl ?_
                    refine JL.cut 3 (fun f => f 10 = y97a_v0 ∧ f 11 = y97b_v0 ∧ f 13 = y104a_v0 ∧ f 14 = y104b_v0 ∧ f 16 = .int .i64 y107.1 ∧ f 18 = .int .i64 y112.1 ∧ f 20 = .int .i64 y113.1 ∧ f 22 = .int .i64 y114.1 ∧ f 23 = .int .i64 y114.2 ∧ f 162 = .bool (((((y97.2.2 != 0) || (y104.2.2 != 0)) || (y107.2 != 0)) || (y112.2 != 0)) || (y113.2 != 0))) ?_ ?_
                    · intro hJ121
                      rcases bcases ((((y97.2.2 != 0) || (y104.2.2 != 0)) || (y107.2 != 0)) || (y112.2 != 0)) with hc122 | hc122
                      · skip
                        refine JL.skip (.bool rfl rfl rfl hc122) rfl ?_
                        refine JL.skip (.bool rfl rfl rfl hc122) rfl ?_
                        refine JL.pick_t (b := ((((y97.2.2 != 0) || (y104.2.2 != 0)) || (y107.2 != 0)) || (y112.2 != 0))) rfl hc122 .none rfl ?_
                        exact hJ121 _ ⟨rfl, rfl, rfl, rfl, rfl, rfl, rfl, rfl, rfl, or_t hc122 rfl⟩
                      · skip
                        refine JL.move (.some rfl rfl rfl hc122) rfl ?_
                        refine JL.bin rfl rfl rfl (.some rfl rfl rfl hc122) rfl ?_
                        refine JL.pick_f (b := ((((y97.2.2 != 0) || (y104.2.2 != 0)) || (y107.2 != 0)) || (y112.2 != 0))) rfl hc122 .none rfl ?_
                        exact hJ121 _ ⟨rfl, rfl, rfl, rfl, rfl, rfl, rfl, rfl, rfl, or_f hc122 rfl⟩
                    · rintro f ⟨hf10, hf11, hf13, hf14, hf16, hf18, hf20, hf22, hf23, hf162⟩
                      refine (JL.norm (i := 10) hf10 (JL.norm (i := 11) hf11 (JL.norm (i := 13) hf13 (JL.norm (i := 14) hf14 (JL.norm (i := 16) hf16 (JL.norm (i := 18) hf18 (JL.norm (i := 20) hf20 (JL.norm (i := 22) hf22 (JL.norm (i := 23) hf23 (JL.norm (i := 162) hf162 ?_))))))))))
                      refine JL.move .none rfl ?_
                      refine JL.cut 3 (fun f => f 10 = y97a_v0 ∧ f 11 = y97b_v0 ∧ f 13 = y104a_v0 ∧ f 14 = y104b_v0 ∧ f 16 = .int .i64 y107.1 ∧ f 18 = .int .i64 y112.1 ∧ f 20 = .int .i64 y113.1 ∧ f 22 = .int .i64 y114.1 ∧ f 166 = .bool ((((((y97.2.2 != 0) || (y104.2.2 != 0)) || (y107.2 != 0)) || (y112.2 != 0)) || (y113.2 != 0)) || (y114.2 != 0))) ?_ ?_
                      · intro hJ123
                        rcases bcases (((((y97.2.2 != 0) || (y104.2.2 != 0)) || (y107.2 != 0)) || (y112.2 != 0)) || (y113.2 != 0)) with hc124 | hc124
                        · skip
                          refine JL.skip (.bool rfl rfl rfl hc124) rfl ?_
                          refine JL.skip (.bool rfl rfl rfl hc124) rfl ?_
                          refine JL.pick_t (b := (((((y97.2.2 != 0) || (y104.2.2 != 0)) || (y107.2 != 0)) || (y112.2 != 0)) || (y113.2 != 0))) rfl hc124 .none rfl ?_
                          exact hJ123 _ ⟨rfl, rfl, rfl, rfl, rfl, rfl, rfl, rfl, or_t hc124 rfl⟩
                        · skip
                          refine JL.move (.some rfl rfl rfl hc124) rfl ?_
                          refine JL.bin rfl rfl rfl (.some rfl rfl rfl hc124) rfl ?_
                          refine JL.pick_f (b := (((((y97.2.2 != 0) || (y104.2.2 != 0)) || (y107.2 != 0)) || (y112.2 != 0)) || (y113.2 != 0))) rfl hc124 .none rfl ?_
                          exact hJ123 _ ⟨rfl, rfl, rfl, rfl, rfl, rfl, rfl, rfl, or_f hc124 rfl⟩
                      · rintro f ⟨hf10, hf11, hf13, hf14, hf16, hf18, hf20, hf22, hf166⟩
                        refine (JL.norm (i := 10) hf10 (JL.norm (i := 11) hf11 (JL.norm (i := 13) hf13 (JL.norm (i := 14) hf14 (JL.norm (i := 16) hf16 (JL.norm (i := 18) hf18 (JL.norm (i := 20) hf20 (JL.norm (i := 22) hf22 (JL.norm (i := 166) hf166 ?_)))))))))
                        refine JL.move .none rfl ?_
                        refine JL.cut 7 (fun f => f 10 = y97a_v0 ∧ f 11 = y97b_v0 ∧ f 13 = y104a_v0 ∧ f 14 = y104b_v0 ∧ f 16 = .int .i64 y107.1 ∧ f 18 = .int .i64 y112.1 ∧ f 20 = .int .i64 y113.1 ∧ f 22 = .int .i64 y114.1 ∧ f 174 = .bool (((((((y97.2.2 != 0) || (y104.2.2 != 0)) || (y107.2 != 0)) || (y112.2 != 0)) || (y113.2 != 0)) || (y114.2 != 0)) || (decide (40 < (w64 ((y104.1.length : Int) + (y104.2.1.length : Int))))))) ?_ ?_
                        · intro hJ125
                          rcases bcases ((((((y97.2.2 != 0) || (y104.2.2 != 0)) || (y107.2 != 0)) || (y112.2 != 0)) || (y113.2 != 0)) || (y114.2 != 0)) with hc126 | hc126
                          · skip
                            refine JL.skip (.bool rfl rfl rfl hc126) rfl ?_
                            refine JL.skip (.bool rfl rfl rfl hc126) rfl ?_
                            refine JL.skip (.bool rfl rfl rfl hc126) rfl ?_
                            refine JL.skip (.bool rfl rfl rfl hc126) rfl ?_
                            refine JL.skip (.bool rfl rfl rfl hc126) rfl ?_
                            refine JL.skip (.bool rfl rfl rfl hc126) rfl ?_
                            refine JL.pick_t (b := ((((((y97.2.2 != 0) || (y104.2.2 != 0)) || (y107.2 != 0)) || (y112.2 != 0)) || (y113.2 != 0)) || (y114.2 != 0))) rfl hc126 .none rfl ?_
                            exact hJ125 _ ⟨rfl, rfl, rfl, rfl, rfl, rfl, rfl, rfl, or_t hc126 rfl⟩
                          · skip
                            refine JL.move (.some rfl rfl rfl hc126) rfl ?_
                            refine JL.lenSL (R := RInt) ul_28 (SL.mono RInt.mono hs109 hy104a_0) (.some rfl rfl rfl hc126) rfl ?_
                            refine JL.move (.some rfl rfl rfl hc126) rfl ?_
                            refine JL.lenSL (R := RInt) ul_28 (SL.mono RInt.mono hs109 hy104b_0) (.some rfl rfl rfl hc126) rfl ?_
                            refine JL.bin rfl rfl rfl (.some rfl rfl rfl hc126) rfl ?_
                            refine JL.bin rfl rfl rfl (.some rfl rfl rfl hc126) rfl ?_
                            refine JL.pick_f (b := ((((((y97.2.2 != 0) || (y104.2.2 != 0)) || (y107.2 != 0)) || (y112.2 != 0)) || (y113.2 != 0)) || (y114.2 != 0))) rfl hc126 .none rfl ?_
                            exact hJ125 _ ⟨rfl, rfl, rfl, rfl, rfl, rfl, rfl, rfl, or_f hc126 rfl⟩
                        · rintro f ⟨hf10, hf11, hf13, hf14, hf16, hf18, hf20, hf22, hf174⟩
                          refine (JL.norm (i := 10) hf10 (JL.norm (i := 11) hf11 (JL.norm (i := 13) hf13 (JL.norm (i := 14) hf14 (JL.norm (i := 16) hf16 (JL.norm (i := 18) hf18 (JL.norm (i := 20) hf20 (JL.norm (i := 22) hf22 (JL.norm (i := 174) hf174 ?_)))))))))
                          refine JL.done hQ ?_
                          refine JQ.go ?_
                          rcases ite_some hF with ⟨hc127, hF⟩ | ⟨hc127, hF⟩
                          · refine JC.cond_t (b := (((((((y97.2.2 != 0) || (y104.2.2 != 0)) || (y107.2 != 0)) || (y112.2 != 0)) || (y113.2 != 0)) || (y114.2 != 0)) || (decide (40 < (w64 ((y104.1.length : Int) + (y104.2.1.length : Int))))))) rfl hc127 ?_
                            refine JC.seq ?_
                            refine JC.region (by rfl) ?_
                            intro hQ
                            refine JL.assign .none rfl ?_
                            refine JL.done hQ ?_
                            refine JQ.go ?_
                            refine JC.ret ?_
                            refine JQ.ret_then ?_
                            obtain rfl := Option.some.inj hF
                            exact JQ.outS rfl (.tmp .nil) rfl
                          · refine JC.cond_f (b := (((((((y97.2.2 != 0) || (y104.2.2 != 0)) || (y107.2 != 0)) || (y112.2 != 0)) || (y113.2 != 0)) || (y114.2 != 0)) || (decide (40 < (w64 ((y104.1.length : Int) + (y104.2.1.length : Int))))))) rfl hc127 ?_
                            refine JC.skip ?_
                            refine JQ.go ?_
                            refine JC.seq ?_
                            refine JC.region (by rfl) ?_
                            intro hQ
                            refine JL.move .none rfl ?_
                            refine JL.move .none rfl ?_
                            obtain ⟨y128, hy128, hF⟩ := bind_some hF
                            refine JL.callS (c_law05_subset n H109 y104.1 y104a_v0 (SL.mono RInt.mono hs109 hy104a_0) y97.1 y97a_v0 (SL.mono RInt.mono (HSub.trans hs100 (HSub.trans hs102 (HSub.trans hs105 hs109))) hy97a_0) y128 hy128) rfl en_27 .none rfl ?_
                            refine JL.move .none rfl ?_
                            obtain ⟨p130, hp130, hF⟩ := bind_some hF
                            refine JL.cut 4 (fun f => f 16 = .int .i64 y107.1 ∧ f 18 = .int .i64 y112.1 ∧ f 20 = .int .i64 y113.1 ∧ f 22 = .int .i64 y114.1 ∧ f 182 = .bool p130) ?_ ?_
                            · intro hJ131
                              rcases ite_some hp130 with ⟨hc132, hF⟩ | ⟨hc132, hF⟩
                              · skip
                                refine JL.move (.some rfl rfl rfl hc132) rfl ?_
                                refine JL.move (.some rfl rfl rfl hc132) rfl ?_
                                obtain ⟨y133, hy133, hF⟩ := bind_some hF
                                refine JL.callS (c_law05_subset n H109 y104.2.1 y104b_v0 (SL.mono RInt.mono hs109 hy104b_0) y97.2.1 y97b_v0 (SL.mono RInt.mono (HSub.trans hs100 (HSub.trans hs102 (HSub.trans hs105 hs109))) hy97b_0) y133 hy133) rfl en_27 (.some rfl rfl rfl hc132) rfl ?_
                                refine JL.pick_t (b := y128) rfl hc132 .none rfl ?_
                                obtain rfl := Option.some.inj hF
                                exact hJ131 _ ⟨rfl, rfl, rfl, rfl, rfl⟩
                              · skip
                                refine JL.skip (.bool rfl rfl rfl hc132) rfl ?_
                                refine JL.skip (.bool rfl rfl rfl hc132) rfl ?_
                                refine JL.skip (.bool rfl rfl rfl hc132) rfl ?_
                                refine JL.pick_f (b := y128) rfl hc132 .none rfl ?_
                                obtain rfl := Option.some.inj hF
                                exact hJ131 _ ⟨rfl, rfl, rfl, rfl, rfl⟩
                            · rintro f ⟨hf16, hf18, hf20, hf22, hf182⟩
                              refine (JL.norm (i := 16) hf16 (JL.norm (i := 18) hf18 (JL.norm (i := 20) hf20 (JL.norm (i := 22) hf22 (JL.norm (i := 182) hf182 ?_)))))
                              refine JL.move .none rfl ?_
                              refine JL.cut 7 (fun f => f 16 = .int .i64 y107.1 ∧ f 18 = .int .i64 y112.1 ∧ f 20 = .int .i64 y113.1 ∧ f 22 = .int .i64 y114.1 ∧ f 190 = .bool (p130 && ((y107.1 != 1) || (y112.1 == 1)))) ?_ ?_
                              · intro hJ136
                                rcases bcases p130 with hc137 | hc137
                                · skip
                                  refine JL.move (.some rfl rfl rfl hc137) rfl ?_
                                  refine JL.bin rfl rfl rfl (.some rfl rfl rfl hc137) rfl ?_
                                  refine JL.move (.some rfl rfl rfl hc137) rfl ?_
                                  refine JL.cut 3 (fun f => f 16 = .int .i64 y107.1 ∧ f 18 = .int .i64 y112.1 ∧ f 20 = .int .i64 y113.1 ∧ f 22 = .int .i64 y114.1 ∧ f 183 = .bool p130 ∧ f 189 = .bool ((y107.1 != 1) || (y112.1 == 1))) ?_ ?_
                                  · intro hJ138
                                    rcases bcases (y107.1 != 1) with hc139 | hc139
                                    · skip
                                      refine JL.skip (.bool rfl rfl rfl hc139) rfl ?_
                                      refine JL.skip (.bool rfl rfl rfl hc139) rfl ?_
                                      refine JL.pick_t (b := (y107.1 != 1)) rfl hc139 (.some rfl rfl rfl hc137) rfl ?_
                                      exact hJ138 _ ⟨rfl, rfl, rfl, rfl, rfl, or_t hc139 rfl⟩
                                    · skip
                                      refine JL.move (.some rfl rfl rfl hc139) rfl ?_
                                      refine JL.bin rfl rfl rfl (.some rfl rfl rfl hc139) rfl ?_
                                      refine JL.pick_f (b := (y107.1 != 1)) rfl hc139 (.some rfl rfl rfl hc137) rfl ?_
                                      exact hJ138 _ ⟨rfl, rfl, rfl, rfl, rfl, or_f hc139 rfl⟩
                                  · rintro f ⟨hf16, hf18, hf20, hf22, hf183, hf189⟩
                                    refine (JL.norm (i := 16) hf16 (JL.norm (i := 18) hf18 (JL.norm (i := 20) hf20 (JL.norm (i := 22) hf22 (JL.norm (i := 183) hf183 (JL.norm (i := 189) hf189 ?_))))))
                                    refine JL.pick_t (b := p130) rfl hc137 .none rfl ?_
                                    exact hJ136 _ ⟨rfl, rfl, rfl, rfl, and_t hc137 rfl⟩
                                · skip
                                  refine JL.skip (.bool rfl rfl rfl hc137) rfl ?_
                                  refine JL.skip (.bool rfl rfl rfl hc137) rfl ?_
                                  refine JL.skip (.bool rfl rfl rfl hc137) rfl ?_
                                  refine JL.skip (.no rfl rfl rfl) rfl ?_
                                  refine JL.skip (.no rfl rfl rfl) rfl ?_
                                  refine JL.skip (.bool rfl rfl rfl hc137) rfl ?_
                                  refine JL.pick_f (b := p130) rfl hc137 .none rfl ?_
                                  exact hJ136 _ ⟨rfl, rfl, rfl, rfl, and_f hc137 rfl⟩
                              · rintro f ⟨hf16, hf18, hf20, hf22, hf190⟩
                                refine (JL.norm (i := 16) hf16 (JL.norm (i := 18) hf18 (JL.norm (i := 20) hf20 (JL.norm (i := 22) hf22 (JL.norm (i := 190) hf190 ?_)))))
                                refine JL.move .none rfl ?_
                                refine JL.cut 7 (fun f => f 20 = .int .i64 y113.1 ∧ f 22 = .int .i64 y114.1 ∧ f 198 = .bool ((p130 && ((y107.1 != 1) || (y112.1 == 1))) && ((y112.1 != 2) || (y107.1 == 2)))) ?_ ?_
                                · intro hJ142
                                  rcases bcases (p130 && ((y107.1 != 1) || (y112.1 == 1))) with hc143 | hc143
                                  · skip
                                    refine JL.move (.some rfl rfl rfl hc143) rfl ?_
                                    refine JL.bin rfl rfl rfl (.some rfl rfl rfl hc143) rfl ?_
                                    refine JL.move (.some rfl rfl rfl hc143) rfl ?_
                                    refine JL.cut 3 (fun f => f 20 = .int .i64 y113.1 ∧ f 22 = .int .i64 y114.1 ∧ f 191 = .bool (p130 && ((y107.1 != 1) || (y112.1 == 1))) ∧ f 197 = .bool ((y112.1 != 2) || (y107.1 == 2))) ?_ ?_
                                    · intro hJ144
                                      rcases bcases (y112.1 != 2) with hc145 | hc145
                                      · skip
                                        refine JL.skip (.bool rfl rfl rfl hc145) rfl ?_
                                        refine JL.skip (.bool rfl rfl rfl hc145) rfl ?_
                                        refine JL.pick_t (b := (y112.1 != 2)) rfl hc145 (.some rfl rfl rfl hc143) rfl ?_
                                        exact hJ144 _ ⟨rfl, rfl, rfl, or_t hc145 rfl⟩
                                      · skip
                                        refine JL.move (.some rfl rfl rfl hc145) rfl ?_
                                        refine JL.bin rfl rfl rfl (.some rfl rfl rfl hc145) rfl ?_
                                        refine JL.pick_f (b := (y112.1 != 2)) rfl hc145 (.some rfl rfl rfl hc143) rfl ?_
                                        exact hJ144 _ ⟨rfl, rfl, rfl, or_f hc145 rfl⟩
                                    · rintro f ⟨hf20, hf22, hf191, hf197⟩
                                      refine (JL.norm (i := 20) hf20 (JL.norm (i := 22) hf22 (JL.norm (i := 191) hf191 (JL.norm (i := 197) hf197 ?_))))
                                      refine JL.pick_t (b := (p130 && ((y107.1 != 1) || (y112.1 == 1)))) rfl hc143 .none rfl ?_
                                      exact hJ142 _ ⟨rfl, rfl, and_t hc143 rfl⟩
                                  · skip
                                    refine JL.skip (.bool rfl rfl rfl hc143) rfl ?_
                                    refine JL.skip (.bool rfl rfl rfl hc143) rfl ?_
                                    refine JL.skip (.bool rfl rfl rfl hc143) rfl ?_
                                    refine JL.skip (.no rfl rfl rfl) rfl ?_
                                    refine JL.skip (.no rfl rfl rfl) rfl ?_
                                    refine JL.skip (.bool rfl rfl rfl hc143) rfl ?_
                                    refine JL.pick_f (b := (p130 && ((y107.1 != 1) || (y112.1 == 1)))) rfl hc143 .none rfl ?_
                                    exact hJ142 _ ⟨rfl, rfl, and_f hc143 rfl⟩
                                · rintro f ⟨hf20, hf22, hf198⟩
                                  refine (JL.norm (i := 20) hf20 (JL.norm (i := 22) hf22 (JL.norm (i := 198) hf198 ?_)))
                                  refine JL.move .none rfl ?_
                                  refine JL.cut 4 (fun f => f 203 = .bool (((p130 && ((y107.1 != 1) || (y112.1 == 1))) && ((y112.1 != 2) || (y107.1 == 2))) && (decide (y113.1 ≤ y114.1)))) ?_ ?_
                                  · intro hJ146
                                    rcases bcases ((p130 && ((y107.1 != 1) || (y112.1 == 1))) && ((y112.1 != 2) || (y107.1 == 2))) with hc147 | hc147
                                    · skip
                                      refine JL.move (.some rfl rfl rfl hc147) rfl ?_
                                      refine JL.move (.some rfl rfl rfl hc147) rfl ?_
                                      refine JL.bin rfl rfl rfl (.some rfl rfl rfl hc147) rfl ?_
                                      refine JL.pick_t (b := ((p130 && ((y107.1 != 1) || (y112.1 == 1))) && ((y112.1 != 2) || (y107.1 == 2)))) rfl hc147 .none rfl ?_
                                      exact hJ146 _ (and_t hc147 rfl)
                                    · skip
                                      refine JL.skip (.bool rfl rfl rfl hc147) rfl ?_
                                      refine JL.skip (.bool rfl rfl rfl hc147) rfl ?_
                                      refine JL.skip (.bool rfl rfl rfl hc147) rfl ?_
                                      refine JL.pick_f (b := ((p130 && ((y107.1 != 1) || (y112.1 == 1))) && ((y112.1 != 2) || (y107.1 == 2)))) rfl hc147 .none rfl ?_
                                      exact hJ146 _ (and_f hc147 rfl)
                                  · rintro f hf203
                                    refine (JL.norm (i := 203) hf203 ?_)
                                    refine JL.move .none rfl ?_
                                    obtain ⟨p149, hp149, hF⟩ := bind_some hF
                                    refine JL.cut 2 (fun f => f 206 = .bool p149) ?_ ?_
                                    · intro hJ150
                                      rcases ite_some hp149 with ⟨hc151, hF⟩ | ⟨hc151, hF⟩
                                      · skip
                                        obtain ⟨y152, hy152, hF⟩ := bind_some hF
                                        refine JL.callS (c_law05_works n H109 y152 hy152) rfl en_12 (.some rfl rfl rfl hc151) rfl ?_
                                        refine JL.pick_t (b := (((p130 && ((y107.1 != 1) || (y112.1 == 1))) && ((y112.1 != 2) || (y107.1 == 2))) && (decide (y113.1 ≤ y114.1)))) rfl hc151 .none rfl ?_
                                        obtain rfl := Option.some.inj hF
                                        exact hJ150 _ (rfl)
                                      · skip
                                        refine JL.skip (.bool rfl rfl rfl hc151) rfl ?_
                                        refine JL.pick_f (b := (((p130 && ((y107.1 != 1) || (y112.1 == 1))) && ((y112.1 != 2) || (y107.1 == 2))) && (decide (y113.1 ≤ y114.1)))) rfl hc151 .none rfl ?_
                                        obtain rfl := Option.some.inj hF
                                        exact hJ150 _ (rfl)
                                    · rintro f hf206
                                      refine (JL.norm (i := 206) hf206 ?_)
                                      refine JL.assign .none rfl ?_
                                      refine JL.done hQ ?_
                                      refine JQ.go ?_
                                      refine JC.ret ?_
                                      obtain rfl := Option.some.inj hF
                                      exact JQ.outS rfl (.tmp .nil) rfl

end Go.Proofs.Ytcpnnfdhafbemaa
