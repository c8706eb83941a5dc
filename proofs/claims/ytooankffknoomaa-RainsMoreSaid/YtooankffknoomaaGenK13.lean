/-
  Printed by a program: functions of the translation as plain functions, and their contracts.
-/
import Derived.Test.YtooankffknoomaaGenK12
namespace Go.Proofs.Ytooankffknoomaa
open Go Go.RowKit Go.Dec
set_option linter.unusedVariables false
-- 35 ferrule/rains.Right
def F_rains_Right_s1 (n : Nat) (t : Tour) (rain : Int) (w13 : rains_weather) : Int × Int → Option ((Int × Int) ⊕ Int)
  | (n_124, x_125) => if decide (x_125 < (w13.truths.length : Int)) = true then ((geti w13.truths x_125).bind fun y130 => (geti t.Rains rain).bind fun y135 => (F_rains_right n y135 y130).bind fun y140 => (if y140 = true then (some (w64 (n_124 + 1))) else (some n_124)).bind fun n_142 => some (Sum.inl (n_142, (w64 (x_125 + 1))))) else (some (Sum.inr n_124))
def F_rains_Right (n : Nat) (t : Tour) (rain : Int) : Option (Int × Int) :=
  (F_rains_within n rain 0 (w64 ((t.Rains.length : Int) - 1))).bind fun y4 => (F_rains_open n t y4).bind fun y5 => if (y5.2 != 0) = true then (some (0, y5.2)) else (y5.1.bind fun w13 => (loopO n (F_rains_Right_s1 n t rain w13) (0, 0)).bind fun n_81 => if (n_81 == (w13.truths.length : Int)) = true then (some (1, 0)) else (if (n_81 == 0) = true then (some (2, 0)) else (some (3, 0))))
set_option maxRecDepth 100000 in
set_option maxHeartbeats 40000000 in
theorem c_rains_Right (n : Nat) (H : Hp) (t : Tour) (t_v2 : Value) (ht_2 : SL H 3 R_Rain t_v2 t.Rains) (t_v4 : Value) (ht_4 : SL H 2 R_Fair t_v4 t.Fairs) (rain : Int) (y : Int × Int) (hF : F_rains_Right n t rain = some y) : SC Try.prog 35 [.agg [.int .i64 t.Days, .int .i64 t.Step, t_v2, .int .i64 t.Wrong, t_v4, .int .i64 t.Reach, .int .i64 t.Stock].toArray, .int .i64 rain] (.tuple [.int .i64 y.1, .int .i64 y.2].toArray) H := by
  rw [F_rains_Right] at hF
  refine SC.of (N := 54) Try.func35 rfl rfl rfl fun w => ?_
  refine JC.seq ?_
  refine JC.region (by rfl) ?_
  intro hQ
  refine JL.box (cs := [.int .i64 t.Days, .int .i64 t.Step, t_v2, .int .i64 t.Wrong, t_v4, .int .i64 t.Reach, .int .i64 t.Stock]) rfl .none rfl ?_
  intro b1
  refine JL.assign .none rfl ?_
  refine JL.assign .none rfl ?_
  refine JL.done hQ ?_
  refine JQ.go ?_
  refine JC.seq ?_
  obtain ⟨y4, hy4, hF⟩ := bind_some hF
  obtain ⟨y5, hy5, hF⟩ := bind_some hF
  refine JC.mixed 13 13 #[false, false, false, false, false, false, false, false, false, false, false, false, false] [(b1, .cells [.int .i64 t.Days, .int .i64 t.Step, t_v2, .int .i64 t.Wrong, t_v4, .int .i64 t.Reach, .int .i64 t.Stock].toArray 25)] (by rfl) mo_ (by kernel_rfl) (by kernel_rfl) ?_
  intro hQ hE
  refine JA.take 0 (listed' := #[true, false, false, false, false, false, false, false, false, false, false, false, false]) hQ rfl (by kernel_rfl) (by kernel_rfl) (by kernel_rfl) (by kernel_rfl) (by kernel_rfl) hE (HSub.refl _) (.cons_cons _ (List.nil_sublist _)) ?_
  refine JL.loadOwn 0 az_25 rfl rfl rfl .none rfl ?_
  refine JA.cont ?_
  refine JA.take 1 (listed' := #[true, true, false, false, false, false, false, false, false, false, false, false, false]) hQ rfl (by kernel_rfl) (by kernel_rfl) (by kernel_rfl) (by kernel_rfl) (by kernel_rfl) hE (HSub.refl _) (.cons_cons _ (List.nil_sublist _)) ?_
  refine JL.move .none rfl ?_
  refine JA.cont ?_
  refine JA.take 2 (listed' := #[true, true, true, false, false, false, false, false, false, false, false, false, false]) hQ rfl (by kernel_rfl) (by kernel_rfl) (by kernel_rfl) (by kernel_rfl) (by kernel_rfl) hE (HSub.refl _) (.cons_cons _ (List.nil_sublist _)) ?_
  refine JL.fieldAddr fo_25_2 rfl .none rfl ?_
  refine JA.cont ?_
  refine JA.take 3 (listed' := #[true, true, true, true, false, false, false, false, false, false, false, false, false]) hQ rfl (by kernel_rfl) (by kernel_rfl) (by kernel_rfl) (by kernel_rfl) (by kernel_rfl) hE (HSub.refl _) (.cons_cons _ (List.nil_sublist _)) ?_
  refine JL.loadOwn 0 az_22 rfl rfl rfl .none rfl ?_
  refine JA.cont ?_
  refine JA.take 4 (listed' := #[true, true, true, true, true, false, false, false, false, false, false, false, false]) hQ rfl (by kernel_rfl) (by kernel_rfl) (by kernel_rfl) (by kernel_rfl) (by kernel_rfl) hE (HSub.refl _) (.cons_cons _ (List.nil_sublist _)) ?_
  refine JL.lenSL (R := R_Rain) ul_22 ht_2 .none rfl ?_
  refine JA.cont ?_
  refine JA.take 5 (listed' := #[true, true, true, true, true, true, false, false, false, false, false, false, false]) hQ rfl (by kernel_rfl) (by kernel_rfl) (by kernel_rfl) (by kernel_rfl) (by kernel_rfl) hE (HSub.refl _) (.cons_cons _ (List.nil_sublist _)) ?_
  refine JL.bin rfl rfl rfl .none rfl ?_
  refine JA.cont ?_
  refine JA.many [6] (by kernel_rfl) (by simp) (all_one ⟨_, #[true, true, true, true, true, true, true, false, false, false, false, false, false], rfl, (by kernel_rfl), ?_⟩)
  refine JL.callS (c_rains_within n H rain 0 (w64 ((t.Rains.length : Int) - 1)) y4 hy4) rfl en_61 .none rfl ?_
  refine JA.after hE (HSub.refl _) (.cons_cons _ (List.nil_sublist _)) ?_
  refine JA.many [7] (by kernel_rfl) (by simp) (all_one ⟨_, #[true, true, true, true, true, true, true, true, false, false, false, false, false], rfl, (by kernel_rfl), ?_⟩)
  refine JL.callH (c_rains_open n H t t_v2 ht_2 t_v4 ht_4 y4 y5 hy5) rfl en_59 .none rfl ?_
  rintro H10 vv11 hs10 ⟨y5a_v0, rfl, hy5a_0⟩
  refine JA.after hE hs10 (.cons_cons _ (List.nil_sublist _)) ?_
  refine JA.take 8 (listed' := #[true, true, true, true, true, true, true, true, true, false, false, false, false]) hQ rfl (by kernel_rfl) (by kernel_rfl) (by kernel_rfl) (by kernel_rfl) (by kernel_rfl) hE hs10 (.cons_cons _ (List.nil_sublist _)) ?_
  refine JL.move .none rfl ?_
  refine JA.cont ?_
  refine JA.take 9 (listed' := #[true, true, true, true, true, true, true, true, true, true, false, false, false]) hQ rfl (by kernel_rfl) (by kernel_rfl) (by kernel_rfl) (by kernel_rfl) (by kernel_rfl) hE hs10 (.cons_cons _ (List.nil_sublist _)) ?_
  refine JL.extract rfl rfl .none rfl ?_
  refine JA.cont ?_
  refine JA.take 10 (listed' := #[true, true, true, true, true, true, true, true, true, true, true, false, false]) hQ rfl (by kernel_rfl) (by kernel_rfl) (by kernel_rfl) (by kernel_rfl) (by kernel_rfl) hE hs10 (.cons_cons _ (List.nil_sublist _)) ?_
  refine JL.extract rfl rfl .none rfl ?_
  refine JA.cont ?_
  refine JA.take 11 (listed' := #[true, true, true, true, true, true, true, true, true, true, true, true, false]) hQ rfl (by kernel_rfl) (by kernel_rfl) (by kernel_rfl) (by kernel_rfl) (by kernel_rfl) hE hs10 (.cons_cons _ (List.nil_sublist _)) ?_
  refine JL.assign .none rfl ?_
  refine JA.cont ?_
  refine JA.take 12 (listed' := #[true, true, true, true, true, true, true, true, true, true, true, true, true]) hQ rfl (by kernel_rfl) (by kernel_rfl) (by kernel_rfl) (by kernel_rfl) (by kernel_rfl) hE hs10 (.cons_cons _ (List.nil_sublist _)) ?_
  refine JL.assign .none rfl ?_
  refine JA.cont ?_
  refine JA.done hQ (by kernel_rfl) ?_
  refine JQ.go ?_
  refine JC.fresh (fun f => f 1 = .int .i64 rain ∧ f 2 = .pointer (some ⟨b1, 0, none⟩) ∧ f 4 = .int .i64 0 ∧ f 5 = .int .i64 0 ∧ f 6 = y5a_v0 ∧ f 7 = .int .i64 y5.2) ⟨rfl, rfl, rfl, rfl, rfl, rfl⟩ ?_
  rintro f ⟨hf1, hf2, hf4, hf5, hf6, hf7⟩
  refine (JC.norm (i := 1) hf1 (JC.norm (i := 2) hf2 (JC.norm (i := 4) hf4 (JC.norm (i := 5) hf5 (JC.norm (i := 6) hf6 (JC.norm (i := 7) hf7 ?_))))))
  refine JC.seq ?_
  refine JC.seq ?_
  refine JC.region (by rfl) ?_
  intro hQ
  refine JL.move .none rfl ?_
  refine JL.bin rfl rfl rfl .none rfl ?_
  refine JL.done hQ ?_
  refine JQ.go ?_
  rcases ite_some hF with ⟨hc12, hF⟩ | ⟨hc12, hF⟩
  · refine JC.cond_t (b := (y5.2 != 0)) rfl hc12 ?_
    refine JC.seq ?_
    refine JC.region (by rfl) ?_
    intro hQ
    refine JL.move .none rfl ?_
    refine JL.assign .none rfl ?_
    refine JL.assign .none rfl ?_
    refine JL.done hQ ?_
    refine JQ.go ?_
    refine JC.ret ?_
    refine JQ.ret_then ?_
    obtain rfl := Option.some.inj hF
    exact JQ.outS rfl (.tmp (.tmp .nil)) rfl
  · refine JC.cond_f (b := (y5.2 != 0)) rfl hc12 ?_
    refine JC.skip ?_
    refine JQ.go ?_
    refine JC.seq ?_
    refine JC.region (by rfl) ?_
    intro hQ
    refine JL.assign .none rfl ?_
    refine JL.done hQ ?_
    refine JQ.go ?_
    refine JC.seq ?_
    refine JC.seq ?_
    refine JC.region (by rfl) ?_
    intro hQ
    refine JL.move .none rfl ?_
    obtain ⟨w13, hw13, hF⟩ := bind_some hF
    obtain ⟨b14, o15, cs16, hv17, hc18, ⟨w13_v2, w13_v4, w13_v7, rfl, hw13_2, hw13_4, hw13_7⟩⟩ := (show PT H10 R_rains_weather y5a_v0 (some w13) by rw [← hw13]; exact hy5a_0)
    subst hv17
    refine JL.nilCheck rfl .none rfl ?_
    refine JL.fieldAddr fo_89_1 rfl .none rfl ?_
    refine JL.loadH 7 az_72 rfl hc18 rfl .none rfl ?_
    refine JL.lenSL (R := (RSl 1 RInt)) ul_72 hw13_7 .none rfl ?_
    refine JL.move .none rfl ?_
    refine JL.done hQ ?_
    refine JQ.go ?_
    obtain ⟨r83, hlr83, hKr83⟩ := bind_some hF
    refine JC.join (fun (n_81 : Int) H82 f bs gs => f 6 = .pointer (some ⟨b14, o15, none⟩) ∧ f 8 = .int .i64 n_81 ∧ bs = [] ∧ gs = [] ∧ HSub H10 H82 ∧ n_81 = r83) ?_ ?_
    · skip
      refine JC.block ?_
      refine JC.loop hlr83 (fun (x : Int × Int) H126 f bs gs => match x with | (n_124, x_125) => f 1 = .int .i64 rain ∧ f 2 = .pointer (some ⟨b1, 0, none⟩) ∧ f 6 = .pointer (some ⟨b14, o15, none⟩) ∧ f 8 = .int .i64 n_124 ∧ f 28 = w13_v7 ∧ f 29 = .int .i64 (w13.truths.length : Int) ∧ f 30 = .int .i64 x_125 ∧ bs = [(b1, .cells [.int .i64 t.Days, .int .i64 t.Step, t_v2, .int .i64 t.Wrong, t_v4, .int .i64 t.Reach, .int .i64 t.Stock].toArray 25)] ∧ gs = [] ∧ HSub H10 H126) ⟨rfl, rfl, rfl, rfl, rfl, rfl, rfl, rfl, rfl, (HSub.refl _)⟩ ?_
      rintro ⟨n_124, x_125⟩ x128 H126 f bs gs ⟨hf1, hf2, hf6, hf8, hf28, hf29, hf30, rfl, rfl, hs126⟩ hF hr127
      rw [F_rains_Right_s1] at hF
      refine (JC.norm (i := 1) hf1 (JC.norm (i := 2) hf2 (JC.norm (i := 6) hf6 (JC.norm (i := 8) hf8 (JC.norm (i := 28) hf28 (JC.norm (i := 29) hf29 (JC.norm (i := 30) hf30 ?_)))))))
      refine JC.seq ?_
      refine JC.region (by rfl) ?_
      intro hQ
      refine JL.bin rfl rfl rfl .none rfl ?_
      refine JL.done hQ ?_
      refine JQ.go ?_
      refine JC.seq ?_
      rcases ite_some hF with ⟨hc129, hF⟩ | ⟨hc129, hF⟩
      · refine JC.cond_t (b := decide (x_125 < (w13.truths.length : Int))) rfl hc129 ?_
        refine JC.skip ?_
        refine JQ.go ?_
        refine JC.seq ?_
        refine JC.block ?_
        refine JC.seq ?_
        refine JC.region (by rfl) ?_
        intro hQ
        obtain ⟨y130, hy130, hF⟩ := bind_some hF
        refine JL.indexSL (R := (RSl 1 RInt)) sl_72 (SL.mono (RSl.mono RInt.mono) hs126 hw13_7) rfl hy130 .none rfl ?_
        rintro b131 o132 cs133 hc134 - ⟨y130_v0, rfl, hy130_0⟩
        refine JL.loadH 0 az_26 rfl hc134 rfl .none rfl ?_
        refine JL.assign .none rfl ?_
        refine JL.done hQ ?_
        refine JQ.go ?_
        refine JC.seq ?_
        refine JC.region (by rfl) ?_
        intro hQ
        refine JL.fieldAddr fo_25_2 rfl .none rfl ?_
        refine JL.loadOwn 0 az_22 rfl rfl rfl .none rfl ?_
        refine JL.move .none rfl ?_
        obtain ⟨y135, hy135, hF⟩ := bind_some hF
        refine JL.indexSL (R := R_Rain) sl_22 (SL.mono R_Rain_mono (HSub.trans hs10 hs126) ht_2) rfl hy135 .none rfl ?_
        rintro b136 o137 cs138 hc139 - rfl
        refine JL.loadH 0 az_37 rfl hc139 rfl .none rfl ?_
        refine JL.move .none rfl ?_
        obtain ⟨y140, hy140, hF⟩ := bind_some hF
        refine JL.callS (c_rains_right n H126 y135 y130 y130_v0 hy130_0 y140 hy140) rfl en_64 .none rfl ?_
        refine JL.done hQ ?_
        refine JQ.go ?_
        refine JC.fresh (fun f => f 1 = .int .i64 rain ∧ f 2 = .pointer (some ⟨b1, 0, none⟩) ∧ f 6 = .pointer (some ⟨b14, o15, none⟩) ∧ f 8 = .int .i64 n_124 ∧ f 28 = w13_v7 ∧ f 29 = .int .i64 (w13.truths.length : Int) ∧ f 30 = .int .i64 x_125 ∧ f 40 = .bool y140) ⟨rfl, rfl, rfl, rfl, rfl, rfl, rfl, rfl⟩ ?_
        rintro f ⟨hf1, hf2, hf6, hf8, hf28, hf29, hf30, hf40⟩
        refine (JC.norm (i := 1) hf1 (JC.norm (i := 2) hf2 (JC.norm (i := 6) hf6 (JC.norm (i := 8) hf8 (JC.norm (i := 28) hf28 (JC.norm (i := 29) hf29 (JC.norm (i := 30) hf30 (JC.norm (i := 40) hf40 ?_))))))))
        obtain ⟨r144, hlr144, hKr144⟩ := bind_some hF
        refine JC.join (fun (n_142 : Int) H143 f bs gs => f 1 = .int .i64 rain ∧ f 2 = .pointer (some ⟨b1, 0, none⟩) ∧ f 6 = .pointer (some ⟨b14, o15, none⟩) ∧ f 8 = .int .i64 n_142 ∧ f 28 = w13_v7 ∧ f 29 = .int .i64 (w13.truths.length : Int) ∧ f 30 = .int .i64 x_125 ∧ bs = [(b1, .cells [.int .i64 t.Days, .int .i64 t.Step, t_v2, .int .i64 t.Wrong, t_v4, .int .i64 t.Reach, .int .i64 t.Stock].toArray 25)] ∧ gs = [] ∧ HSub H126 H143 ∧ n_142 = r144) ?_ ?_
        · have hF := hlr144
          rcases ite_some hF with ⟨hc145, hF⟩ | ⟨hc145, hF⟩
          · refine JC.cond_t (b := y140) rfl hc145 ?_
            refine JC.region (by rfl) ?_
            intro hQ
            refine JL.move .none rfl ?_
            refine JL.bin rfl rfl rfl .none rfl ?_
            refine JL.assign .none rfl ?_
            refine JL.done hQ ?_
            obtain rfl := Option.some.inj hF
            exact JQ.join (w64 (n_124 + 1)) ⟨rfl, rfl, rfl, rfl, rfl, rfl, rfl, rfl, rfl, (HSub.refl _), rfl⟩
          · refine JC.cond_f (b := y140) rfl hc145 ?_
            refine JC.skip ?_
            obtain rfl := Option.some.inj hF
            exact JQ.join n_124 ⟨rfl, rfl, rfl, rfl, rfl, rfl, rfl, rfl, rfl, (HSub.refl _), rfl⟩
        · rintro n_142 H143 f bs gs ⟨hf1, hf2, hf6, hf8, hf28, hf29, hf30, rfl, rfl, hs143, rfl⟩
          have hF := hKr144
          try dsimp only at hF
          refine (JQ.norm (i := 1) hf1 (JQ.norm (i := 2) hf2 (JQ.norm (i := 6) hf6 (JQ.norm (i := 8) hf8 (JQ.norm (i := 28) hf28 (JQ.norm (i := 29) hf29 (JQ.norm (i := 30) hf30 ?_)))))))
          refine JQ.normal_block ?_
          refine JQ.go ?_
          refine JC.region (by rfl) ?_
          intro hQ
          refine JL.bin rfl rfl rfl .none rfl ?_
          refine JL.move .none rfl ?_
          refine JL.done hQ ?_
          obtain rfl := Option.some.inj hF
          exact JQ.next rfl ⟨rfl, rfl, rfl, rfl, rfl, rfl, rfl, rfl, rfl, (HSub.trans hs126 hs143)⟩
      · refine JC.cond_f (b := decide (x_125 < (w13.truths.length : Int))) rfl hc129 ?_
        refine JC.exit ?_
        refine JQ.exit_then ?_
        refine JQ.exit_then ?_
        refine JQ.exit_block ?_
        obtain rfl := Option.some.inj hF
        have ehr127 := hr127 _ rfl
        subst ehr127
        refine JQ.mask [false] [] ?_
        exact JQ.join n_124 ⟨rfl, rfl, rfl, rfl, hs126, rfl⟩
    · rintro n_81 H82 f bs gs ⟨hf6, hf8, rfl, rfl, hs82, rfl⟩
      have hF := hKr83
      try dsimp only at hF
      refine (JQ.norm (i := 6) hf6 (JQ.norm (i := 8) hf8 ?_))
      refine JQ.go ?_
      refine JC.seq ?_
      refine JC.seq ?_
      refine JC.region (by rfl) ?_
      intro hQ
      refine JL.move .none rfl ?_
      refine JL.done hQ ?_
      refine JQ.go ?_
      refine JC.block ?_
      refine JC.seq ?_
      refine JC.region (by rfl) ?_
      intro hQ
      refine JL.move .none rfl ?_
      refine JL.nilCheck rfl .none rfl ?_
      refine JL.fieldAddr fo_89_1 rfl .none rfl ?_
      refine JL.loadH 7 az_72 rfl (Cells.mono hs82 hc18) rfl .none rfl ?_
      refine JL.lenSL (R := (RSl 1 RInt)) ul_72 (SL.mono (RSl.mono RInt.mono) hs82 hw13_7) .none rfl ?_
      refine JL.bin rfl rfl rfl .none rfl ?_
      refine JL.assign .none rfl ?_
      refine JL.done hQ ?_
      refine JQ.go ?_
      rcases ite_some hF with ⟨hc146, hF⟩ | ⟨hc146, hF⟩
      · refine JC.cond_t (b := (n_81 == (w13.truths.length : Int))) rfl hc146 ?_
        refine JC.seq ?_
        refine JC.region (by rfl) ?_
        intro hQ
        refine JL.assign .none rfl ?_
        refine JL.assign .none rfl ?_
        refine JL.done hQ ?_
        refine JQ.go ?_
        refine JC.ret ?_
        refine JQ.ret_block ?_
        refine JQ.ret_then ?_
        obtain rfl := Option.some.inj hF
        exact JQ.outS rfl (.tmp (.tmp .nil)) rfl
      · refine JC.cond_f (b := (n_81 == (w13.truths.length : Int))) rfl hc146 ?_
        refine JC.seq ?_
        refine JC.region (by rfl) ?_
        intro hQ
        refine JL.bin rfl rfl rfl .none rfl ?_
        refine JL.assign .none rfl ?_
        refine JL.done hQ ?_
        refine JQ.go ?_
        rcases ite_some hF with ⟨hc147, hF⟩ | ⟨hc147, hF⟩
        · refine JC.cond_t (b := (n_81 == 0)) rfl hc147 ?_
          refine JC.seq ?_
          refine JC.region (by rfl) ?_
          intro hQ
          refine JL.assign .none rfl ?_
          refine JL.assign .none rfl ?_
          refine JL.done hQ ?_
          refine JQ.go ?_
          refine JC.fresh (fun f => f 4 = .int .i64 2 ∧ f 5 = .int .i64 0) ⟨rfl, rfl⟩ ?_
          rintro f ⟨hf4, hf5⟩
          refine (JC.norm (i := 4) hf4 (JC.norm (i := 5) hf5 ?_))
          refine JC.ret ?_
          refine JQ.ret_block ?_
          refine JQ.ret_then ?_
          obtain rfl := Option.some.inj hF
          exact JQ.outS rfl (.tmp (.tmp .nil)) rfl
        · refine JC.cond_f (b := (n_81 == 0)) rfl hc147 ?_
          refine JC.skip ?_
          refine JQ.normal_block ?_
          refine JQ.go ?_
          refine JC.seq ?_
          refine JC.region (by rfl) ?_
          intro hQ
          refine JL.assign .none rfl ?_
          refine JL.assign .none rfl ?_
          refine JL.done hQ ?_
          refine JQ.go ?_
          refine JC.fresh (fun f => f 4 = .int .i64 3 ∧ f 5 = .int .i64 0) ⟨rfl, rfl⟩ ?_
          rintro f ⟨hf4, hf5⟩
          refine (JC.norm (i := 4) hf4 (JC.norm (i := 5) hf5 ?_))
          refine JC.ret ?_
          obtain rfl := Option.some.inj hF
          exact JQ.outS rfl (.tmp (.tmp .nil)) rfl

-- 10 ferrule/ferrulelaw11.RainsTrue
def F_law11_RainsTrue (n : Nat) (t : Tour) (x_ : law11_Trip) (y_ : law11_Ask) : Option Bool :=
  (F_law11_ready n t).bind fun y4 => (if (!y4) = true then (some true) else ((F_law11_isTrip n t x_).bind fun y9 => some (!y9)) : Option Bool).bind fun p6 => if ((p6 || (decide (y_.Day < 0))) || (decide (t.Days ≤ y_.Day))) = true then ((F_law11_works n).bind fun y15 => some y15) else ((F_rains_Levels n t y_.Day).bind fun y16 => (F_rains_Takes n t x_.Route).bind fun y19 => (F_rains_Left n t x_.Route).bind fun y21 => (F_ref11_Trade n t x_.Route x_.Levels).bind fun y23 => (if ((((y16.2 != 0) || (y19.2 != 0)) || (y21.2 != 0)) || (decide (20 < (y16.1.length : Int)))) = true then (some true) else ((geti x_.Levels y_.Day).bind fun y39 => (F_law11_has n y16.1 y39).bind fun y44 => some (!y44)) : Option Bool).bind fun p36 => (if p36 = true then (some true) else ((F_law11_in n y23.1 y19.1).bind fun y49 => some (!y49)) : Option Bool).bind fun p46 => (if p46 = true then (some true) else ((F_law11_in n y23.2 y21.1).bind fun y54 => some (!y54)) : Option Bool).bind fun p51 => if p51 = true then (some false) else (if ((decide (y_.Rain < 0)) || (decide ((t.Rains.length : Int) ≤ y_.Rain))) = true then ((F_law11_works n).bind fun y59 => some y59) else ((F_rains_Right n t y_.Rain).bind fun y60 => (geti t.Rains y_.Rain).bind fun y67 => (F_ref11_IsRight n y67 x_.Levels).bind fun y72 => (if ((y60.2 == 0) && (((y60.1 == 3) || ((y60.1 == 1) && y72)) || ((y60.1 == 2) && (!y72)))) = true then ((F_law11_works n).bind fun y103 => some y103) else (some false) : Option Bool).bind fun p100 => some p100)))
set_option maxRecDepth 100000 in
set_option maxHeartbeats 40000000 in
theorem c_law11_RainsTrue (n : Nat) (H : Hp) (t : Tour) (t_v2 : Value) (ht_2 : SL H 3 R_Rain t_v2 t.Rains) (t_v4 : Value) (ht_4 : SL H 2 R_Fair t_v4 t.Fairs) (x_ : law11_Trip) (x__v0 : Value) (hx__0 : SL H 1 RInt x__v0 x_.Route) (x__v1 : Value) (hx__1 : SL H 1 RInt x__v1 x_.Levels) (y_ : law11_Ask) (y : Bool) (hF : F_law11_RainsTrue n t x_ y_ = some y) : SC Try.prog 10 [.agg [.int .i64 t.Days, .int .i64 t.Step, t_v2, .int .i64 t.Wrong, t_v4, .int .i64 t.Reach, .int .i64 t.Stock].toArray, .agg [x__v0, x__v1].toArray, .agg [.int .i64 y_.Day, .int .i64 y_.Rain].toArray] (.bool y) H := by
  rw [F_law11_RainsTrue] at hF
  refine SC.of (N := 160) Try.func10 rfl rfl rfl fun w => ?_
  refine JC.seq ?_
  refine JC.region (by rfl) ?_
  intro hQ
  refine JL.box (cs := [.int .i64 t.Days, .int .i64 t.Step, t_v2, .int .i64 t.Wrong, t_v4, .int .i64 t.Reach, .int .i64 t.Stock]) rfl .none rfl ?_
  intro b1
  refine JL.box (cs := [x__v0, x__v1]) rfl .none rfl ?_
  intro b2
  refine JL.box (cs := [.int .i64 y_.Day, .int .i64 y_.Rain]) rfl .none rfl ?_
  intro b3
  refine JL.assign .none rfl ?_
  refine JL.done hQ ?_
  refine JQ.go ?_
  refine JC.seq ?_
  refine JC.seq ?_
  refine JC.region (by rfl) ?_
  intro hQ
  refine JL.loadOwn 2 az_25 rfl rfl rfl .none rfl ?_
  obtain ⟨y4, hy4, hF⟩ := bind_some hF
  refine JL.callS (c_law11_ready n H t t_v2 ht_2 t_v4 ht_4 y4 hy4) rfl en_19 .none rfl ?_
  refine JL.not rfl .none rfl ?_
  refine JL.move .none rfl ?_
  obtain ⟨p6, hp6, hF⟩ := bind_some hF
  refine JL.cut 5 (fun f => f 3 = .pointer (some ⟨b1, 0, none⟩) ∧ f 4 = .pointer (some ⟨b2, 0, none⟩) ∧ f 5 = .pointer (some ⟨b3, 0, none⟩) ∧ f 26 = .bool p6) ?_ ?_
  · intro hJ7
    rcases ite_some hp6 with ⟨hc8, hF⟩ | ⟨hc8, hF⟩
    · skip
      refine JL.skip (.bool rfl rfl rfl hc8) rfl ?_
      refine JL.skip (.bool rfl rfl rfl hc8) rfl ?_
      refine JL.skip (.bool rfl rfl rfl hc8) rfl ?_
      refine JL.skip (.bool rfl rfl rfl hc8) rfl ?_
      refine JL.pick_t (b := (!y4)) rfl hc8 .none rfl ?_
      obtain rfl := Option.some.inj hF
      exact hJ7 _ ⟨rfl, rfl, rfl, rfl⟩
    · skip
      refine JL.loadOwn 2 az_25 rfl rfl rfl (.some rfl rfl rfl hc8) rfl ?_
      refine JL.loadOwn 1 az_50 rfl rfl rfl (.some rfl rfl rfl hc8) rfl ?_
      obtain ⟨y9, hy9, hF⟩ := bind_some hF
      refine JL.callS (c_law11_isTrip n H t t_v2 ht_2 t_v4 ht_4 x_ x__v0 hx__0 x__v1 hx__1 y9 hy9) rfl en_30 (.some rfl rfl rfl hc8) rfl ?_
      refine JL.not rfl (.some rfl rfl rfl hc8) rfl ?_
      refine JL.pick_f (b := (!y4)) rfl hc8 .none rfl ?_
      obtain rfl := Option.some.inj hF
      exact hJ7 _ ⟨rfl, rfl, rfl, rfl⟩
  · rintro f ⟨hf3, hf4, hf5, hf26⟩
    refine (JL.norm (i := 3) hf3 (JL.norm (i := 4) hf4 (JL.norm (i := 5) hf5 (JL.norm (i := 26) hf26 ?_))))
    refine JL.move .none rfl ?_
    refine JL.cut 4 (fun f => f 3 = .pointer (some ⟨b1, 0, none⟩) ∧ f 4 = .pointer (some ⟨b2, 0, none⟩) ∧ f 5 = .pointer (some ⟨b3, 0, none⟩) ∧ f 31 = .bool (p6 || (decide (y_.Day < 0)))) ?_ ?_
    · intro hJ10
      rcases bcases p6 with hc11 | hc11
      · skip
        refine JL.skip (.bool rfl rfl rfl hc11) rfl ?_
        refine JL.skip (.bool rfl rfl rfl hc11) rfl ?_
        refine JL.skip (.bool rfl rfl rfl hc11) rfl ?_
        refine JL.pick_t (b := p6) rfl hc11 .none rfl ?_
        exact hJ10 _ ⟨rfl, rfl, rfl, or_t hc11 rfl⟩
      · skip
        refine JL.fieldAddr fo_52_0 rfl (.some rfl rfl rfl hc11) rfl ?_
        refine JL.loadOwn 0 az_3 rfl rfl rfl (.some rfl rfl rfl hc11) rfl ?_
        refine JL.bin rfl rfl rfl (.some rfl rfl rfl hc11) rfl ?_
        refine JL.pick_f (b := p6) rfl hc11 .none rfl ?_
        exact hJ10 _ ⟨rfl, rfl, rfl, or_f hc11 rfl⟩
    · rintro f ⟨hf3, hf4, hf5, hf31⟩
      refine (JL.norm (i := 3) hf3 (JL.norm (i := 4) hf4 (JL.norm (i := 5) hf5 (JL.norm (i := 31) hf31 ?_))))
      refine JL.move .none rfl ?_
      refine JL.cut 6 (fun f => f 3 = .pointer (some ⟨b1, 0, none⟩) ∧ f 4 = .pointer (some ⟨b2, 0, none⟩) ∧ f 5 = .pointer (some ⟨b3, 0, none⟩) ∧ f 38 = .bool ((p6 || (decide (y_.Day < 0))) || (decide (t.Days ≤ y_.Day)))) ?_ ?_
      · intro hJ12
        rcases bcases (p6 || (decide (y_.Day < 0))) with hc13 | hc13
        · skip
          refine JL.skip (.bool rfl rfl rfl hc13) rfl ?_
          refine JL.skip (.bool rfl rfl rfl hc13) rfl ?_
          refine JL.skip (.bool rfl rfl rfl hc13) rfl ?_
          refine JL.skip (.bool rfl rfl rfl hc13) rfl ?_
          refine JL.skip (.bool rfl rfl rfl hc13) rfl ?_
          refine JL.pick_t (b := (p6 || (decide (y_.Day < 0)))) rfl hc13 .none rfl ?_
          exact hJ12 _ ⟨rfl, rfl, rfl, or_t hc13 rfl⟩
        · skip
          refine JL.fieldAddr fo_52_0 rfl (.some rfl rfl rfl hc13) rfl ?_
          refine JL.loadOwn 0 az_3 rfl rfl rfl (.some rfl rfl rfl hc13) rfl ?_
          refine JL.fieldAddr fo_25_0 rfl (.some rfl rfl rfl hc13) rfl ?_
          refine JL.loadOwn 2 az_3 rfl rfl rfl (.some rfl rfl rfl hc13) rfl ?_
          refine JL.bin rfl rfl rfl (.some rfl rfl rfl hc13) rfl ?_
          refine JL.pick_f (b := (p6 || (decide (y_.Day < 0)))) rfl hc13 .none rfl ?_
          exact hJ12 _ ⟨rfl, rfl, rfl, or_f hc13 rfl⟩
      · rintro f ⟨hf3, hf4, hf5, hf38⟩
        refine (JL.norm (i := 3) hf3 (JL.norm (i := 4) hf4 (JL.norm (i := 5) hf5 (JL.norm (i := 38) hf38 ?_))))
        refine JL.done hQ ?_
        refine JQ.go ?_
        rcases ite_some hF with ⟨hc14, hF⟩ | ⟨hc14, hF⟩
        · refine JC.cond_t (b := ((p6 || (decide (y_.Day < 0))) || (decide (t.Days ≤ y_.Day)))) rfl hc14 ?_
          refine JC.seq ?_
          refine JC.region (by rfl) ?_
          intro hQ
          obtain ⟨y15, hy15, hF⟩ := bind_some hF
          refine JL.callS (c_law11_works n H y15 hy15) rfl en_13 .none rfl ?_
          refine JL.assign .none rfl ?_
          refine JL.done hQ ?_
          refine JQ.go ?_
          refine JC.ret ?_
          refine JQ.ret_then ?_
          obtain rfl := Option.some.inj hF
          exact JQ.outS rfl (.tmp .nil) rfl
        · refine JC.cond_f (b := ((p6 || (decide (y_.Day < 0))) || (decide (t.Days ≤ y_.Day)))) rfl hc14 ?_
          refine JC.skip ?_
          refine JQ.go ?_
          refine JC.seq ?_
          refine JC.region (by rfl) ?_
          intro hQ
          refine JL.loadOwn 2 az_25 rfl rfl rfl .none rfl ?_
          refine JL.fieldAddr fo_52_0 rfl .none rfl ?_
          refine JL.loadOwn 0 az_3 rfl rfl rfl .none rfl ?_
          obtain ⟨y16, hy16, hF⟩ := bind_some hF
          refine JL.callH (c_rains_Levels n H t t_v2 ht_2 t_v4 ht_4 y_.Day y16 hy16) rfl en_31 .none rfl ?_
          rintro H17 vv18 hs17 ⟨y16a_v0, rfl, hy16a_0⟩
          refine JL.move .none rfl ?_
          refine JL.extract rfl rfl .none rfl ?_
          refine JL.extract rfl rfl .none rfl ?_
          refine JL.assign .none rfl ?_
          refine JL.assign .none rfl ?_
          refine JL.done hQ ?_
          refine JQ.go ?_
          refine JC.seq ?_
          refine JC.region (by rfl) ?_
          intro hQ
          refine JL.loadOwn 2 az_25 rfl rfl rfl .none rfl ?_
          refine JL.fieldAddr fo_50_0 rfl .none rfl ?_
          refine JL.loadOwn 1 az_26 rfl rfl rfl .none rfl ?_
          obtain ⟨y19, hy19, hF⟩ := bind_some hF
          refine JL.callS (c_rains_Takes n H17 t t_v2 (SL.mono R_Rain_mono hs17 ht_2) t_v4 (SL.mono R_Fair_mono hs17 ht_4) x_.Route x__v0 (SL.mono RInt.mono hs17 hx__0) y19 hy19) rfl en_15 .none rfl ?_
          refine JL.move .none rfl ?_
          refine JL.extract rfl rfl .none rfl ?_
          refine JL.extract rfl rfl .none rfl ?_
          refine JL.alloc ze_31 .none rfl ?_
          intro b20
          refine JL.storeOwn 0 (cs := [.int .i64 y19.1.Low, .int .i64 y19.1.High]) az_31 rfl rfl rfl (one_cons rfl (one_cons rfl one_nil)) rfl rfl .none ?_
          refine JL.assign .none rfl ?_
          refine JL.done hQ ?_
          refine JQ.go ?_
          refine JC.fresh (fun f => f 3 = .pointer (some ⟨b1, 0, none⟩) ∧ f 4 = .pointer (some ⟨b2, 0, none⟩) ∧ f 5 = .pointer (some ⟨b3, 0, none⟩) ∧ f 7 = y16a_v0 ∧ f 8 = .int .i64 y16.2 ∧ f 9 = .pointer (some ⟨b20, 0, none⟩) ∧ f 10 = .int .i64 y19.2) ⟨rfl, rfl, rfl, rfl, rfl, rfl, rfl⟩ ?_
          rintro f ⟨hf3, hf4, hf5, hf7, hf8, hf9, hf10⟩
          refine (JC.norm (i := 3) hf3 (JC.norm (i := 4) hf4 (JC.norm (i := 5) hf5 (JC.norm (i := 7) hf7 (JC.norm (i := 8) hf8 (JC.norm (i := 9) hf9 (JC.norm (i := 10) hf10 ?_)))))))
          refine JC.seq ?_
          refine JC.region (by rfl) ?_
          intro hQ
          refine JL.loadOwn 3 az_25 rfl rfl rfl .none rfl ?_
          refine JL.fieldAddr fo_50_0 rfl .none rfl ?_
          refine JL.loadOwn 2 az_26 rfl rfl rfl .none rfl ?_
          obtain ⟨y21, hy21, hF⟩ := bind_some hF
          refine JL.callS (c_rains_Left n H17 t t_v2 (SL.mono R_Rain_mono hs17 ht_2) t_v4 (SL.mono R_Fair_mono hs17 ht_4) x_.Route x__v0 (SL.mono RInt.mono hs17 hx__0) y21 hy21) rfl en_17 .none rfl ?_
          refine JL.move .none rfl ?_
          refine JL.extract rfl rfl .none rfl ?_
          refine JL.extract rfl rfl .none rfl ?_
          refine JL.alloc ze_31 .none rfl ?_
          intro b22
          refine JL.storeOwn 0 (cs := [.int .i64 y21.1.Low, .int .i64 y21.1.High]) az_31 rfl rfl rfl (one_cons rfl (one_cons rfl one_nil)) rfl rfl .none ?_
          refine JL.assign .none rfl ?_
          refine JL.done hQ ?_
          refine JQ.go ?_
          refine JC.seq ?_
          refine JC.region (by rfl) ?_
          intro hQ
          refine JL.loadOwn 4 az_25 rfl rfl rfl .none rfl ?_
          refine JL.fieldAddr fo_50_0 rfl .none rfl ?_
          refine JL.loadOwn 3 az_26 rfl rfl rfl .none rfl ?_
          refine JL.fieldAddr fo_50_1 rfl .none rfl ?_
          refine JL.loadOwn 3 az_26 rfl rfl rfl .none rfl ?_
          obtain ⟨y23, hy23, hF⟩ := bind_some hF
          refine JL.callS (c_ref11_Trade n H17 t t_v2 (SL.mono R_Rain_mono hs17 ht_2) t_v4 (SL.mono R_Fair_mono hs17 ht_4) x_.Route x__v0 (SL.mono RInt.mono hs17 hx__0) x_.Levels x__v1 (SL.mono RInt.mono hs17 hx__1) y23 hy23) rfl en_32 .none rfl ?_
          refine JL.move .none rfl ?_
          refine JL.extract rfl rfl .none rfl ?_
          refine JL.extract rfl rfl .none rfl ?_
          refine JL.assign .none rfl ?_
          refine JL.assign .none rfl ?_
          refine JL.done hQ ?_
          refine JQ.go ?_
          refine JC.fresh (fun f => f 3 = .pointer (some ⟨b1, 0, none⟩) ∧ f 4 = .pointer (some ⟨b2, 0, none⟩) ∧ f 5 = .pointer (some ⟨b3, 0, none⟩) ∧ f 7 = y16a_v0 ∧ f 8 = .int .i64 y16.2 ∧ f 9 = .pointer (some ⟨b20, 0, none⟩) ∧ f 10 = .int .i64 y19.2 ∧ f 11 = .pointer (some ⟨b22, 0, none⟩) ∧ f 12 = .int .i64 y21.2 ∧ f 13 = .int .i64 y23.1 ∧ f 14 = .int .i64 y23.2) ⟨rfl, rfl, rfl, rfl, rfl, rfl, rfl, rfl, rfl, rfl, rfl⟩ ?_
          rintro f ⟨hf3, hf4, hf5, hf7, hf8, hf9, hf10, hf11, hf12, hf13, hf14⟩
          refine (JC.norm (i := 3) hf3 (JC.norm (i := 4) hf4 (JC.norm (i := 5) hf5 (JC.norm (i := 7) hf7 (JC.norm (i := 8) hf8 (JC.norm (i := 9) hf9 (JC.norm (i := 10) hf10 (JC.norm (i := 11) hf11 (JC.norm (i := 12) hf12 (JC.norm (i := 13) hf13 (JC.norm (i := 14) hf14 ?_)))))))))))
          refine JC.seq ?_
          refine JC.seq ?_
          refine JC.region (by rfl) ?_
          intro hQ
          refine JL.move .none rfl ?_
          refine JL.bin rfl rfl rfl .none rfl ?_
          refine JL.move .none rfl ?_
          refine JL.cut 3 (fun f => f 3 = .pointer (some ⟨b1, 0, none⟩) ∧ f 4 = .pointer (some ⟨b2, 0, none⟩) ∧ f 5 = .pointer (some ⟨b3, 0, none⟩) ∧ f 7 = y16a_v0 ∧ f 9 = .pointer (some ⟨b20, 0, none⟩) ∧ f 11 = .pointer (some ⟨b22, 0, none⟩) ∧ f 12 = .int .i64 y21.2 ∧ f 13 = .int .i64 y23.1 ∧ f 14 = .int .i64 y23.2 ∧ f 75 = .bool ((y16.2 != 0) || (y19.2 != 0))) ?_ ?_
          · intro hJ24
            rcases bcases (y16.2 != 0) with hc25 | hc25
            · skip
              refine JL.skip (.bool rfl rfl rfl hc25) rfl ?_
              refine JL.skip (.bool rfl rfl rfl hc25) rfl ?_
              refine JL.pick_t (b := (y16.2 != 0)) rfl hc25 .none rfl ?_
              exact hJ24 _ ⟨rfl, rfl, rfl, rfl, rfl, rfl, rfl, rfl, rfl, or_t hc25 rfl⟩
            · skip
              refine JL.move (.some rfl rfl rfl hc25) rfl ?_
              refine JL.bin rfl rfl rfl (.some rfl rfl rfl hc25) rfl ?_
              refine JL.pick_f (b := (y16.2 != 0)) rfl hc25 .none rfl ?_
              exact hJ24 _ ⟨rfl, rfl, rfl, rfl, rfl, rfl, rfl, rfl, rfl, or_f hc25 rfl⟩
          · rintro f ⟨hf3, hf4, hf5, hf7, hf9, hf11, hf12, hf13, hf14, hf75⟩
            refine (JL.norm (i := 3) hf3 (JL.norm (i := 4) hf4 (JL.norm (i := 5) hf5 (JL.norm (i := 7) hf7 (JL.norm (i := 9) hf9 (JL.norm (i := 11) hf11 (JL.norm (i := 12) hf12 (JL.norm (i := 13) hf13 (JL.norm (i := 14) hf14 (JL.norm (i := 75) hf75 ?_))))))))))
            refine JL.move .none rfl ?_
            refine JL.cut 3 (fun f => f 3 = .pointer (some ⟨b1, 0, none⟩) ∧ f 4 = .pointer (some ⟨b2, 0, none⟩) ∧ f 5 = .pointer (some ⟨b3, 0, none⟩) ∧ f 7 = y16a_v0 ∧ f 9 = .pointer (some ⟨b20, 0, none⟩) ∧ f 11 = .pointer (some ⟨b22, 0, none⟩) ∧ f 13 = .int .i64 y23.1 ∧ f 14 = .int .i64 y23.2 ∧ f 79 = .bool (((y16.2 != 0) || (y19.2 != 0)) || (y21.2 != 0))) ?_ ?_
            · intro hJ26
              rcases bcases ((y16.2 != 0) || (y19.2 != 0)) with hc27 | hc27
              · skip
                refine JL.skip (.bool rfl rfl rfl hc27) rfl ?_
                refine JL.skip (.bool rfl rfl rfl hc27) rfl ?_
                refine JL.pick_t (b := ((y16.2 != 0) || (y19.2 != 0))) rfl hc27 .none rfl ?_
                exact hJ26 _ ⟨rfl, rfl, rfl, rfl, rfl, rfl, rfl, rfl, or_t hc27 rfl⟩
              · skip
                refine JL.move (.some rfl rfl rfl hc27) rfl ?_
                refine JL.bin rfl rfl rfl (.some rfl rfl rfl hc27) rfl ?_
                refine JL.pick_f (b := ((y16.2 != 0) || (y19.2 != 0))) rfl hc27 .none rfl ?_
                exact hJ26 _ ⟨rfl, rfl, rfl, rfl, rfl, rfl, rfl, rfl, or_f hc27 rfl⟩
            · rintro f ⟨hf3, hf4, hf5, hf7, hf9, hf11, hf13, hf14, hf79⟩
              refine (JL.norm (i := 3) hf3 (JL.norm (i := 4) hf4 (JL.norm (i := 5) hf5 (JL.norm (i := 7) hf7 (JL.norm (i := 9) hf9 (JL.norm (i := 11) hf11 (JL.norm (i := 13) hf13 (JL.norm (i := 14) hf14 (JL.norm (i := 79) hf79 ?_)))))))))
              refine JL.move .none rfl ?_
              refine JL.cut 4 (fun f => f 3 = .pointer (some ⟨b1, 0, none⟩) ∧ f 4 = .pointer (some ⟨b2, 0, none⟩) ∧ f 5 = .pointer (some ⟨b3, 0, none⟩) ∧ f 7 = y16a_v0 ∧ f 9 = .pointer (some ⟨b20, 0, none⟩) ∧ f 11 = .pointer (some ⟨b22, 0, none⟩) ∧ f 13 = .int .i64 y23.1 ∧ f 14 = .int .i64 y23.2 ∧ f 84 = .bool ((((y16.2 != 0) || (y19.2 != 0)) || (y21.2 != 0)) || (decide (20 < (y16.1.length : Int))))) ?_ ?_
              · intro hJ28
                rcases bcases (((y16.2 != 0) || (y19.2 != 0)) || (y21.2 != 0)) with hc29 | hc29
                · skip
                  refine JL.skip (.bool rfl rfl rfl hc29) rfl ?_
                  refine JL.skip (.bool rfl rfl rfl hc29) rfl ?_
                  refine JL.skip (.bool rfl rfl rfl hc29) rfl ?_
                  refine JL.pick_t (b := (((y16.2 != 0) || (y19.2 != 0)) || (y21.2 != 0))) rfl hc29 .none rfl ?_
                  exact hJ28 _ ⟨rfl, rfl, rfl, rfl, rfl, rfl, rfl, rfl, or_t hc29 rfl⟩
                · skip
                  refine JL.move (.some rfl rfl rfl hc29) rfl ?_
                  refine JL.lenSL (R := RInt) ul_26 hy16a_0 (.some rfl rfl rfl hc29) rfl ?_
                  refine JL.bin rfl rfl rfl (.some rfl rfl rfl hc29) rfl ?_
                  refine JL.pick_f (b := (((y16.2 != 0) || (y19.2 != 0)) || (y21.2 != 0))) rfl hc29 .none rfl ?_
                  exact hJ28 _ ⟨rfl, rfl, rfl, rfl, rfl, rfl, rfl, rfl, or_f hc29 rfl⟩
              · rintro f ⟨hf3, hf4, hf5, hf7, hf9, hf11, hf13, hf14, hf84⟩
                refine (JL.norm (i := 3) hf3 (JL.norm (i := 4) hf4 (JL.norm (i := 5) hf5 (JL.norm (i := 7) hf7 (JL.norm (i := 9) hf9 (JL.norm (i := 11) hf11 (JL.norm (i := 13) hf13 (JL.norm (i := 14) hf14 (JL.norm (i := 84) hf84 ?_)))))))))
                refine JL.move .none rfl ?_
                obtain ⟨p36, hp36, hF⟩ := bind_some hF
                refine JL.cut 10 (fun f => f 3 = .pointer (some ⟨b1, 0, none⟩) ∧ f 4 = .pointer (some ⟨b2, 0, none⟩) ∧ f 5 = .pointer (some ⟨b3, 0, none⟩) ∧ f 9 = .pointer (some ⟨b20, 0, none⟩) ∧ f 11 = .pointer (some ⟨b22, 0, none⟩) ∧ f 13 = .int .i64 y23.1 ∧ f 14 = .int .i64 y23.2 ∧ f 95 = .bool p36) ?_ ?_
                · intro hJ37
                  rcases ite_some hp36 with ⟨hc38, hF⟩ | ⟨hc38, hF⟩
                  · skip
                    refine JL.skip (.bool rfl rfl rfl hc38) rfl ?_
                    refine JL.skip (.bool rfl rfl rfl hc38) rfl ?_
                    refine JL.skip (.bool rfl rfl rfl hc38) rfl ?_
                    refine JL.skip (.bool rfl rfl rfl hc38) rfl ?_
                    refine JL.skip (.bool rfl rfl rfl hc38) rfl ?_
                    refine JL.skip (.bool rfl rfl rfl hc38) rfl ?_
                    refine JL.skip (.bool rfl rfl rfl hc38) rfl ?_
                    refine JL.skip (.bool rfl rfl rfl hc38) rfl ?_
                    refine JL.skip (.bool rfl rfl rfl hc38) rfl ?_
                    refine JL.pick_t (b := ((((y16.2 != 0) || (y19.2 != 0)) || (y21.2 != 0)) || (decide (20 < (y16.1.length : Int))))) rfl hc38 .none rfl ?_
                    obtain rfl := Option.some.inj hF
                    exact hJ37 _ ⟨rfl, rfl, rfl, rfl, rfl, rfl, rfl, rfl⟩
                  · skip
                    refine JL.move (.some rfl rfl rfl hc38) rfl ?_
                    refine JL.fieldAddr fo_50_1 rfl (.some rfl rfl rfl hc38) rfl ?_
                    refine JL.loadOwn 3 az_26 rfl rfl rfl (.some rfl rfl rfl hc38) rfl ?_
                    refine JL.fieldAddr fo_52_0 rfl (.some rfl rfl rfl hc38) rfl ?_
                    refine JL.loadOwn 2 az_3 rfl rfl rfl (.some rfl rfl rfl hc38) rfl ?_
                    obtain ⟨y39, hy39, hF⟩ := bind_some hF
                    refine JL.indexSL (R := RInt) sl_26 (SL.mono RInt.mono hs17 hx__1) rfl hy39 (.some rfl rfl rfl hc38) rfl ?_
                    rintro b40 o41 cs42 hc43 - rfl
                    refine JL.loadH 0 az_3 rfl hc43 rfl (.some rfl rfl rfl hc38) rfl ?_
                    obtain ⟨y44, hy44, hF⟩ := bind_some hF
                    refine JL.callS (c_law11_has n H17 y16.1 y16a_v0 hy16a_0 y39 y44 hy44) rfl en_33 (.some rfl rfl rfl hc38) rfl ?_
                    refine JL.not rfl (.some rfl rfl rfl hc38) rfl ?_
                    refine JL.pick_f (b := ((((y16.2 != 0) || (y19.2 != 0)) || (y21.2 != 0)) || (decide (20 < (y16.1.length : Int))))) rfl hc38 .none rfl ?_
                    obtain rfl := Option.some.inj hF
                    exact hJ37 _ ⟨rfl, rfl, rfl, rfl, rfl, rfl, rfl, rfl⟩
                · rintro f ⟨hf3, hf4, hf5, hf9, hf11, hf13, hf14, hf95⟩
                  refine (JL.norm (i := 3) hf3 (JL.norm (i := 4) hf4 (JL.norm (i := 5) hf5 (JL.norm (i := 9) hf9 (JL.norm (i := 11) hf11 (JL.norm (i := 13) hf13 (JL.norm (i := 14) hf14 (JL.norm (i := 95) hf95 ?_))))))))
                  refine JL.move .none rfl ?_
                  obtain ⟨p46, hp46, hF⟩ := bind_some hF
                  refine JL.cut 5 (fun f => f 3 = .pointer (some ⟨b1, 0, none⟩) ∧ f 4 = .pointer (some ⟨b2, 0, none⟩) ∧ f 5 = .pointer (some ⟨b3, 0, none⟩) ∧ f 11 = .pointer (some ⟨b22, 0, none⟩) ∧ f 14 = .int .i64 y23.2 ∧ f 101 = .bool p46) ?_ ?_
                  · intro hJ47
                    rcases ite_some hp46 with ⟨hc48, hF⟩ | ⟨hc48, hF⟩
                    · skip
                      refine JL.skip (.bool rfl rfl rfl hc48) rfl ?_
                      refine JL.skip (.bool rfl rfl rfl hc48) rfl ?_
                      refine JL.skip (.bool rfl rfl rfl hc48) rfl ?_
                      refine JL.skip (.bool rfl rfl rfl hc48) rfl ?_
                      refine JL.pick_t (b := p36) rfl hc48 .none rfl ?_
                      obtain rfl := Option.some.inj hF
                      exact hJ47 _ ⟨rfl, rfl, rfl, rfl, rfl, rfl⟩
                    · skip
                      refine JL.move (.some rfl rfl rfl hc48) rfl ?_
                      refine JL.loadOwn 1 az_31 rfl rfl rfl (.some rfl rfl rfl hc48) rfl ?_
                      obtain ⟨y49, hy49, hF⟩ := bind_some hF
                      refine JL.callS (c_law11_in n H17 y23.1 y19.1 y49 hy49) rfl en_34 (.some rfl rfl rfl hc48) rfl ?_
                      refine JL.not rfl (.some rfl rfl rfl hc48) rfl ?_
                      refine JL.pick_f (b := p36) rfl hc48 .none rfl ?_
                      obtain rfl := Option.some.inj hF
                      exact hJ47 _ ⟨rfl, rfl, rfl, rfl, rfl, rfl⟩
                  · rintro f ⟨hf3, hf4, hf5, hf11, hf14, hf101⟩
                    refine (JL.norm (i := 3) hf3 (JL.norm (i := 4) hf4 (JL.norm (i := 5) hf5 (JL.norm (i := 11) hf11 (JL.norm (i := 14) hf14 (JL.norm (i := 101) hf101 ?_))))))
                    refine JL.move .none rfl ?_
                    obtain ⟨p51, hp51, hF⟩ := bind_some hF
                    refine JL.cut 5 (fun f => f 3 = .pointer (some ⟨b1, 0, none⟩) ∧ f 4 = .pointer (some ⟨b2, 0, none⟩) ∧ f 5 = .pointer (some ⟨b3, 0, none⟩) ∧ f 107 = .bool p51) ?_ ?_
                    · intro hJ52
                      rcases ite_some hp51 with ⟨hc53, hF⟩ | ⟨hc53, hF⟩
                      · skip
                        refine JL.skip (.bool rfl rfl rfl hc53) rfl ?_
                        refine JL.skip (.bool rfl rfl rfl hc53) rfl ?_
                        refine JL.skip (.bool rfl rfl rfl hc53) rfl ?_
                        refine JL.skip (.bool rfl rfl rfl hc53) rfl ?_
                        refine JL.pick_t (b := p46) rfl hc53 .none rfl ?_
                        obtain rfl := Option.some.inj hF
                        exact hJ52 _ ⟨rfl, rfl, rfl, rfl⟩
                      · skip
                        refine JL.move (.some rfl rfl rfl hc53) rfl ?_
                        refine JL.loadOwn 0 az_31 rfl rfl rfl (.some rfl rfl rfl hc53) rfl ?_
                        obtain ⟨y54, hy54, hF⟩ := bind_some hF
                        refine JL.callS (c_law11_in n H17 y23.2 y21.1 y54 hy54) rfl en_34 (.some rfl rfl rfl hc53) rfl ?_
                        refine JL.not rfl (.some rfl rfl rfl hc53) rfl ?_
                        refine JL.pick_f (b := p46) rfl hc53 .none rfl ?_
                        obtain rfl := Option.some.inj hF
                        exact hJ52 _ ⟨rfl, rfl, rfl, rfl⟩
                    · rintro f ⟨hf3, hf4, hf5, hf107⟩
                      refine (JL.norm (i := 3) hf3 (JL.norm (i := 4) hf4 (JL.norm (i := 5) hf5 (JL.norm (i := 107) hf107 ?_))))
                      refine JL.done hQ ?_
                      refine JQ.go ?_
                      rcases ite_some hF with ⟨hc55, hF⟩ | ⟨hc55, hF⟩
                      · refine JC.cond_t (b := p51) rfl hc55 ?_
                        refine JC.seq ?_
                        refine JC.region (by rfl) ?_
                        intro hQ
                        refine JL.assign .none rfl ?_
                        refine JL.done hQ ?_
                        refine JQ.go ?_
                        refine JC.ret ?_
                        refine JQ.ret_then ?_
                        obtain rfl := Option.some.inj hF
                        exact JQ.outS rfl (.tmp .nil) rfl
                      · refine JC.cond_f (b := p51) rfl hc55 ?_
                        refine JC.skip ?_
                        refine JQ.go ?_
                        refine JC.seq ?_
                        refine JC.seq ?_
                        refine JC.region (by rfl) ?_
                        intro hQ
                        refine JL.fieldAddr fo_52_1 rfl .none rfl ?_
                        refine JL.loadOwn 2 az_3 rfl rfl rfl .none rfl ?_
                        refine JL.bin rfl rfl rfl .none rfl ?_
                        refine JL.move .none rfl ?_
                        refine JL.cut 7 (fun f => f 3 = .pointer (some ⟨b1, 0, none⟩) ∧ f 4 = .pointer (some ⟨b2, 0, none⟩) ∧ f 5 = .pointer (some ⟨b3, 0, none⟩) ∧ f 118 = .bool ((decide (y_.Rain < 0)) || (decide ((t.Rains.length : Int) ≤ y_.Rain)))) ?_ ?_
                        · intro hJ56
                          rcases bcases (decide (y_.Rain < 0)) with hc57 | hc57
                          · skip
                            refine JL.skip (.bool rfl rfl rfl hc57) rfl ?_
                            refine JL.skip (.bool rfl rfl rfl hc57) rfl ?_
                            refine JL.skip (.bool rfl rfl rfl hc57) rfl ?_
                            refine JL.skip (.bool rfl rfl rfl hc57) rfl ?_
                            refine JL.skip (.bool rfl rfl rfl hc57) rfl ?_
                            refine JL.skip (.bool rfl rfl rfl hc57) rfl ?_
                            refine JL.pick_t (b := decide (y_.Rain < 0)) rfl hc57 .none rfl ?_
                            exact hJ56 _ ⟨rfl, rfl, rfl, or_t hc57 rfl⟩
                          · skip
                            refine JL.fieldAddr fo_52_1 rfl (.some rfl rfl rfl hc57) rfl ?_
                            refine JL.loadOwn 2 az_3 rfl rfl rfl (.some rfl rfl rfl hc57) rfl ?_
                            refine JL.fieldAddr fo_25_2 rfl (.some rfl rfl rfl hc57) rfl ?_
                            refine JL.loadOwn 4 az_22 rfl rfl rfl (.some rfl rfl rfl hc57) rfl ?_
                            refine JL.lenSL (R := R_Rain) ul_22 (SL.mono R_Rain_mono hs17 ht_2) (.some rfl rfl rfl hc57) rfl ?_
                            refine JL.bin rfl rfl rfl (.some rfl rfl rfl hc57) rfl ?_
                            refine JL.pick_f (b := decide (y_.Rain < 0)) rfl hc57 .none rfl ?_
                            exact hJ56 _ ⟨rfl, rfl, rfl, or_f hc57 rfl⟩
                        · rintro f ⟨hf3, hf4, hf5, hf118⟩
                          refine (JL.norm (i := 3) hf3 (JL.norm (i := 4) hf4 (JL.norm (i := 5) hf5 (JL.norm (i := 118) hf118 ?_))))
                          refine JL.done hQ ?_
                          refine JQ.go ?_
                          rcases ite_some hF with ⟨hc58, hF⟩ | ⟨hc58, hF⟩
                          · refine JC.cond_t (b := ((decide (y_.Rain < 0)) || (decide ((t.Rains.length : Int) ≤ y_.Rain)))) rfl hc58 ?_
                            refine JC.seq ?_
                            refine JC.region (by rfl) ?_
                            intro hQ
                            obtain ⟨y59, hy59, hF⟩ := bind_some hF
                            refine JL.callS (c_law11_works n H17 y59 hy59) rfl en_13 .none rfl ?_
                            refine JL.assign .none rfl ?_
                            refine JL.done hQ ?_
                            refine JQ.go ?_
                            refine JC.ret ?_
                            refine JQ.ret_then ?_
                            obtain rfl := Option.some.inj hF
                            exact JQ.outS rfl (.tmp .nil) rfl
                          · refine JC.cond_f (b := ((decide (y_.Rain < 0)) || (decide ((t.Rains.length : Int) ≤ y_.Rain)))) rfl hc58 ?_
                            refine JC.skip ?_
                            refine JQ.go ?_
                            refine JC.seq ?_
                            refine JC.region (by rfl) ?_
                            intro hQ
                            refine JL.loadOwn 4 az_25 rfl rfl rfl .none rfl ?_
                            refine JL.fieldAddr fo_52_1 rfl .none rfl ?_
                            refine JL.loadOwn 2 az_3 rfl rfl rfl .none rfl ?_
                            obtain ⟨y60, hy60, hF⟩ := bind_some hF
                            refine JL.callS (c_rains_Right n H17 t t_v2 (SL.mono R_Rain_mono hs17 ht_2) t_v4 (SL.mono R_Fair_mono hs17 ht_4) y_.Rain y60 hy60) rfl en_35 .none rfl ?_
                            refine JL.move .none rfl ?_
                            refine JL.extract rfl rfl .none rfl ?_
                            refine JL.extract rfl rfl .none rfl ?_
                            refine JL.assign .none rfl ?_
                            refine JL.assign .none rfl ?_
                            refine JL.done hQ ?_
                            refine JQ.go ?_
                            refine JC.seq ?_
                            refine JC.draw (by rfl) mo_ (by kernel_rfl) ?_
                            intro hQ
                            refine JL.fieldAddr fo_25_2 rfl .none rfl ?_
                            refine JL.loadOwn 4 az_22 rfl rfl rfl .none rfl ?_
                            refine JL.fieldAddr fo_52_1 rfl .none rfl ?_
                            refine JL.loadOwn 2 az_3 rfl rfl rfl .none rfl ?_
                            obtain ⟨y67, hy67, hF⟩ := bind_some hF
                            refine JL.indexSL (R := R_Rain) sl_22 (SL.mono R_Rain_mono hs17 ht_2) rfl hy67 .none rfl ?_
                            rintro b68 o69 cs70 hc71 - rfl
                            refine JL.loadH 0 az_37 rfl hc71 rfl .none rfl ?_
                            refine JL.fieldAddr fo_50_1 rfl .none rfl ?_
                            refine JL.loadOwn 3 az_26 rfl rfl rfl .none rfl ?_
                            obtain ⟨y72, hy72, hF⟩ := bind_some hF
                            refine JL.callS (c_ref11_IsRight n H17 y67 x_.Levels x__v1 (SL.mono RInt.mono hs17 hx__1) y72 hy72) rfl en_36 .none rfl ?_
                            refine JL.assign .none rfl ?_
                            refine JL.doneQ hQ ?_
                            refine JQ.go ?_
                            refine JC.fresh (fun f => f 15 = .int .i64 y60.1 ∧ f 16 = .int .i64 y60.2 ∧ f 17 = .bool y72) ⟨rfl, rfl, rfl⟩ ?_
                            rintro f ⟨hf15, hf16, hf17⟩
                            refine (JC.norm (i := 15) hf15 (JC.norm (i := 16) hf16 (JC.norm (i := 17) hf17 ?_)))
                            refine JC.seq ?_
                            refine JC.region (by rfl) ?_
                            intro hQ
                            refine JL.move .none rfl ?_
                            refine JL.bin rfl rfl rfl .none rfl ?_
                            refine JL.move .none rfl ?_
                            refine JL.cut 18 (fun f => f 156 = .bool ((y60.2 == 0) && (((y60.1 == 3) || ((y60.1 == 1) && y72)) || ((y60.1 == 2) && (!y72))))) ?_ ?_
                            · intro hJ85
                              rcases bcases (y60.2 == 0) with hc86 | hc86
                              · skip
                                refine JL.move (.some rfl rfl rfl hc86) rfl ?_
                                refine JL.bin rfl rfl rfl (.some rfl rfl rfl hc86) rfl ?_
                                refine JL.move (.some rfl rfl rfl hc86) rfl ?_
                                refine JL.cut 6 (fun f => f 15 = .int .i64 y60.1 ∧ f 17 = .bool y72 ∧ f 138 = .bool (y60.2 == 0) ∧ f 147 = .bool ((y60.1 == 3) || ((y60.1 == 1) && y72))) ?_ ?_
                                · intro hJ89
                                  rcases bcases (y60.1 == 3) with hc90 | hc90
                                  · skip
                                    refine JL.skip (.bool rfl rfl rfl hc90) rfl ?_
                                    refine JL.skip (.bool rfl rfl rfl hc90) rfl ?_
                                    refine JL.skip (.bool rfl rfl rfl hc90) rfl ?_
                                    refine JL.skip (.no rfl rfl rfl) rfl ?_
                                    refine JL.skip (.bool rfl rfl rfl hc90) rfl ?_
                                    refine JL.pick_t (b := (y60.1 == 3)) rfl hc90 (.some rfl rfl rfl hc86) rfl ?_
                                    exact hJ89 _ ⟨rfl, rfl, rfl, or_t hc90 rfl⟩
                                  · skip
                                    refine JL.move (.some rfl rfl rfl hc90) rfl ?_
                                    refine JL.bin rfl rfl rfl (.some rfl rfl rfl hc90) rfl ?_
                                    refine JL.move (.some rfl rfl rfl hc90) rfl ?_
                                    refine JL.cut 2 (fun f => f 15 = .int .i64 y60.1 ∧ f 17 = .bool y72 ∧ f 138 = .bool (y60.2 == 0) ∧ f 141 = .bool (y60.1 == 3) ∧ f 146 = .bool ((y60.1 == 1) && y72)) ?_ ?_
                                    · intro hJ91
                                      rcases bcases (y60.1 == 1) with hc92 | hc92
                                      · skip
                                        refine JL.move (.some rfl rfl rfl hc92) rfl ?_
                                        refine JL.pick_t (b := (y60.1 == 1)) rfl hc92 (.some rfl rfl rfl hc90) rfl ?_
                                        exact hJ91 _ ⟨rfl, rfl, rfl, rfl, and_t hc92 rfl⟩
                                      · skip
                                        refine JL.skip (.bool rfl rfl rfl hc92) rfl ?_
                                        refine JL.pick_f (b := (y60.1 == 1)) rfl hc92 (.some rfl rfl rfl hc90) rfl ?_
                                        exact hJ91 _ ⟨rfl, rfl, rfl, rfl, and_f hc92 rfl⟩
                                    · rintro f ⟨hf15, hf17, hf138, hf141, hf146⟩
                                      refine (JL.norm (i := 15) hf15 (JL.norm (i := 17) hf17 (JL.norm (i := 138) hf138 (JL.norm (i := 141) hf141 (JL.norm (i := 146) hf146 ?_)))))
                                      refine JL.pick_f (b := (y60.1 == 3)) rfl hc90 (.some rfl rfl rfl hc86) rfl ?_
                                      exact hJ89 _ ⟨rfl, rfl, rfl, or_f hc90 rfl⟩
                                · rintro f ⟨hf15, hf17, hf138, hf147⟩
                                  refine (JL.norm (i := 15) hf15 (JL.norm (i := 17) hf17 (JL.norm (i := 138) hf138 (JL.norm (i := 147) hf147 ?_))))
                                  refine JL.move (.some rfl rfl rfl hc86) rfl ?_
                                  refine JL.cut 7 (fun f => f 138 = .bool (y60.2 == 0) ∧ f 155 = .bool (((y60.1 == 3) || ((y60.1 == 1) && y72)) || ((y60.1 == 2) && (!y72)))) ?_ ?_
                                  · intro hJ95
                                    rcases bcases ((y60.1 == 3) || ((y60.1 == 1) && y72)) with hc96 | hc96
                                    · skip
                                      refine JL.skip (.bool rfl rfl rfl hc96) rfl ?_
                                      refine JL.skip (.bool rfl rfl rfl hc96) rfl ?_
                                      refine JL.skip (.bool rfl rfl rfl hc96) rfl ?_
                                      refine JL.skip (.no rfl rfl rfl) rfl ?_
                                      refine JL.skip (.no rfl rfl rfl) rfl ?_
                                      refine JL.skip (.bool rfl rfl rfl hc96) rfl ?_
                                      refine JL.pick_t (b := ((y60.1 == 3) || ((y60.1 == 1) && y72))) rfl hc96 (.some rfl rfl rfl hc86) rfl ?_
                                      exact hJ95 _ ⟨rfl, or_t hc96 rfl⟩
                                    · skip
                                      refine JL.move (.some rfl rfl rfl hc96) rfl ?_
                                      refine JL.bin rfl rfl rfl (.some rfl rfl rfl hc96) rfl ?_
                                      refine JL.move (.some rfl rfl rfl hc96) rfl ?_
                                      refine JL.cut 3 (fun f => f 138 = .bool (y60.2 == 0) ∧ f 148 = .bool ((y60.1 == 3) || ((y60.1 == 1) && y72)) ∧ f 154 = .bool ((y60.1 == 2) && (!y72))) ?_ ?_
                                      · intro hJ97
                                        rcases bcases (y60.1 == 2) with hc98 | hc98
                                        · skip
                                          refine JL.move (.some rfl rfl rfl hc98) rfl ?_
                                          refine JL.not rfl (.some rfl rfl rfl hc98) rfl ?_
                                          refine JL.pick_t (b := (y60.1 == 2)) rfl hc98 (.some rfl rfl rfl hc96) rfl ?_
                                          exact hJ97 _ ⟨rfl, rfl, and_t hc98 rfl⟩
                                        · skip
                                          refine JL.skip (.bool rfl rfl rfl hc98) rfl ?_
                                          refine JL.skip (.bool rfl rfl rfl hc98) rfl ?_
                                          refine JL.pick_f (b := (y60.1 == 2)) rfl hc98 (.some rfl rfl rfl hc96) rfl ?_
                                          exact hJ97 _ ⟨rfl, rfl, and_f hc98 rfl⟩
                                      · rintro f ⟨hf138, hf148, hf154⟩
                                        refine (JL.norm (i := 138) hf138 (JL.norm (i := 148) hf148 (JL.norm (i := 154) hf154 ?_)))
                                        refine JL.pick_f (b := ((y60.1 == 3) || ((y60.1 == 1) && y72))) rfl hc96 (.some rfl rfl rfl hc86) rfl ?_
                                        exact hJ95 _ ⟨rfl, or_f hc96 rfl⟩
                                  · rintro f ⟨hf138, hf155⟩
                                    refine (JL.norm (i := 138) hf138 (JL.norm (i := 155) hf155 ?_))
                                    refine JL.pick_t (b := (y60.2 == 0)) rfl hc86 .none rfl ?_
                                    exact hJ85 _ (and_t hc86 rfl)
                              · skip
                                refine JL.skip (.bool rfl rfl rfl hc86) rfl ?_
                                refine JL.skip (.bool rfl rfl rfl hc86) rfl ?_
                                refine JL.skip (.bool rfl rfl rfl hc86) rfl ?_
                                refine JL.skip (.no rfl rfl rfl) rfl ?_
                                refine JL.skip (.no rfl rfl rfl) rfl ?_
                                refine JL.skip (.no rfl rfl rfl) rfl ?_
                                refine JL.skip (.no rfl rfl rfl) rfl ?_
                                refine JL.skip (.no rfl rfl rfl) rfl ?_
                                refine JL.skip (.bool rfl rfl rfl hc86) rfl ?_
                                refine JL.skip (.bool rfl rfl rfl hc86) rfl ?_
                                refine JL.skip (.no rfl rfl rfl) rfl ?_
                                refine JL.skip (.no rfl rfl rfl) rfl ?_
                                refine JL.skip (.no rfl rfl rfl) rfl ?_
                                refine JL.skip (.no rfl rfl rfl) rfl ?_
                                refine JL.skip (.no rfl rfl rfl) rfl ?_
                                refine JL.skip (.no rfl rfl rfl) rfl ?_
                                refine JL.skip (.bool rfl rfl rfl hc86) rfl ?_
                                refine JL.pick_f (b := (y60.2 == 0)) rfl hc86 .none rfl ?_
                                exact hJ85 _ (and_f hc86 rfl)
                            · rintro f hf156
                              refine (JL.norm (i := 156) hf156 ?_)
                              refine JL.move .none rfl ?_
                              obtain ⟨p100, hp100, hF⟩ := bind_some hF
                              refine JL.cut 2 (fun f => f 159 = .bool p100) ?_ ?_
                              · intro hJ101
                                rcases ite_some hp100 with ⟨hc102, hF⟩ | ⟨hc102, hF⟩
                                · skip
                                  obtain ⟨y103, hy103, hF⟩ := bind_some hF
                                  refine JL.callS (c_law11_works n H17 y103 hy103) rfl en_13 (.some rfl rfl rfl hc102) rfl ?_
                                  refine JL.pick_t (b := ((y60.2 == 0) && (((y60.1 == 3) || ((y60.1 == 1) && y72)) || ((y60.1 == 2) && (!y72))))) rfl hc102 .none rfl ?_
                                  obtain rfl := Option.some.inj hF
                                  exact hJ101 _ (rfl)
                                · skip
                                  refine JL.skip (.bool rfl rfl rfl hc102) rfl ?_
                                  refine JL.pick_f (b := ((y60.2 == 0) && (((y60.1 == 3) || ((y60.1 == 1) && y72)) || ((y60.1 == 2) && (!y72))))) rfl hc102 .none rfl ?_
                                  obtain rfl := Option.some.inj hF
                                  exact hJ101 _ (rfl)
                              · rintro f hf159
                                refine (JL.norm (i := 159) hf159 ?_)
                                refine JL.assign .none rfl ?_
                                refine JL.done hQ ?_
                                refine JQ.go ?_
                                refine JC.ret ?_
                                obtain rfl := Option.some.inj hF
                                exact JQ.outS rfl (.tmp .nil) rfl

end Go.Proofs.Ytooankffknoomaa
