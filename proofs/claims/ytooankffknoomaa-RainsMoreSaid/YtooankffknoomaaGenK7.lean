/-
  Printed by a program: functions of the translation as plain functions, and their contracts.
-/
import Derived.Test.YtooankffknoomaaGenK6
namespace Go.Proofs.Ytooankffknoomaa
open Go Go.RowKit Go.Dec
set_option linter.unusedVariables false
-- 3 ferrule/ferrulelaw11.RainsTakes
def F_law11_RainsTakes (n : Nat) (t : Tour) (route : List Int) : Option Bool :=
  (F_law11_Far n t).bind fun y2 => if (y2 || (decide (20 < (route.length : Int)))) = true then ((F_law11_works n).bind fun y6 => some y6) else ((F_ref11_Copy n t).bind fun y7 => (lim (([] : List Int) ++ route)).bind fun l13 => (F_rains_Takes n y7 l13).bind fun y19 => (F_ref11_Takes n t route).bind fun y40 => (lim (([] : List Int) ++ route)).bind fun l44 => (F_rains_Left n y7 l44).bind fun y50 => (F_ref11_Left n t route).bind fun y71 => (if (((((y19.1.Low == y40.1.Low) && (y19.1.High == y40.1.High)) && (y19.2 == y40.2)) && ((y50.1.Low == y71.1.Low) && (y50.1.High == y71.1.High))) && (y50.2 == y71.2)) = true then ((F_law11_works n).bind fun y83 => some y83) else (some false) : Option Bool).bind fun p80 => some p80)
set_option maxRecDepth 100000 in
set_option maxHeartbeats 40000000 in
theorem c_law11_RainsTakes (n : Nat) (H : Hp) (t : Tour) (t_v2 : Value) (ht_2 : SL H 3 R_Rain t_v2 t.Rains) (t_v4 : Value) (ht_4 : SL H 2 R_Fair t_v4 t.Fairs) (route : List Int) (route_v0 : Value) (hroute_0 : SL H 1 RInt route_v0 route) (y : Bool) (hF : F_law11_RainsTakes n t route = some y) : SC Try.prog 3 [.agg [.int .i64 t.Days, .int .i64 t.Step, t_v2, .int .i64 t.Wrong, t_v4, .int .i64 t.Reach, .int .i64 t.Stock].toArray, route_v0] (.bool y) H := by
  rw [F_law11_RainsTakes] at hF
  refine SC.of (N := 73) Try.func3 rfl rfl rfl fun w => ?_
  refine JC.seq ?_
  refine JC.region (by rfl) ?_
  intro hQ
  refine JL.box (cs := [.int .i64 t.Days, .int .i64 t.Step, t_v2, .int .i64 t.Wrong, t_v4, .int .i64 t.Reach, .int .i64 t.Stock]) rfl .none rfl ?_
  intro b1
  refine JL.assign .none rfl ?_
  refine JL.done hQ ?_
  refine JQ.go ?_
  refine JC.seq ?_
  refine JC.seq ?_
  refine JC.region (by rfl) ?_
  intro hQ
  refine JL.loadOwn 0 az_25 rfl rfl rfl .none rfl ?_
  obtain ⟨y2, hy2, hF⟩ := bind_some hF
  refine JL.callS (c_law11_Far n H t t_v2 ht_2 t_v4 ht_4 y2 hy2) rfl en_12 .none rfl ?_
  refine JL.move .none rfl ?_
  refine JL.cut 4 (fun f => f 1 = route_v0 ∧ f 2 = .pointer (some ⟨b1, 0, none⟩) ∧ f 20 = .bool (y2 || (decide (20 < (route.length : Int))))) ?_ ?_
  · intro hJ3
    rcases bcases y2 with hc4 | hc4
    · skip
      refine JL.skip (.bool rfl rfl rfl hc4) rfl ?_
      refine JL.skip (.bool rfl rfl rfl hc4) rfl ?_
      refine JL.skip (.bool rfl rfl rfl hc4) rfl ?_
      refine JL.pick_t (b := y2) rfl hc4 .none rfl ?_
      exact hJ3 _ ⟨rfl, rfl, or_t hc4 rfl⟩
    · skip
      refine JL.move (.some rfl rfl rfl hc4) rfl ?_
      refine JL.lenSL (R := RInt) ul_26 hroute_0 (.some rfl rfl rfl hc4) rfl ?_
      refine JL.bin rfl rfl rfl (.some rfl rfl rfl hc4) rfl ?_
      refine JL.pick_f (b := y2) rfl hc4 .none rfl ?_
      exact hJ3 _ ⟨rfl, rfl, or_f hc4 rfl⟩
  · rintro f ⟨hf1, hf2, hf20⟩
    refine (JL.norm (i := 1) hf1 (JL.norm (i := 2) hf2 (JL.norm (i := 20) hf20 ?_)))
    refine JL.done hQ ?_
    refine JQ.go ?_
    rcases ite_some hF with ⟨hc5, hF⟩ | ⟨hc5, hF⟩
    · refine JC.cond_t (b := (y2 || (decide (20 < (route.length : Int))))) rfl hc5 ?_
      refine JC.seq ?_
      refine JC.region (by rfl) ?_
      intro hQ
      obtain ⟨y6, hy6, hF⟩ := bind_some hF
      refine JL.callS (c_law11_works n H y6 hy6) rfl en_13 .none rfl ?_
      refine JL.assign .none rfl ?_
      refine JL.done hQ ?_
      refine JQ.go ?_
      refine JC.ret ?_
      refine JQ.ret_then ?_
      obtain rfl := Option.some.inj hF
      exact JQ.outS rfl (.tmp .nil) rfl
    · refine JC.cond_f (b := (y2 || (decide (20 < (route.length : Int))))) rfl hc5 ?_
      refine JC.skip ?_
      refine JQ.go ?_
      refine JC.seq ?_
      refine JC.region (by rfl) ?_
      intro hQ
      refine JL.loadOwn 0 az_25 rfl rfl rfl .none rfl ?_
      obtain ⟨y7, hy7, hF⟩ := bind_some hF
      refine JL.callH (c_ref11_Copy n H t t_v2 ht_2 t_v4 ht_4 y7 hy7) rfl en_14 .none rfl ?_
      rintro H8 vv9 hs8 ⟨y7a_v2, y7a_v4, rfl, hy7a_2, hy7a_4⟩
      refine JL.alloc ze_25 .none rfl ?_
      intro b10
      refine JL.storeOwn 0 (cs := [.int .i64 y7.Days, .int .i64 y7.Step, y7a_v2, .int .i64 y7.Wrong, y7a_v4, .int .i64 y7.Reach, .int .i64 y7.Stock]) az_25 rfl rfl rfl (one_cons rfl (one_cons rfl (one_cons (SL.one hy7a_2) (one_cons rfl (one_cons (SL.one hy7a_4) (one_cons rfl (one_cons rfl one_nil))))))) rfl rfl .none ?_
      refine JL.done hQ ?_
      refine JQ.go ?_
      refine JC.seq ?_
      obtain ⟨l13, hl13, hF⟩ := bind_some hF
      obtain ⟨y19, hy19, hF⟩ := bind_some hF
      refine JC.mixed 11 11 #[false, false, false, false, false, false, false, false, false, false, false] [(b10, .cells [.int .i64 y7.Days, .int .i64 y7.Step, y7a_v2, .int .i64 y7.Wrong, y7a_v4, .int .i64 y7.Reach, .int .i64 y7.Stock].toArray 25), (b1, .cells [.int .i64 t.Days, .int .i64 t.Step, t_v2, .int .i64 t.Wrong, t_v4, .int .i64 t.Reach, .int .i64 t.Stock].toArray 25)] (by rfl) mo_ (by kernel_rfl) (by kernel_rfl) ?_
      intro hQ hE
      refine JA.cut 2 #[true, true, true, true, true, true, true, true, true, false, false] (fun H39 f bs gs => ∃ (b36 : Nat), f 1 = route_v0 ∧ f 2 = .pointer (some ⟨b1, 0, none⟩) ∧ f 5 = .pointer (some ⟨b10, 0, none⟩) ∧ f 6 = .pointer (some ⟨b36, 0, none⟩) ∧ f 30 = .agg [.int .i64 y19.1.Low, .int .i64 y19.1.High].toArray ∧ f 31 = .int .i64 y19.2 ∧ bs = [(b36, .cells [.int .i64 0, .int .i64 0].toArray 31), (b10, .cells [.int .i64 y7.Days, .int .i64 y7.Step, y7a_v2, .int .i64 y7.Wrong, y7a_v4, .int .i64 y7.Reach, .int .i64 y7.Stock].toArray 25), (b1, .cells [.int .i64 t.Days, .int .i64 t.Step, t_v2, .int .i64 t.Wrong, t_v4, .int .i64 t.Reach, .int .i64 t.Stock].toArray 25)] ∧ gs = [] ∧ HSub H8 H39) ?_ ?_
      · rintro H39 f bs gs ⟨b36, hf1, hf2, hf5, hf6, hf30, hf31, rfl, rfl, hs39⟩
        refine (JA.norm (i := 1) hf1 (JA.norm (i := 2) hf2 (JA.norm (i := 5) hf5 (JA.norm (i := 6) hf6 (JA.norm (i := 30) hf30 (JA.norm (i := 31) hf31 ?_))))))
        refine JA.many [9] (by kernel_rfl) (by simp) (all_one ⟨_, #[true, true, true, true, true, true, true, true, true, true, false], rfl, (by kernel_rfl), ?_⟩)
        refine JL.storeOwn 0 (cs := [.int .i64 y19.1.Low, .int .i64 y19.1.High]) az_31 rfl rfl rfl (one_cons rfl (one_cons rfl one_nil)) rfl rfl .none ?_
        refine JA.after hE hs39 (.cons _ (.cons_cons _ (.cons_cons _ (List.nil_sublist _)))) ?_
        refine JA.take 10 (listed' := #[true, true, true, true, true, true, true, true, true, true, true]) hQ rfl (by kernel_rfl) (by kernel_rfl) (by kernel_rfl) (by kernel_rfl) (by kernel_rfl) hE hs39 (.cons _ (.cons_cons _ (.cons_cons _ (List.nil_sublist _)))) ?_
        refine JL.assign .none rfl ?_
        refine JA.cont ?_
        refine JA.done hQ (by kernel_rfl) ?_
        refine JQ.go ?_
        refine JC.seq ?_
        refine JC.region (by rfl) ?_
        intro hQ
        refine JL.loadOwn 2 az_25 rfl rfl rfl .none rfl ?_
        refine JL.move .none rfl ?_
        obtain ⟨y40, hy40, hF⟩ := bind_some hF
        refine JL.callS (c_ref11_Takes n H39 t t_v2 (SL.mono R_Rain_mono (HSub.trans hs8 hs39) ht_2) t_v4 (SL.mono R_Fair_mono (HSub.trans hs8 hs39) ht_4) route route_v0 (SL.mono RInt.mono (HSub.trans hs8 hs39) hroute_0) y40 hy40) rfl en_16 .none rfl ?_
        refine JL.move .none rfl ?_
        refine JL.extract rfl rfl .none rfl ?_
        refine JL.extract rfl rfl .none rfl ?_
        refine JL.alloc ze_31 .none rfl ?_
        intro b41
        refine JL.storeOwn 0 (cs := [.int .i64 y40.1.Low, .int .i64 y40.1.High]) az_31 rfl rfl rfl (one_cons rfl (one_cons rfl one_nil)) rfl rfl .none ?_
        refine JL.assign .none rfl ?_
        refine JL.done hQ ?_
        refine JQ.go ?_
        refine JC.fresh (fun f => f 1 = route_v0 ∧ f 2 = .pointer (some ⟨b1, 0, none⟩) ∧ f 5 = .pointer (some ⟨b10, 0, none⟩) ∧ f 6 = .pointer (some ⟨b36, 0, none⟩) ∧ f 7 = .int .i64 y19.2 ∧ f 8 = .pointer (some ⟨b41, 0, none⟩) ∧ f 9 = .int .i64 y40.2) ⟨rfl, rfl, rfl, rfl, rfl, rfl, rfl⟩ ?_
        rintro f ⟨hf1, hf2, hf5, hf6, hf7, hf8, hf9⟩
        refine (JC.norm (i := 1) hf1 (JC.norm (i := 2) hf2 (JC.norm (i := 5) hf5 (JC.norm (i := 6) hf6 (JC.norm (i := 7) hf7 (JC.norm (i := 8) hf8 (JC.norm (i := 9) hf9 ?_)))))))
        refine JC.seq ?_
        obtain ⟨l44, hl44, hF⟩ := bind_some hF
        obtain ⟨y50, hy50, hF⟩ := bind_some hF
        refine JC.mixed 11 11 #[false, false, false, false, false, false, false, false, false, false, false] [(b41, .cells [.int .i64 y40.1.Low, .int .i64 y40.1.High].toArray 31), (b36, .cells [.int .i64 y19.1.Low, .int .i64 y19.1.High].toArray 31), (b10, .cells [.int .i64 y7.Days, .int .i64 y7.Step, y7a_v2, .int .i64 y7.Wrong, y7a_v4, .int .i64 y7.Reach, .int .i64 y7.Stock].toArray 25), (b1, .cells [.int .i64 t.Days, .int .i64 t.Step, t_v2, .int .i64 t.Wrong, t_v4, .int .i64 t.Reach, .int .i64 t.Stock].toArray 25)] (by rfl) mo_ (by kernel_rfl) (by kernel_rfl) ?_
        intro hQ hE
        refine JA.cut 2 #[true, true, true, true, true, true, true, true, true, false, false] (fun H70 f bs gs => ∃ (b67 : Nat), f 1 = route_v0 ∧ f 2 = .pointer (some ⟨b1, 0, none⟩) ∧ f 6 = .pointer (some ⟨b36, 0, none⟩) ∧ f 7 = .int .i64 y19.2 ∧ f 8 = .pointer (some ⟨b41, 0, none⟩) ∧ f 9 = .int .i64 y40.2 ∧ f 10 = .pointer (some ⟨b67, 0, none⟩) ∧ f 44 = .agg [.int .i64 y50.1.Low, .int .i64 y50.1.High].toArray ∧ f 45 = .int .i64 y50.2 ∧ bs = [(b67, .cells [.int .i64 0, .int .i64 0].toArray 31), (b41, .cells [.int .i64 y40.1.Low, .int .i64 y40.1.High].toArray 31), (b36, .cells [.int .i64 y19.1.Low, .int .i64 y19.1.High].toArray 31), (b10, .cells [.int .i64 y7.Days, .int .i64 y7.Step, y7a_v2, .int .i64 y7.Wrong, y7a_v4, .int .i64 y7.Reach, .int .i64 y7.Stock].toArray 25), (b1, .cells [.int .i64 t.Days, .int .i64 t.Step, t_v2, .int .i64 t.Wrong, t_v4, .int .i64 t.Reach, .int .i64 t.Stock].toArray 25)] ∧ gs = [] ∧ HSub H39 H70) ?_ ?_
        · rintro H70 f bs gs ⟨b67, hf1, hf2, hf6, hf7, hf8, hf9, hf10, hf44, hf45, rfl, rfl, hs70⟩
          refine (JA.norm (i := 1) hf1 (JA.norm (i := 2) hf2 (JA.norm (i := 6) hf6 (JA.norm (i := 7) hf7 (JA.norm (i := 8) hf8 (JA.norm (i := 9) hf9 (JA.norm (i := 10) hf10 (JA.norm (i := 44) hf44 (JA.norm (i := 45) hf45 ?_)))))))))
          refine JA.many [9] (by kernel_rfl) (by simp) (all_one ⟨_, #[true, true, true, true, true, true, true, true, true, true, false], rfl, (by kernel_rfl), ?_⟩)
          refine JL.storeOwn 0 (cs := [.int .i64 y50.1.Low, .int .i64 y50.1.High]) az_31 rfl rfl rfl (one_cons rfl (one_cons rfl one_nil)) rfl rfl .none ?_
          refine JA.after hE hs70 (.cons _ (.cons_cons _ (.cons_cons _ (.cons_cons _ (.cons_cons _ (List.nil_sublist _)))))) ?_
          refine JA.take 10 (listed' := #[true, true, true, true, true, true, true, true, true, true, true]) hQ rfl (by kernel_rfl) (by kernel_rfl) (by kernel_rfl) (by kernel_rfl) (by kernel_rfl) hE hs70 (.cons _ (.cons_cons _ (.cons_cons _ (.cons_cons _ (.cons_cons _ (List.nil_sublist _)))))) ?_
          refine JL.assign .none rfl ?_
          refine JA.cont ?_
          refine JA.done hQ (by kernel_rfl) ?_
          refine JQ.go ?_
          refine JC.seq ?_
          refine JC.region (by rfl) ?_
          intro hQ
          refine JL.loadOwn 4 az_25 rfl rfl rfl .none rfl ?_
          refine JL.move .none rfl ?_
          obtain ⟨y71, hy71, hF⟩ := bind_some hF
          refine JL.callS (c_ref11_Left n H70 t t_v2 (SL.mono R_Rain_mono (HSub.trans hs8 (HSub.trans hs39 hs70)) ht_2) t_v4 (SL.mono R_Fair_mono (HSub.trans hs8 (HSub.trans hs39 hs70)) ht_4) route route_v0 (SL.mono RInt.mono (HSub.trans hs8 (HSub.trans hs39 hs70)) hroute_0) y71 hy71) rfl en_18 .none rfl ?_
          refine JL.move .none rfl ?_
          refine JL.extract rfl rfl .none rfl ?_
          refine JL.extract rfl rfl .none rfl ?_
          refine JL.alloc ze_31 .none rfl ?_
          intro b72
          refine JL.storeOwn 0 (cs := [.int .i64 y71.1.Low, .int .i64 y71.1.High]) az_31 rfl rfl rfl (one_cons rfl (one_cons rfl one_nil)) rfl rfl .none ?_
          refine JL.assign .none rfl ?_
          refine JL.done hQ ?_
          refine JQ.go ?_
          refine JC.fresh (fun f => f 6 = .pointer (some ⟨b36, 0, none⟩) ∧ f 7 = .int .i64 y19.2 ∧ f 8 = .pointer (some ⟨b41, 0, none⟩) ∧ f 9 = .int .i64 y40.2 ∧ f 10 = .pointer (some ⟨b67, 0, none⟩) ∧ f 11 = .int .i64 y50.2 ∧ f 12 = .pointer (some ⟨b72, 0, none⟩) ∧ f 13 = .int .i64 y71.2) ⟨rfl, rfl, rfl, rfl, rfl, rfl, rfl, rfl⟩ ?_
          rintro f ⟨hf6, hf7, hf8, hf9, hf10, hf11, hf12, hf13⟩
          refine (JC.norm (i := 6) hf6 (JC.norm (i := 7) hf7 (JC.norm (i := 8) hf8 (JC.norm (i := 9) hf9 (JC.norm (i := 10) hf10 (JC.norm (i := 11) hf11 (JC.norm (i := 12) hf12 (JC.norm (i := 13) hf13 ?_))))))))
          refine JC.seq ?_
          refine JC.region (by rfl) ?_
          intro hQ
          refine JL.loadOwn 3 az_31 rfl rfl rfl .none rfl ?_
          refine JL.loadOwn 2 az_31 rfl rfl rfl .none rfl ?_
          refine JL.eqAgg eqg_31 rfl rfl (fun w => eqa_31 y19.1.Low y19.1.High y40.1.Low y40.1.High w) .none rfl ?_
          refine JL.move .none rfl ?_
          refine JL.cut 4 (fun f => f 10 = .pointer (some ⟨b67, 0, none⟩) ∧ f 11 = .int .i64 y50.2 ∧ f 12 = .pointer (some ⟨b72, 0, none⟩) ∧ f 13 = .int .i64 y71.2 ∧ f 59 = .bool (((y19.1.Low == y40.1.Low) && (y19.1.High == y40.1.High)) && (y19.2 == y40.2))) ?_ ?_
          · intro hJ73
            rcases bcases ((y19.1.Low == y40.1.Low) && (y19.1.High == y40.1.High)) with hc74 | hc74
            · skip
              refine JL.move (.some rfl rfl rfl hc74) rfl ?_
              refine JL.move (.some rfl rfl rfl hc74) rfl ?_
              refine JL.bin rfl rfl rfl (.some rfl rfl rfl hc74) rfl ?_
              refine JL.pick_t (b := ((y19.1.Low == y40.1.Low) && (y19.1.High == y40.1.High))) rfl hc74 .none rfl ?_
              exact hJ73 _ ⟨rfl, rfl, rfl, rfl, and_t hc74 rfl⟩
            · skip
              refine JL.skip (.bool rfl rfl rfl hc74) rfl ?_
              refine JL.skip (.bool rfl rfl rfl hc74) rfl ?_
              refine JL.skip (.bool rfl rfl rfl hc74) rfl ?_
              refine JL.pick_f (b := ((y19.1.Low == y40.1.Low) && (y19.1.High == y40.1.High))) rfl hc74 .none rfl ?_
              exact hJ73 _ ⟨rfl, rfl, rfl, rfl, and_f hc74 rfl⟩
          · rintro f ⟨hf10, hf11, hf12, hf13, hf59⟩
            refine (JL.norm (i := 10) hf10 (JL.norm (i := 11) hf11 (JL.norm (i := 12) hf12 (JL.norm (i := 13) hf13 (JL.norm (i := 59) hf59 ?_)))))
            refine JL.move .none rfl ?_
            refine JL.cut 4 (fun f => f 11 = .int .i64 y50.2 ∧ f 13 = .int .i64 y71.2 ∧ f 64 = .bool ((((y19.1.Low == y40.1.Low) && (y19.1.High == y40.1.High)) && (y19.2 == y40.2)) && ((y50.1.Low == y71.1.Low) && (y50.1.High == y71.1.High)))) ?_ ?_
            · intro hJ75
              rcases bcases (((y19.1.Low == y40.1.Low) && (y19.1.High == y40.1.High)) && (y19.2 == y40.2)) with hc76 | hc76
              · skip
                refine JL.loadOwn 1 az_31 rfl rfl rfl (.some rfl rfl rfl hc76) rfl ?_
                refine JL.loadOwn 0 az_31 rfl rfl rfl (.some rfl rfl rfl hc76) rfl ?_
                refine JL.eqAgg eqg_31 rfl rfl (fun w => eqa_31 y50.1.Low y50.1.High y71.1.Low y71.1.High w) (.some rfl rfl rfl hc76) rfl ?_
                refine JL.pick_t (b := (((y19.1.Low == y40.1.Low) && (y19.1.High == y40.1.High)) && (y19.2 == y40.2))) rfl hc76 .none rfl ?_
                exact hJ75 _ ⟨rfl, rfl, and_t hc76 rfl⟩
              · skip
                refine JL.skip (.bool rfl rfl rfl hc76) rfl ?_
                refine JL.skip (.bool rfl rfl rfl hc76) rfl ?_
                refine JL.skip (.bool rfl rfl rfl hc76) rfl ?_
                refine JL.pick_f (b := (((y19.1.Low == y40.1.Low) && (y19.1.High == y40.1.High)) && (y19.2 == y40.2))) rfl hc76 .none rfl ?_
                exact hJ75 _ ⟨rfl, rfl, and_f hc76 rfl⟩
            · rintro f ⟨hf11, hf13, hf64⟩
              refine (JL.norm (i := 11) hf11 (JL.norm (i := 13) hf13 (JL.norm (i := 64) hf64 ?_)))
              refine JL.move .none rfl ?_
              refine JL.cut 4 (fun f => f 69 = .bool (((((y19.1.Low == y40.1.Low) && (y19.1.High == y40.1.High)) && (y19.2 == y40.2)) && ((y50.1.Low == y71.1.Low) && (y50.1.High == y71.1.High))) && (y50.2 == y71.2))) ?_ ?_
              · intro hJ77
                rcases bcases ((((y19.1.Low == y40.1.Low) && (y19.1.High == y40.1.High)) && (y19.2 == y40.2)) && ((y50.1.Low == y71.1.Low) && (y50.1.High == y71.1.High))) with hc78 | hc78
                · skip
                  refine JL.move (.some rfl rfl rfl hc78) rfl ?_
                  refine JL.move (.some rfl rfl rfl hc78) rfl ?_
                  refine JL.bin rfl rfl rfl (.some rfl rfl rfl hc78) rfl ?_
                  refine JL.pick_t (b := ((((y19.1.Low == y40.1.Low) && (y19.1.High == y40.1.High)) && (y19.2 == y40.2)) && ((y50.1.Low == y71.1.Low) && (y50.1.High == y71.1.High)))) rfl hc78 .none rfl ?_
                  exact hJ77 _ (and_t hc78 rfl)
                · skip
                  refine JL.skip (.bool rfl rfl rfl hc78) rfl ?_
                  refine JL.skip (.bool rfl rfl rfl hc78) rfl ?_
                  refine JL.skip (.bool rfl rfl rfl hc78) rfl ?_
                  refine JL.pick_f (b := ((((y19.1.Low == y40.1.Low) && (y19.1.High == y40.1.High)) && (y19.2 == y40.2)) && ((y50.1.Low == y71.1.Low) && (y50.1.High == y71.1.High)))) rfl hc78 .none rfl ?_
                  exact hJ77 _ (and_f hc78 rfl)
              · rintro f hf69
                refine (JL.norm (i := 69) hf69 ?_)
                refine JL.move .none rfl ?_
                obtain ⟨p80, hp80, hF⟩ := bind_some hF
                refine JL.cut 2 (fun f => f 72 = .bool p80) ?_ ?_
                · intro hJ81
                  rcases ite_some hp80 with ⟨hc82, hF⟩ | ⟨hc82, hF⟩
                  · skip
                    obtain ⟨y83, hy83, hF⟩ := bind_some hF
                    refine JL.callS (c_law11_works n H70 y83 hy83) rfl en_13 (.some rfl rfl rfl hc82) rfl ?_
                    refine JL.pick_t (b := (((((y19.1.Low == y40.1.Low) && (y19.1.High == y40.1.High)) && (y19.2 == y40.2)) && ((y50.1.Low == y71.1.Low) && (y50.1.High == y71.1.High))) && (y50.2 == y71.2))) rfl hc82 .none rfl ?_
                    obtain rfl := Option.some.inj hF
                    exact hJ81 _ (rfl)
                  · skip
                    refine JL.skip (.bool rfl rfl rfl hc82) rfl ?_
                    refine JL.pick_f (b := (((((y19.1.Low == y40.1.Low) && (y19.1.High == y40.1.High)) && (y19.2 == y40.2)) && ((y50.1.Low == y71.1.Low) && (y50.1.High == y71.1.High))) && (y50.2 == y71.2))) rfl hc82 .none rfl ?_
                    obtain rfl := Option.some.inj hF
                    exact hJ81 _ (rfl)
                · rintro f hf72
                  refine (JL.norm (i := 72) hf72 ?_)
                  refine JL.assign .none rfl ?_
                  refine JL.done hQ ?_
                  refine JQ.go ?_
                  refine JC.ret ?_
                  obtain rfl := Option.some.inj hF
                  exact JQ.outS rfl (.tmp .nil) rfl
        intro nd69_0
        refine JA.cut 6 #[true, true, true, true, false, false, false, false, true, false, false] (fun H84 f bs gs => ∃ (b63 : Nat) (v55 : Value) (xs56 : List Value), f 1 = route_v0 ∧ f 2 = .pointer (some ⟨b1, 0, none⟩) ∧ f 6 = .pointer (some ⟨b36, 0, none⟩) ∧ f 7 = .int .i64 y19.2 ∧ f 8 = .pointer (some ⟨b41, 0, none⟩) ∧ f 9 = .int .i64 y40.2 ∧ f 10 = .pointer (some ⟨b63, 0, none⟩) ∧ f 39 = .agg [.int .i64 y7.Days, .int .i64 y7.Step, y7a_v2, .int .i64 y7.Wrong, y7a_v4, .int .i64 y7.Reach, .int .i64 y7.Stock].toArray ∧ f 42 = v55 ∧ bs = [(b63, .cells [.int .i64 0, .int .i64 0].toArray 31), (b41, .cells [.int .i64 y40.1.Low, .int .i64 y40.1.High].toArray 31), (b36, .cells [.int .i64 y19.1.Low, .int .i64 y19.1.High].toArray 31), (b10, .cells [.int .i64 y7.Days, .int .i64 y7.Step, y7a_v2, .int .i64 y7.Wrong, y7a_v4, .int .i64 y7.Reach, .int .i64 y7.Stock].toArray 25), (b1, .cells [.int .i64 t.Days, .int .i64 t.Step, t_v2, .int .i64 t.Wrong, t_v4, .int .i64 t.Reach, .int .i64 t.Stock].toArray 25)] ∧ gs = [⟨v55, 3, 1, l44.length, xs56⟩] ∧ CH H84 1 RInt xs56 l44 ∧ HSub H39 H84) ?_ ?_
        · rintro H84 f bs gs ⟨b63, v55, xs56, hf1, hf2, hf6, hf7, hf8, hf9, hf10, hf39, hf42, rfl, rfl, hm85, hs84⟩
          refine (JA.norm (i := 1) hf1 (JA.norm (i := 2) hf2 (JA.norm (i := 6) hf6 (JA.norm (i := 7) hf7 (JA.norm (i := 8) hf8 (JA.norm (i := 9) hf9 (JA.norm (i := 10) hf10 (JA.norm (i := 39) hf39 (JA.norm (i := 42) hf42 ?_)))))))))
          refine JA.many [4] (by kernel_rfl) (by simp) (all_one ⟨_, #[true, true, true, true, true, false, false, false, true, false, false], rfl, (by kernel_rfl), ?_⟩)
          refine JL.freezeG 0 (R := RInt) rfl RInt.mono hm85 rfl ?_
          intro H86 hs86 hg87
          refine JL.callS (c_rains_Left n H86 y7 y7a_v2 (SL.mono R_Rain_mono (HSub.trans hs39 (HSub.trans hs84 hs86)) hy7a_2) y7a_v4 (SL.mono R_Fair_mono (HSub.trans hs39 (HSub.trans hs84 hs86)) hy7a_4) l44 v55 hg87 y50 hy50) rfl en_17 .none rfl ?_
          refine JA.after hE (HSub.trans hs84 hs86) (.cons _ (.cons_cons _ (.cons_cons _ (.cons_cons _ (.cons_cons _ (List.nil_sublist _)))))) ?_
          refine JA.take 5 (listed' := #[true, true, true, true, true, true, false, false, true, false, false]) hQ rfl (by kernel_rfl) (by kernel_rfl) (by kernel_rfl) (by kernel_rfl) (by kernel_rfl) hE (HSub.trans hs84 hs86) (.cons _ (.cons_cons _ (.cons_cons _ (.cons_cons _ (.cons_cons _ (List.nil_sublist _)))))) ?_
          refine JL.move .none rfl ?_
          refine JA.cont ?_
          refine JA.take 6 (listed' := #[true, true, true, true, true, true, true, false, true, false, false]) hQ rfl (by kernel_rfl) (by kernel_rfl) (by kernel_rfl) (by kernel_rfl) (by kernel_rfl) hE (HSub.trans hs84 hs86) (.cons _ (.cons_cons _ (.cons_cons _ (.cons_cons _ (.cons_cons _ (List.nil_sublist _)))))) ?_
          refine JL.extract rfl rfl .none rfl ?_
          refine JA.cont ?_
          refine JA.take 7 (listed' := #[true, true, true, true, true, true, true, true, true, false, false]) hQ rfl (by kernel_rfl) (by kernel_rfl) (by kernel_rfl) (by kernel_rfl) (by kernel_rfl) hE (HSub.trans hs84 hs86) (.cons _ (.cons_cons _ (.cons_cons _ (.cons_cons _ (.cons_cons _ (List.nil_sublist _)))))) ?_
          refine JL.extract rfl rfl .none rfl ?_
          refine JA.cont ?_
          exact nd69_0 _ _ _ _ ⟨b63, rfl, rfl, rfl, rfl, rfl, rfl, rfl, rfl, rfl, rfl, rfl, (HSub.trans hs84 hs86)⟩
        intro nd69_1
        refine JA.cut 7 #[true, true, true, false, false, false, false, false, true, false, false] (fun H88 f bs gs => ∃ (b58 : Nat) (v52 : Value), f 1 = route_v0 ∧ f 2 = .pointer (some ⟨b1, 0, none⟩) ∧ f 6 = .pointer (some ⟨b36, 0, none⟩) ∧ f 7 = .int .i64 y19.2 ∧ f 8 = .pointer (some ⟨b41, 0, none⟩) ∧ f 9 = .int .i64 y40.2 ∧ f 10 = .pointer (some ⟨b58, 0, none⟩) ∧ f 39 = .agg [.int .i64 y7.Days, .int .i64 y7.Step, y7a_v2, .int .i64 y7.Wrong, y7a_v4, .int .i64 y7.Reach, .int .i64 y7.Stock].toArray ∧ f 40 = v52 ∧ f 41 = route_v0 ∧ bs = [(b58, .cells [.int .i64 0, .int .i64 0].toArray 31), (b41, .cells [.int .i64 y40.1.Low, .int .i64 y40.1.High].toArray 31), (b36, .cells [.int .i64 y19.1.Low, .int .i64 y19.1.High].toArray 31), (b10, .cells [.int .i64 y7.Days, .int .i64 y7.Step, y7a_v2, .int .i64 y7.Wrong, y7a_v4, .int .i64 y7.Reach, .int .i64 y7.Stock].toArray 25), (b1, .cells [.int .i64 t.Days, .int .i64 t.Step, t_v2, .int .i64 t.Wrong, t_v4, .int .i64 t.Reach, .int .i64 t.Stock].toArray 25)] ∧ gs = [⟨v52, 3, 1, 0, []⟩] ∧ HSub H39 H88) ?_ ?_
        · rintro H88 f bs gs ⟨b58, v52, hf1, hf2, hf6, hf7, hf8, hf9, hf10, hf39, hf40, hf41, rfl, rfl, hs88⟩
          refine (JA.norm (i := 1) hf1 (JA.norm (i := 2) hf2 (JA.norm (i := 6) hf6 (JA.norm (i := 7) hf7 (JA.norm (i := 8) hf8 (JA.norm (i := 9) hf9 (JA.norm (i := 10) hf10 (JA.norm (i := 39) hf39 (JA.norm (i := 40) hf40 (JA.norm (i := 41) hf41 ?_))))))))))
          refine JA.many [3] (by kernel_rfl) (by simp) (all_one ⟨_, #[true, true, true, true, false, false, false, false, true, false, false], rfl, (by kernel_rfl), ?_⟩)
          refine JL.appD (R := RInt) 0 (l := ([] : List Int)) (m := route) ap_26 rfl ⟨rfl, rfl⟩ rfl CH.nil rfl (SL.mono RInt.mono (HSub.trans hs8 (HSub.trans hs39 hs88)) hroute_0) (RInt.one _) hl44 .none rfl ?_
          intro v89 xs90 hch91
          refine JA.after hE hs88 (.cons _ (.cons_cons _ (.cons_cons _ (.cons_cons _ (.cons_cons _ (List.nil_sublist _)))))) ?_
          exact nd69_1 _ _ _ _ ⟨b58, v89, xs90, rfl, rfl, rfl, rfl, rfl, rfl, rfl, rfl, rfl, rfl, rfl, hch91, hs88⟩
        intro nd69_2
        refine JA.take 0 (listed' := #[true, false, false, false, false, false, false, false, false, false, false]) hQ rfl (by kernel_rfl) (by kernel_rfl) (by kernel_rfl) (by kernel_rfl) (by kernel_rfl) hE (HSub.refl _) (.cons_cons _ (.cons_cons _ (.cons_cons _ (.cons_cons _ (List.nil_sublist _))))) ?_
        refine JL.loadOwn 2 az_25 rfl rfl rfl .none rfl ?_
        refine JA.cont ?_
        refine JA.take 2 (listed' := #[true, false, true, false, false, false, false, false, false, false, false]) hQ rfl (by kernel_rfl) (by kernel_rfl) (by kernel_rfl) (by kernel_rfl) (by kernel_rfl) hE (HSub.refl _) (.cons_cons _ (.cons_cons _ (.cons_cons _ (.cons_cons _ (List.nil_sublist _))))) ?_
        refine JL.move .none rfl ?_
        refine JA.cont ?_
        refine JA.many [1, 8] (by kernel_rfl) (by simp) (all_cons ⟨_, #[true, true, true, false, false, false, false, false, false, false, false], rfl, (by kernel_rfl), ?_⟩ (all_one ⟨_, #[true, false, true, false, false, false, false, false, true, false, false], rfl, (by kernel_rfl), ?_⟩))
        · skip
          refine JL.emptySlice ap_26 .none rfl ?_
          intro v92
          refine JA.after hE (HSub.refl _) (.cons_cons _ (.cons_cons _ (.cons_cons _ (.cons_cons _ (List.nil_sublist _))))) ?_
          refine JA.many [3, 8] (by kernel_rfl) (by simp) (all_cons ⟨_, #[true, true, true, true, false, false, false, false, false, false, false], rfl, (by kernel_rfl), ?_⟩ (all_one ⟨_, #[true, true, true, false, false, false, false, false, true, false, false], rfl, (by kernel_rfl), ?_⟩))
          · skip
            refine JL.appD (R := RInt) 0 (l := ([] : List Int)) (m := route) ap_26 rfl ⟨rfl, rfl⟩ rfl CH.nil rfl (SL.mono RInt.mono (HSub.trans hs8 hs39) hroute_0) (RInt.one _) hl44 .none rfl ?_
            intro v94 xs95 hch96
            refine JA.after hE (HSub.refl _) (.cons_cons _ (.cons_cons _ (.cons_cons _ (.cons_cons _ (List.nil_sublist _))))) ?_
            refine JA.many [4, 8] (by kernel_rfl) (by simp) (all_cons ⟨_, #[true, true, true, true, true, false, false, false, false, false, false], rfl, (by kernel_rfl), ?_⟩ (all_one ⟨_, #[true, true, true, true, false, false, false, false, true, false, false], rfl, (by kernel_rfl), ?_⟩))
            · skip
              refine JL.freezeG 0 (R := RInt) rfl RInt.mono hch96 rfl ?_
              intro H97 hs97 hg98
              refine JL.callS (c_rains_Left n H97 y7 y7a_v2 (SL.mono R_Rain_mono (HSub.trans hs39 hs97) hy7a_2) y7a_v4 (SL.mono R_Fair_mono (HSub.trans hs39 hs97) hy7a_4) l44 v94 hg98 y50 hy50) rfl en_17 .none rfl ?_
              refine JA.after hE hs97 (.cons_cons _ (.cons_cons _ (.cons_cons _ (.cons_cons _ (List.nil_sublist _))))) ?_
              refine JA.take 5 (listed' := #[true, true, true, true, true, true, false, false, false, false, false]) hQ rfl (by kernel_rfl) (by kernel_rfl) (by kernel_rfl) (by kernel_rfl) (by kernel_rfl) hE hs97 (.cons_cons _ (.cons_cons _ (.cons_cons _ (.cons_cons _ (List.nil_sublist _))))) ?_
              refine JL.move .none rfl ?_
              refine JA.cont ?_
              refine JA.take 6 (listed' := #[true, true, true, true, true, true, true, false, false, false, false]) hQ rfl (by kernel_rfl) (by kernel_rfl) (by kernel_rfl) (by kernel_rfl) (by kernel_rfl) hE hs97 (.cons_cons _ (.cons_cons _ (.cons_cons _ (.cons_cons _ (List.nil_sublist _))))) ?_
              refine JL.extract rfl rfl .none rfl ?_
              refine JA.cont ?_
              refine JA.take 7 (listed' := #[true, true, true, true, true, true, true, true, false, false, false]) hQ rfl (by kernel_rfl) (by kernel_rfl) (by kernel_rfl) (by kernel_rfl) (by kernel_rfl) hE hs97 (.cons_cons _ (.cons_cons _ (.cons_cons _ (.cons_cons _ (List.nil_sublist _))))) ?_
              refine JL.extract rfl rfl .none rfl ?_
              refine JA.cont ?_
              refine JA.many [8] (by kernel_rfl) (by simp) (all_one ⟨_, #[true, true, true, true, true, true, true, true, true, false, false], rfl, (by kernel_rfl), ?_⟩)
              refine JL.alloc ze_31 .none rfl ?_
              intro b99
              refine JA.after hE hs97 (.cons _ (.cons_cons _ (.cons_cons _ (.cons_cons _ (.cons_cons _ (List.nil_sublist _)))))) ?_
              exact nd69_0 _ _ _ _ ⟨b99, rfl, rfl, rfl, rfl, rfl, rfl, rfl, rfl, rfl, rfl, rfl, hs97⟩
            · skip
              refine JL.alloc ze_31 .none rfl ?_
              intro b100
              refine JA.after hE (HSub.refl _) (.cons _ (.cons_cons _ (.cons_cons _ (.cons_cons _ (.cons_cons _ (List.nil_sublist _)))))) ?_
              exact nd69_1 _ _ _ _ ⟨b100, v94, xs95, rfl, rfl, rfl, rfl, rfl, rfl, rfl, rfl, rfl, rfl, rfl, hch96, (HSub.refl _)⟩
          · skip
            refine JL.alloc ze_31 .none rfl ?_
            intro b101
            refine JA.after hE (HSub.refl _) (.cons _ (.cons_cons _ (.cons_cons _ (.cons_cons _ (.cons_cons _ (List.nil_sublist _)))))) ?_
            exact nd69_2 _ _ _ _ ⟨b101, v92, rfl, rfl, rfl, rfl, rfl, rfl, rfl, rfl, rfl, rfl, rfl, rfl, (HSub.refl _)⟩
        · skip
          refine JL.alloc ze_31 .none rfl ?_
          intro b102
          refine JA.after hE (HSub.refl _) (.cons _ (.cons_cons _ (.cons_cons _ (.cons_cons _ (.cons_cons _ (List.nil_sublist _)))))) ?_
          refine JA.many [1] (by kernel_rfl) (by simp) (all_one ⟨_, #[true, true, true, false, false, false, false, false, true, false, false], rfl, (by kernel_rfl), ?_⟩)
          refine JL.emptySlice ap_26 .none rfl ?_
          intro v103
          refine JA.after hE (HSub.refl _) (.cons _ (.cons_cons _ (.cons_cons _ (.cons_cons _ (.cons_cons _ (List.nil_sublist _)))))) ?_
          exact nd69_2 _ _ _ _ ⟨b102, v103, rfl, rfl, rfl, rfl, rfl, rfl, rfl, rfl, rfl, rfl, rfl, rfl, (HSub.refl _)⟩
      intro nd38_0
      refine JA.cut 6 #[true, true, true, true, false, false, false, false, true, false, false] (fun H105 f bs gs => ∃ (b32 : Nat) (v24 : Value) (xs25 : List Value), f 1 = route_v0 ∧ f 2 = .pointer (some ⟨b1, 0, none⟩) ∧ f 5 = .pointer (some ⟨b10, 0, none⟩) ∧ f 6 = .pointer (some ⟨b32, 0, none⟩) ∧ f 25 = .agg [.int .i64 y7.Days, .int .i64 y7.Step, y7a_v2, .int .i64 y7.Wrong, y7a_v4, .int .i64 y7.Reach, .int .i64 y7.Stock].toArray ∧ f 28 = v24 ∧ bs = [(b32, .cells [.int .i64 0, .int .i64 0].toArray 31), (b10, .cells [.int .i64 y7.Days, .int .i64 y7.Step, y7a_v2, .int .i64 y7.Wrong, y7a_v4, .int .i64 y7.Reach, .int .i64 y7.Stock].toArray 25), (b1, .cells [.int .i64 t.Days, .int .i64 t.Step, t_v2, .int .i64 t.Wrong, t_v4, .int .i64 t.Reach, .int .i64 t.Stock].toArray 25)] ∧ gs = [⟨v24, 3, 1, l13.length, xs25⟩] ∧ CH H105 1 RInt xs25 l13 ∧ HSub H8 H105) ?_ ?_
      · rintro H105 f bs gs ⟨b32, v24, xs25, hf1, hf2, hf5, hf6, hf25, hf28, rfl, rfl, hm106, hs105⟩
        refine (JA.norm (i := 1) hf1 (JA.norm (i := 2) hf2 (JA.norm (i := 5) hf5 (JA.norm (i := 6) hf6 (JA.norm (i := 25) hf25 (JA.norm (i := 28) hf28 ?_))))))
        refine JA.many [4] (by kernel_rfl) (by simp) (all_one ⟨_, #[true, true, true, true, true, false, false, false, true, false, false], rfl, (by kernel_rfl), ?_⟩)
        refine JL.freezeG 0 (R := RInt) rfl RInt.mono hm106 rfl ?_
        intro H107 hs107 hg108
        refine JL.callS (c_rains_Takes n H107 y7 y7a_v2 (SL.mono R_Rain_mono (HSub.trans hs105 hs107) hy7a_2) y7a_v4 (SL.mono R_Fair_mono (HSub.trans hs105 hs107) hy7a_4) l13 v24 hg108 y19 hy19) rfl en_15 .none rfl ?_
        refine JA.after hE (HSub.trans hs105 hs107) (.cons _ (.cons_cons _ (.cons_cons _ (List.nil_sublist _)))) ?_
        refine JA.take 5 (listed' := #[true, true, true, true, true, true, false, false, true, false, false]) hQ rfl (by kernel_rfl) (by kernel_rfl) (by kernel_rfl) (by kernel_rfl) (by kernel_rfl) hE (HSub.trans hs105 hs107) (.cons _ (.cons_cons _ (.cons_cons _ (List.nil_sublist _)))) ?_
        refine JL.move .none rfl ?_
        refine JA.cont ?_
        refine JA.take 6 (listed' := #[true, true, true, true, true, true, true, false, true, false, false]) hQ rfl (by kernel_rfl) (by kernel_rfl) (by kernel_rfl) (by kernel_rfl) (by kernel_rfl) hE (HSub.trans hs105 hs107) (.cons _ (.cons_cons _ (.cons_cons _ (List.nil_sublist _)))) ?_
        refine JL.extract rfl rfl .none rfl ?_
        refine JA.cont ?_
        refine JA.take 7 (listed' := #[true, true, true, true, true, true, true, true, true, false, false]) hQ rfl (by kernel_rfl) (by kernel_rfl) (by kernel_rfl) (by kernel_rfl) (by kernel_rfl) hE (HSub.trans hs105 hs107) (.cons _ (.cons_cons _ (.cons_cons _ (List.nil_sublist _)))) ?_
        refine JL.extract rfl rfl .none rfl ?_
        refine JA.cont ?_
        exact nd38_0 _ _ _ _ ⟨b32, rfl, rfl, rfl, rfl, rfl, rfl, rfl, rfl, (HSub.trans hs105 hs107)⟩
      intro nd38_1
      refine JA.cut 7 #[true, true, true, false, false, false, false, false, true, false, false] (fun H109 f bs gs => ∃ (b27 : Nat) (v21 : Value), f 1 = route_v0 ∧ f 2 = .pointer (some ⟨b1, 0, none⟩) ∧ f 5 = .pointer (some ⟨b10, 0, none⟩) ∧ f 6 = .pointer (some ⟨b27, 0, none⟩) ∧ f 25 = .agg [.int .i64 y7.Days, .int .i64 y7.Step, y7a_v2, .int .i64 y7.Wrong, y7a_v4, .int .i64 y7.Reach, .int .i64 y7.Stock].toArray ∧ f 26 = v21 ∧ f 27 = route_v0 ∧ bs = [(b27, .cells [.int .i64 0, .int .i64 0].toArray 31), (b10, .cells [.int .i64 y7.Days, .int .i64 y7.Step, y7a_v2, .int .i64 y7.Wrong, y7a_v4, .int .i64 y7.Reach, .int .i64 y7.Stock].toArray 25), (b1, .cells [.int .i64 t.Days, .int .i64 t.Step, t_v2, .int .i64 t.Wrong, t_v4, .int .i64 t.Reach, .int .i64 t.Stock].toArray 25)] ∧ gs = [⟨v21, 3, 1, 0, []⟩] ∧ HSub H8 H109) ?_ ?_
      · rintro H109 f bs gs ⟨b27, v21, hf1, hf2, hf5, hf6, hf25, hf26, hf27, rfl, rfl, hs109⟩
        refine (JA.norm (i := 1) hf1 (JA.norm (i := 2) hf2 (JA.norm (i := 5) hf5 (JA.norm (i := 6) hf6 (JA.norm (i := 25) hf25 (JA.norm (i := 26) hf26 (JA.norm (i := 27) hf27 ?_)))))))
        refine JA.many [3] (by kernel_rfl) (by simp) (all_one ⟨_, #[true, true, true, true, false, false, false, false, true, false, false], rfl, (by kernel_rfl), ?_⟩)
        refine JL.appD (R := RInt) 0 (l := ([] : List Int)) (m := route) ap_26 rfl ⟨rfl, rfl⟩ rfl CH.nil rfl (SL.mono RInt.mono (HSub.trans hs8 hs109) hroute_0) (RInt.one _) hl13 .none rfl ?_
        intro v110 xs111 hch112
        refine JA.after hE hs109 (.cons _ (.cons_cons _ (.cons_cons _ (List.nil_sublist _)))) ?_
        exact nd38_1 _ _ _ _ ⟨b27, v110, xs111, rfl, rfl, rfl, rfl, rfl, rfl, rfl, rfl, hch112, hs109⟩
      intro nd38_2
      refine JA.take 0 (listed' := #[true, false, false, false, false, false, false, false, false, false, false]) hQ rfl (by kernel_rfl) (by kernel_rfl) (by kernel_rfl) (by kernel_rfl) (by kernel_rfl) hE (HSub.refl _) (.cons_cons _ (.cons_cons _ (List.nil_sublist _))) ?_
      refine JL.loadOwn 0 az_25 rfl rfl rfl .none rfl ?_
      refine JA.cont ?_
      refine JA.take 2 (listed' := #[true, false, true, false, false, false, false, false, false, false, false]) hQ rfl (by kernel_rfl) (by kernel_rfl) (by kernel_rfl) (by kernel_rfl) (by kernel_rfl) hE (HSub.refl _) (.cons_cons _ (.cons_cons _ (List.nil_sublist _))) ?_
      refine JL.move .none rfl ?_
      refine JA.cont ?_
      refine JA.many [1, 8] (by kernel_rfl) (by simp) (all_cons ⟨_, #[true, true, true, false, false, false, false, false, false, false, false], rfl, (by kernel_rfl), ?_⟩ (all_one ⟨_, #[true, false, true, false, false, false, false, false, true, false, false], rfl, (by kernel_rfl), ?_⟩))
      · skip
        refine JL.emptySlice ap_26 .none rfl ?_
        intro v113
        refine JA.after hE (HSub.refl _) (.cons_cons _ (.cons_cons _ (List.nil_sublist _))) ?_
        refine JA.many [3, 8] (by kernel_rfl) (by simp) (all_cons ⟨_, #[true, true, true, true, false, false, false, false, false, false, false], rfl, (by kernel_rfl), ?_⟩ (all_one ⟨_, #[true, true, true, false, false, false, false, false, true, false, false], rfl, (by kernel_rfl), ?_⟩))
        · skip
          refine JL.appD (R := RInt) 0 (l := ([] : List Int)) (m := route) ap_26 rfl ⟨rfl, rfl⟩ rfl CH.nil rfl (SL.mono RInt.mono hs8 hroute_0) (RInt.one _) hl13 .none rfl ?_
          intro v115 xs116 hch117
          refine JA.after hE (HSub.refl _) (.cons_cons _ (.cons_cons _ (List.nil_sublist _))) ?_
          refine JA.many [4, 8] (by kernel_rfl) (by simp) (all_cons ⟨_, #[true, true, true, true, true, false, false, false, false, false, false], rfl, (by kernel_rfl), ?_⟩ (all_one ⟨_, #[true, true, true, true, false, false, false, false, true, false, false], rfl, (by kernel_rfl), ?_⟩))
          · skip
            refine JL.freezeG 0 (R := RInt) rfl RInt.mono hch117 rfl ?_
            intro H118 hs118 hg119
            refine JL.callS (c_rains_Takes n H118 y7 y7a_v2 (SL.mono R_Rain_mono hs118 hy7a_2) y7a_v4 (SL.mono R_Fair_mono hs118 hy7a_4) l13 v115 hg119 y19 hy19) rfl en_15 .none rfl ?_
            refine JA.after hE hs118 (.cons_cons _ (.cons_cons _ (List.nil_sublist _))) ?_
            refine JA.take 5 (listed' := #[true, true, true, true, true, true, false, false, false, false, false]) hQ rfl (by kernel_rfl) (by kernel_rfl) (by kernel_rfl) (by kernel_rfl) (by kernel_rfl) hE hs118 (.cons_cons _ (.cons_cons _ (List.nil_sublist _))) ?_
            refine JL.move .none rfl ?_
            refine JA.cont ?_
            refine JA.take 6 (listed' := #[true, true, true, true, true, true, true, false, false, false, false]) hQ rfl (by kernel_rfl) (by kernel_rfl) (by kernel_rfl) (by kernel_rfl) (by kernel_rfl) hE hs118 (.cons_cons _ (.cons_cons _ (List.nil_sublist _))) ?_
            refine JL.extract rfl rfl .none rfl ?_
            refine JA.cont ?_
            refine JA.take 7 (listed' := #[true, true, true, true, true, true, true, true, false, false, false]) hQ rfl (by kernel_rfl) (by kernel_rfl) (by kernel_rfl) (by kernel_rfl) (by kernel_rfl) hE hs118 (.cons_cons _ (.cons_cons _ (List.nil_sublist _))) ?_
            refine JL.extract rfl rfl .none rfl ?_
            refine JA.cont ?_
            refine JA.many [8] (by kernel_rfl) (by simp) (all_one ⟨_, #[true, true, true, true, true, true, true, true, true, false, false], rfl, (by kernel_rfl), ?_⟩)
            refine JL.alloc ze_31 .none rfl ?_
            intro b120
            refine JA.after hE hs118 (.cons _ (.cons_cons _ (.cons_cons _ (List.nil_sublist _)))) ?_
            exact nd38_0 _ _ _ _ ⟨b120, rfl, rfl, rfl, rfl, rfl, rfl, rfl, rfl, hs118⟩
          · skip
            refine JL.alloc ze_31 .none rfl ?_
            intro b121
            refine JA.after hE (HSub.refl _) (.cons _ (.cons_cons _ (.cons_cons _ (List.nil_sublist _)))) ?_
            exact nd38_1 _ _ _ _ ⟨b121, v115, xs116, rfl, rfl, rfl, rfl, rfl, rfl, rfl, rfl, hch117, (HSub.refl _)⟩
        · skip
          refine JL.alloc ze_31 .none rfl ?_
          intro b122
          refine JA.after hE (HSub.refl _) (.cons _ (.cons_cons _ (.cons_cons _ (List.nil_sublist _)))) ?_
          exact nd38_2 _ _ _ _ ⟨b122, v113, rfl, rfl, rfl, rfl, rfl, rfl, rfl, rfl, rfl, (HSub.refl _)⟩
      · skip
        refine JL.alloc ze_31 .none rfl ?_
        intro b123
        refine JA.after hE (HSub.refl _) (.cons _ (.cons_cons _ (.cons_cons _ (List.nil_sublist _)))) ?_
        refine JA.many [1] (by kernel_rfl) (by simp) (all_one ⟨_, #[true, true, true, false, false, false, false, false, true, false, false], rfl, (by kernel_rfl), ?_⟩)
        refine JL.emptySlice ap_26 .none rfl ?_
        intro v124
        refine JA.after hE (HSub.refl _) (.cons _ (.cons_cons _ (.cons_cons _ (List.nil_sublist _)))) ?_
        exact nd38_2 _ _ _ _ ⟨b123, v124, rfl, rfl, rfl, rfl, rfl, rfl, rfl, rfl, rfl, (HSub.refl _)⟩

-- 19 ferrule/ferrulelaw11.ready
def F_law11_ready (n : Nat) (t : Tour) : Option Bool :=
  (F_law11_Far n t).bind fun y2 => (if (!y2) = true then ((F_ref11_Check n t).bind fun y7 => some (y7 == 0)) else (some false) : Option Bool).bind fun p4 => some p4
set_option maxRecDepth 100000 in
set_option maxHeartbeats 40000000 in
theorem c_law11_ready (n : Nat) (H : Hp) (t : Tour) (t_v2 : Value) (ht_2 : SL H 3 R_Rain t_v2 t.Rains) (t_v4 : Value) (ht_4 : SL H 2 R_Fair t_v4 t.Fairs) (y : Bool) (hF : F_law11_ready n t = some y) : SC Try.prog 19 [.agg [.int .i64 t.Days, .int .i64 t.Step, t_v2, .int .i64 t.Wrong, t_v4, .int .i64 t.Reach, .int .i64 t.Stock].toArray] (.bool y) H := by
  rw [F_law11_ready] at hF
  refine SC.of (N := 11) Try.func19 rfl rfl rfl fun w => ?_
  refine JC.seq ?_
  refine JC.region (by rfl) ?_
  intro hQ
  refine JL.box (cs := [.int .i64 t.Days, .int .i64 t.Step, t_v2, .int .i64 t.Wrong, t_v4, .int .i64 t.Reach, .int .i64 t.Stock]) rfl .none rfl ?_
  intro b1
  refine JL.assign .none rfl ?_
  refine JL.done hQ ?_
  refine JQ.go ?_
  refine JC.seq ?_
  refine JC.region (by rfl) ?_
  intro hQ
  refine JL.loadOwn 0 az_25 rfl rfl rfl .none rfl ?_
  obtain ⟨y2, hy2, hF⟩ := bind_some hF
  refine JL.callS (c_law11_Far n H t t_v2 ht_2 t_v4 ht_4 y2 hy2) rfl en_12 .none rfl ?_
  refine JL.not rfl .none rfl ?_
  refine JL.move .none rfl ?_
  obtain ⟨p4, hp4, hF⟩ := bind_some hF
  refine JL.cut 4 (fun f => f 10 = .bool p4) ?_ ?_
  · intro hJ5
    rcases ite_some hp4 with ⟨hc6, hF⟩ | ⟨hc6, hF⟩
    · skip
      refine JL.loadOwn 0 az_25 rfl rfl rfl (.some rfl rfl rfl hc6) rfl ?_
      obtain ⟨y7, hy7, hF⟩ := bind_some hF
      refine JL.callS (c_ref11_Check n H t t_v2 ht_2 t_v4 ht_4 y7 hy7) rfl en_38 (.some rfl rfl rfl hc6) rfl ?_
      refine JL.bin rfl rfl rfl (.some rfl rfl rfl hc6) rfl ?_
      refine JL.pick_t (b := (!y2)) rfl hc6 .none rfl ?_
      obtain rfl := Option.some.inj hF
      exact hJ5 _ (rfl)
    · skip
      refine JL.skip (.bool rfl rfl rfl hc6) rfl ?_
      refine JL.skip (.bool rfl rfl rfl hc6) rfl ?_
      refine JL.skip (.bool rfl rfl rfl hc6) rfl ?_
      refine JL.pick_f (b := (!y2)) rfl hc6 .none rfl ?_
      obtain rfl := Option.some.inj hF
      exact hJ5 _ (rfl)
  · rintro f hf10
    refine (JL.norm (i := 10) hf10 ?_)
    refine JL.assign .none rfl ?_
    refine JL.done hQ ?_
    refine JQ.go ?_
    refine JC.ret ?_
    obtain rfl := Option.some.inj hF
    exact JQ.outS rfl (.tmp .nil) rfl

-- 22 ferrule/ferrulelaw11.isKnown
def F_law11_isKnown (n : Nat) (e : Int) : Option Bool :=
  some ((e == 0) || (e == 3))
set_option maxRecDepth 100000 in
set_option maxHeartbeats 40000000 in
theorem c_law11_isKnown (n : Nat) (H : Hp) (e : Int) (y : Bool) (hF : F_law11_isKnown n e = some y) : SC Try.prog 22 [.int .i64 e] (.bool y) H := by
  rw [F_law11_isKnown] at hF
  refine SC.of (N := 9) Try.func22 rfl rfl rfl fun w => ?_
  refine JC.seq ?_
  refine JC.region (by rfl) ?_
  intro hQ
  refine JL.assign .none rfl ?_
  refine JL.done hQ ?_
  refine JQ.go ?_
  refine JC.seq ?_
  refine JC.region (by rfl) ?_
  intro hQ
  refine JL.move .none rfl ?_
  refine JL.bin rfl rfl rfl .none rfl ?_
  refine JL.move .none rfl ?_
  refine JL.cut 3 (fun f => f 8 = .bool ((e == 0) || (e == 3))) ?_ ?_
  · intro hJ1
    rcases bcases (e == 0) with hc2 | hc2
    · skip
      refine JL.skip (.bool rfl rfl rfl hc2) rfl ?_
      refine JL.skip (.bool rfl rfl rfl hc2) rfl ?_
      refine JL.pick_t (b := (e == 0)) rfl hc2 .none rfl ?_
      exact hJ1 _ (or_t hc2 rfl)
    · skip
      refine JL.move (.some rfl rfl rfl hc2) rfl ?_
      refine JL.bin rfl rfl rfl (.some rfl rfl rfl hc2) rfl ?_
      refine JL.pick_f (b := (e == 0)) rfl hc2 .none rfl ?_
      exact hJ1 _ (or_f hc2 rfl)
  · rintro f hf8
    refine (JL.norm (i := 8) hf8 ?_)
    refine JL.assign .none rfl ?_
    refine JL.done hQ ?_
    refine JQ.go ?_
    refine JC.ret ?_
    obtain rfl := Option.some.inj hF
    exact JQ.outS rfl (.tmp .nil) rfl

-- 33 ferrule/ferrulelaw11.has
def F_law11_has_s1 (n : Nat) (l : List Int) (n_ : Int) : Int → Option (Int ⊕ (Bool ⊕ Unit))
  | i_50 => if decide (i_50 < (l.length : Int)) = true then ((geti l i_50).bind fun y55 => if (y55 == n_) = true then (some (Sum.inr (Sum.inl true))) else (some (Sum.inl (w64 (i_50 + 1))))) else (some (Sum.inr (Sum.inr ())))
def F_law11_has (n : Nat) (l : List Int) (n_ : Int) : Option Bool :=
  (loopO n (F_law11_has_s1 n l n_) 0).bind fun r31 => match r31 with | .inl o => some o | .inr _ => some false
set_option maxRecDepth 100000 in
set_option maxHeartbeats 40000000 in
theorem c_law11_has (n : Nat) (H : Hp) (l : List Int) (l_v0 : Value) (hl_0 : SL H 1 RInt l_v0 l) (n_ : Int) (y : Bool) (hF : F_law11_has n l n_ = some y) : SC Try.prog 33 [l_v0, .int .i64 n_] (.bool y) H := by
  rw [F_law11_has] at hF
  refine SC.of (N := 18) Try.func33 rfl rfl rfl fun w => ?_
  refine JC.seq ?_
  refine JC.region (by rfl) ?_
  intro hQ
  refine JL.assign .none rfl ?_
  refine JL.done hQ ?_
  refine JQ.go ?_
  refine JC.seq ?_
  refine JC.seq ?_
  refine JC.region (by rfl) ?_
  intro hQ
  refine JL.assign .none rfl ?_
  refine JL.done hQ ?_
  refine JQ.go ?_
  obtain ⟨r31, hlr31, hKr31⟩ := bind_some hF
  refine JC.join (fun (_ : Unit) H30 f bs gs => bs = [] ∧ gs = [] ∧ HSub H H30 ∧ Sum.inr () = r31) ?_ ?_
  · skip
    refine JC.block ?_
    refine JC.loop hlr31 (fun (i_50 : Int) H51 f bs gs => f 0 = l_v0 ∧ f 1 = .int .i64 n_ ∧ f 5 = .int .i64 i_50 ∧ bs = [] ∧ gs = [] ∧ HSub H H51) ⟨rfl, rfl, rfl, rfl, rfl, (HSub.refl _)⟩ ?_
    rintro i_50 x53 H51 f bs gs ⟨hf0, hf1, hf5, rfl, rfl, hs51⟩ hF hr52
    rw [F_law11_has_s1] at hF
    refine (JC.norm (i := 0) hf0 (JC.norm (i := 1) hf1 (JC.norm (i := 5) hf5 ?_)))
    refine JC.seq ?_
    refine JC.seq ?_
    refine JC.region (by rfl) ?_
    intro hQ
    refine JL.move .none rfl ?_
    refine JL.move .none rfl ?_
    refine JL.lenSL (R := RInt) ul_26 (SL.mono RInt.mono hs51 hl_0) .none rfl ?_
    refine JL.bin rfl rfl rfl .none rfl ?_
    refine JL.done hQ ?_
    refine JQ.go ?_
    rcases ite_some hF with ⟨hc54, hF⟩ | ⟨hc54, hF⟩
    · refine JC.cond_t (b := decide (i_50 < (l.length : Int))) rfl hc54 ?_
      refine JC.skip ?_
      refine JQ.go ?_
      refine JC.seq ?_
      refine JC.block ?_
      refine JC.seq ?_
      refine JC.region (by rfl) ?_
      intro hQ
      refine JL.move .none rfl ?_
      refine JL.move .none rfl ?_
      obtain ⟨y55, hy55, hF⟩ := bind_some hF
      refine JL.indexSL (R := RInt) sl_26 (SL.mono RInt.mono hs51 hl_0) rfl hy55 .none rfl ?_
      rintro b56 o57 cs58 hc59 - rfl
      refine JL.loadH 0 az_3 rfl hc59 rfl .none rfl ?_
      refine JL.move .none rfl ?_
      refine JL.bin rfl rfl rfl .none rfl ?_
      refine JL.done hQ ?_
      refine JQ.go ?_
      rcases ite_some hF with ⟨hc60, hF⟩ | ⟨hc60, hF⟩
      · refine JC.cond_t (b := (y55 == n_)) rfl hc60 ?_
        refine JC.seq ?_
        refine JC.region (by rfl) ?_
        intro hQ
        refine JL.assign .none rfl ?_
        refine JL.done hQ ?_
        refine JQ.go ?_
        refine JC.fresh (fun f => f 4 = .bool true) rfl ?_
        rintro f hf4
        refine (JC.norm (i := 4) hf4 ?_)
        refine JC.ret ?_
        refine JQ.ret_block ?_
        refine JQ.ret_then ?_
        refine JQ.ret_then ?_
        refine JQ.ret_block ?_
        refine JQ.ret_join ?_
        refine JQ.ret_then ?_
        obtain rfl := Option.some.inj hF
        have ehr52 := hr52 _ rfl
        subst ehr52
        have hF := hKr31
        try dsimp only at hF
        obtain rfl := Option.some.inj hF
        exact JQ.outS rfl (.tmp .nil) rfl
      · refine JC.cond_f (b := (y55 == n_)) rfl hc60 ?_
        refine JC.skip ?_
        refine JQ.normal_block ?_
        refine JQ.go ?_
        refine JC.region (by rfl) ?_
        intro hQ
        refine JL.move .none rfl ?_
        refine JL.bin rfl rfl rfl .none rfl ?_
        refine JL.assign .none rfl ?_
        refine JL.done hQ ?_
        obtain rfl := Option.some.inj hF
        exact JQ.next rfl ⟨rfl, rfl, rfl, rfl, rfl, hs51⟩
    · refine JC.cond_f (b := decide (i_50 < (l.length : Int))) rfl hc54 ?_
      refine JC.exit ?_
      refine JQ.exit_then ?_
      refine JQ.exit_then ?_
      refine JQ.exit_block ?_
      obtain rfl := Option.some.inj hF
      have ehr52 := hr52 _ rfl
      subst ehr52
      exact JQ.join () ⟨rfl, rfl, hs51, rfl⟩
  · rintro _ H30 f bs gs ⟨rfl, rfl, hs30, rfl⟩
    have hF := hKr31
    try dsimp only at hF
    refine JQ.go ?_
    refine JC.seq ?_
    refine JC.region (by rfl) ?_
    intro hQ
    refine JL.assign .none rfl ?_
    refine JL.done hQ ?_
    refine JQ.go ?_
    refine JC.ret ?_
    obtain rfl := Option.some.inj hF
    exact JQ.outS rfl (.tmp .nil) rfl

end Go.Proofs.Ytooankffknoomaa
