/-
  Printed by a program: functions of the translation as plain functions, and their contracts.
-/
import Derived.Test.YtooankffknoomaaGenK11
namespace Go.Proofs.Ytooankffknoomaa
open Go Go.RowKit Go.Dec
set_option linter.unusedVariables false
-- 8 ferrule/ferrulelaw11.RainsProof
def F_law11_RainsProof (n : Nat) (t : Tour) (route : List Int) : Option Bool :=
  (F_law11_ready n t).bind fun y2 => (if ((!y2) || (decide (20 < (route.length : Int)))) = true then (some true) else ((F_ref11_IsRoute n t route).bind fun y9 => some (!y9)) : Option Bool).bind fun p6 => if p6 = true then ((F_law11_works n).bind fun y11 => some y11) else ((F_rains_Best n t).bind fun y12 => (F_rains_Hopes n t).bind fun y13 => (F_rains_Route n t).bind fun y14 => (F_rains_Takes n t route).bind fun y17 => (F_law11_isKnown n y12.2).bind fun y19 => if ((((!y19) || (y13.2 != y12.2)) || (y14.2 != y12.2)) || (y17.2 != y12.2)) = true then (some false) else (if (y12.2 != 0) = true then ((F_law11_works n).bind fun y28 => some y28) else ((if decide (20 < (y14.1.length : Int)) = true then (some true) else ((F_ref11_IsRoute n t y14.1).bind fun y33 => some (!y33)) : Option Bool).bind fun p30 => if (((p30 || (decide (y12.1 < y17.1.Low))) || (decide (y13.1 < y17.1.High))) || (decide (y13.1 < y12.1))) = true then (some false) else ((F_rains_Takes n t y14.1).bind fun y41 => (if ((y41.2 == 0) && (y41.1.Low == y12.1)) = true then ((F_law11_works n).bind fun y49 => some y49) else (some false) : Option Bool).bind fun p46 => some p46))))
set_option maxRecDepth 100000 in
set_option maxHeartbeats 40000000 in
theorem c_law11_RainsProof (n : Nat) (H : Hp) (t : Tour) (t_v2 : Value) (ht_2 : SL H 3 R_Rain t_v2 t.Rains) (t_v4 : Value) (ht_4 : SL H 2 R_Fair t_v4 t.Fairs) (route : List Int) (route_v0 : Value) (hroute_0 : SL H 1 RInt route_v0 route) (y : Bool) (hF : F_law11_RainsProof n t route = some y) : SC Try.prog 8 [.agg [.int .i64 t.Days, .int .i64 t.Step, t_v2, .int .i64 t.Wrong, t_v4, .int .i64 t.Reach, .int .i64 t.Stock].toArray, route_v0] (.bool y) H := by
  rw [F_law11_RainsProof] at hF
  refine SC.of (N := 115) Try.func8 rfl rfl rfl fun w => ?_
  refine JC.seq ?_
  refine JC.region (by rfl) ?_
  intro hQ
  refine JL.box (cs := [.int .i64 t.Days, .int .i64 t.Step, t_v2, .int .i64 t.Wrong, t_v4, .int .i64 t.Reach, .int .i64 t.Stock]) rfl .none rfl ?_
  intro b1
  refine JL.assign .none rfl ?_
  refine JL.done hQ ?_
  refine JQ.go ?_
  refine JC.seq ?_
  refine JC.seq ?_
  refine JC.region (by rfl) ?_
  intro hQ
  refine JL.loadOwn 0 az_25 rfl rfl rfl .none rfl ?_
  obtain ⟨y2, hy2, hF⟩ := bind_some hF
  refine JL.callS (c_law11_ready n H t t_v2 ht_2 t_v4 ht_4 y2 hy2) rfl en_19 .none rfl ?_
  refine JL.not rfl .none rfl ?_
  refine JL.move .none rfl ?_
  refine JL.cut 4 (fun f => f 1 = route_v0 ∧ f 2 = .pointer (some ⟨b1, 0, none⟩) ∧ f 22 = .bool ((!y2) || (decide (20 < (route.length : Int))))) ?_ ?_
  · intro hJ3
    rcases bcases (!y2) with hc4 | hc4
    · skip
      refine JL.skip (.bool rfl rfl rfl hc4) rfl ?_
      refine JL.skip (.bool rfl rfl rfl hc4) rfl ?_
      refine JL.skip (.bool rfl rfl rfl hc4) rfl ?_
      refine JL.pick_t (b := (!y2)) rfl hc4 .none rfl ?_
      exact hJ3 _ ⟨rfl, rfl, or_t hc4 rfl⟩
    · skip
      refine JL.move (.some rfl rfl rfl hc4) rfl ?_
      refine JL.lenSL (R := RInt) ul_26 hroute_0 (.some rfl rfl rfl hc4) rfl ?_
      refine JL.bin rfl rfl rfl (.some rfl rfl rfl hc4) rfl ?_
      refine JL.pick_f (b := (!y2)) rfl hc4 .none rfl ?_
      exact hJ3 _ ⟨rfl, rfl, or_f hc4 rfl⟩
  · rintro f ⟨hf1, hf2, hf22⟩
    refine (JL.norm (i := 1) hf1 (JL.norm (i := 2) hf2 (JL.norm (i := 22) hf22 ?_)))
    refine JL.move .none rfl ?_
    obtain ⟨p6, hp6, hF⟩ := bind_some hF
    refine JL.cut 5 (fun f => f 1 = route_v0 ∧ f 2 = .pointer (some ⟨b1, 0, none⟩) ∧ f 28 = .bool p6) ?_ ?_
    · intro hJ7
      rcases ite_some hp6 with ⟨hc8, hF⟩ | ⟨hc8, hF⟩
      · skip
        refine JL.skip (.bool rfl rfl rfl hc8) rfl ?_
        refine JL.skip (.bool rfl rfl rfl hc8) rfl ?_
        refine JL.skip (.bool rfl rfl rfl hc8) rfl ?_
        refine JL.skip (.bool rfl rfl rfl hc8) rfl ?_
        refine JL.pick_t (b := ((!y2) || (decide (20 < (route.length : Int))))) rfl hc8 .none rfl ?_
        obtain rfl := Option.some.inj hF
        exact hJ7 _ ⟨rfl, rfl, rfl⟩
      · skip
        refine JL.loadOwn 0 az_25 rfl rfl rfl (.some rfl rfl rfl hc8) rfl ?_
        refine JL.move (.some rfl rfl rfl hc8) rfl ?_
        obtain ⟨y9, hy9, hF⟩ := bind_some hF
        refine JL.callS (c_ref11_IsRoute n H t t_v2 ht_2 t_v4 ht_4 route route_v0 hroute_0 y9 hy9) rfl en_20 (.some rfl rfl rfl hc8) rfl ?_
        refine JL.not rfl (.some rfl rfl rfl hc8) rfl ?_
        refine JL.pick_f (b := ((!y2) || (decide (20 < (route.length : Int))))) rfl hc8 .none rfl ?_
        obtain rfl := Option.some.inj hF
        exact hJ7 _ ⟨rfl, rfl, rfl⟩
    · rintro f ⟨hf1, hf2, hf28⟩
      refine (JL.norm (i := 1) hf1 (JL.norm (i := 2) hf2 (JL.norm (i := 28) hf28 ?_)))
      refine JL.done hQ ?_
      refine JQ.go ?_
      rcases ite_some hF with ⟨hc10, hF⟩ | ⟨hc10, hF⟩
      · refine JC.cond_t (b := p6) rfl hc10 ?_
        refine JC.seq ?_
        refine JC.region (by rfl) ?_
        intro hQ
        obtain ⟨y11, hy11, hF⟩ := bind_some hF
        refine JL.callS (c_law11_works n H y11 hy11) rfl en_13 .none rfl ?_
        refine JL.assign .none rfl ?_
        refine JL.done hQ ?_
        refine JQ.go ?_
        refine JC.ret ?_
        refine JQ.ret_then ?_
        obtain rfl := Option.some.inj hF
        exact JQ.outS rfl (.tmp .nil) rfl
      · refine JC.cond_f (b := p6) rfl hc10 ?_
        refine JC.skip ?_
        refine JQ.go ?_
        refine JC.seq ?_
        refine JC.region (by rfl) ?_
        intro hQ
        refine JL.loadOwn 0 az_25 rfl rfl rfl .none rfl ?_
        obtain ⟨y12, hy12, hF⟩ := bind_some hF
        refine JL.callS (c_rains_Best n H t t_v2 ht_2 t_v4 ht_4 y12 hy12) rfl en_23 .none rfl ?_
        refine JL.move .none rfl ?_
        refine JL.extract rfl rfl .none rfl ?_
        refine JL.extract rfl rfl .none rfl ?_
        refine JL.assign .none rfl ?_
        refine JL.assign .none rfl ?_
        refine JL.done hQ ?_
        refine JQ.go ?_
        refine JC.seq ?_
        refine JC.region (by rfl) ?_
        intro hQ
        refine JL.loadOwn 0 az_25 rfl rfl rfl .none rfl ?_
        obtain ⟨y13, hy13, hF⟩ := bind_some hF
        refine JL.callS (c_rains_Hopes n H t t_v2 ht_2 t_v4 ht_4 y13 hy13) rfl en_24 .none rfl ?_
        refine JL.move .none rfl ?_
        refine JL.extract rfl rfl .none rfl ?_
        refine JL.extract rfl rfl .none rfl ?_
        refine JL.assign .none rfl ?_
        refine JL.assign .none rfl ?_
        refine JL.done hQ ?_
        refine JQ.go ?_
        refine JC.fresh (fun f => f 1 = route_v0 ∧ f 2 = .pointer (some ⟨b1, 0, none⟩) ∧ f 5 = .int .i64 y12.1 ∧ f 6 = .int .i64 y12.2 ∧ f 7 = .int .i64 y13.1 ∧ f 8 = .int .i64 y13.2) ⟨rfl, rfl, rfl, rfl, rfl, rfl⟩ ?_
        rintro f ⟨hf1, hf2, hf5, hf6, hf7, hf8⟩
        refine (JC.norm (i := 1) hf1 (JC.norm (i := 2) hf2 (JC.norm (i := 5) hf5 (JC.norm (i := 6) hf6 (JC.norm (i := 7) hf7 (JC.norm (i := 8) hf8 ?_))))))
        refine JC.seq ?_
        refine JC.region (by rfl) ?_
        intro hQ
        refine JL.loadOwn 0 az_25 rfl rfl rfl .none rfl ?_
        obtain ⟨y14, hy14, hF⟩ := bind_some hF
        refine JL.callH (c_rains_Route n H t t_v2 ht_2 t_v4 ht_4 y14 hy14) rfl en_27 .none rfl ?_
        rintro H15 vv16 hs15 ⟨y14a_v0, rfl, hy14a_0⟩
        refine JL.move .none rfl ?_
        refine JL.extract rfl rfl .none rfl ?_
        refine JL.extract rfl rfl .none rfl ?_
        refine JL.assign .none rfl ?_
        refine JL.assign .none rfl ?_
        refine JL.done hQ ?_
        refine JQ.go ?_
        refine JC.seq ?_
        refine JC.region (by rfl) ?_
        intro hQ
        refine JL.loadOwn 0 az_25 rfl rfl rfl .none rfl ?_
        refine JL.move .none rfl ?_
        obtain ⟨y17, hy17, hF⟩ := bind_some hF
        refine JL.callS (c_rains_Takes n H15 t t_v2 (SL.mono R_Rain_mono hs15 ht_2) t_v4 (SL.mono R_Fair_mono hs15 ht_4) route route_v0 (SL.mono RInt.mono hs15 hroute_0) y17 hy17) rfl en_15 .none rfl ?_
        refine JL.move .none rfl ?_
        refine JL.extract rfl rfl .none rfl ?_
        refine JL.extract rfl rfl .none rfl ?_
        refine JL.alloc ze_31 .none rfl ?_
        intro b18
        refine JL.storeOwn 0 (cs := [.int .i64 y17.1.Low, .int .i64 y17.1.High]) az_31 rfl rfl rfl (one_cons rfl (one_cons rfl one_nil)) rfl rfl .none ?_
        refine JL.assign .none rfl ?_
        refine JL.done hQ ?_
        refine JQ.go ?_
        refine JC.fresh (fun f => f 2 = .pointer (some ⟨b1, 0, none⟩) ∧ f 5 = .int .i64 y12.1 ∧ f 6 = .int .i64 y12.2 ∧ f 7 = .int .i64 y13.1 ∧ f 8 = .int .i64 y13.2 ∧ f 9 = y14a_v0 ∧ f 10 = .int .i64 y14.2 ∧ f 11 = .pointer (some ⟨b18, 0, none⟩) ∧ f 12 = .int .i64 y17.2) ⟨rfl, rfl, rfl, rfl, rfl, rfl, rfl, rfl, rfl⟩ ?_
        rintro f ⟨hf2, hf5, hf6, hf7, hf8, hf9, hf10, hf11, hf12⟩
        refine (JC.norm (i := 2) hf2 (JC.norm (i := 5) hf5 (JC.norm (i := 6) hf6 (JC.norm (i := 7) hf7 (JC.norm (i := 8) hf8 (JC.norm (i := 9) hf9 (JC.norm (i := 10) hf10 (JC.norm (i := 11) hf11 (JC.norm (i := 12) hf12 ?_)))))))))
        refine JC.seq ?_
        refine JC.seq ?_
        refine JC.region (by rfl) ?_
        intro hQ
        refine JL.move .none rfl ?_
        obtain ⟨y19, hy19, hF⟩ := bind_some hF
        refine JL.callS (c_law11_isKnown n H15 y12.2 y19 hy19) rfl en_22 .none rfl ?_
        refine JL.not rfl .none rfl ?_
        refine JL.move .none rfl ?_
        refine JL.cut 4 (fun f => f 2 = .pointer (some ⟨b1, 0, none⟩) ∧ f 5 = .int .i64 y12.1 ∧ f 6 = .int .i64 y12.2 ∧ f 7 = .int .i64 y13.1 ∧ f 9 = y14a_v0 ∧ f 10 = .int .i64 y14.2 ∧ f 11 = .pointer (some ⟨b18, 0, none⟩) ∧ f 12 = .int .i64 y17.2 ∧ f 58 = .bool ((!y19) || (y13.2 != y12.2))) ?_ ?_
        · intro hJ20
          rcases bcases (!y19) with hc21 | hc21
          · skip
            refine JL.skip (.bool rfl rfl rfl hc21) rfl ?_
            refine JL.skip (.bool rfl rfl rfl hc21) rfl ?_
            refine JL.skip (.bool rfl rfl rfl hc21) rfl ?_
            refine JL.pick_t (b := (!y19)) rfl hc21 .none rfl ?_
            exact hJ20 _ ⟨rfl, rfl, rfl, rfl, rfl, rfl, rfl, rfl, or_t hc21 rfl⟩
          · skip
            refine JL.move (.some rfl rfl rfl hc21) rfl ?_
            refine JL.move (.some rfl rfl rfl hc21) rfl ?_
            refine JL.bin rfl rfl rfl (.some rfl rfl rfl hc21) rfl ?_
            refine JL.pick_f (b := (!y19)) rfl hc21 .none rfl ?_
            exact hJ20 _ ⟨rfl, rfl, rfl, rfl, rfl, rfl, rfl, rfl, or_f hc21 rfl⟩
        · rintro f ⟨hf2, hf5, hf6, hf7, hf9, hf10, hf11, hf12, hf58⟩
          refine (JL.norm (i := 2) hf2 (JL.norm (i := 5) hf5 (JL.norm (i := 6) hf6 (JL.norm (i := 7) hf7 (JL.norm (i := 9) hf9 (JL.norm (i := 10) hf10 (JL.norm (i := 11) hf11 (JL.norm (i := 12) hf12 (JL.norm (i := 58) hf58 ?_)))))))))
          refine JL.move .none rfl ?_
          refine JL.cut 4 (fun f => f 2 = .pointer (some ⟨b1, 0, none⟩) ∧ f 5 = .int .i64 y12.1 ∧ f 6 = .int .i64 y12.2 ∧ f 7 = .int .i64 y13.1 ∧ f 9 = y14a_v0 ∧ f 11 = .pointer (some ⟨b18, 0, none⟩) ∧ f 12 = .int .i64 y17.2 ∧ f 63 = .bool (((!y19) || (y13.2 != y12.2)) || (y14.2 != y12.2))) ?_ ?_
          · intro hJ22
            rcases bcases ((!y19) || (y13.2 != y12.2)) with hc23 | hc23
            · skip
              refine JL.skip (.bool rfl rfl rfl hc23) rfl ?_
              refine JL.skip (.bool rfl rfl rfl hc23) rfl ?_
              refine JL.skip (.bool rfl rfl rfl hc23) rfl ?_
              refine JL.pick_t (b := ((!y19) || (y13.2 != y12.2))) rfl hc23 .none rfl ?_
              exact hJ22 _ ⟨rfl, rfl, rfl, rfl, rfl, rfl, rfl, or_t hc23 rfl⟩
            · skip
              refine JL.move (.some rfl rfl rfl hc23) rfl ?_
              refine JL.move (.some rfl rfl rfl hc23) rfl ?_
              refine JL.bin rfl rfl rfl (.some rfl rfl rfl hc23) rfl ?_
              refine JL.pick_f (b := ((!y19) || (y13.2 != y12.2))) rfl hc23 .none rfl ?_
              exact hJ22 _ ⟨rfl, rfl, rfl, rfl, rfl, rfl, rfl, or_f hc23 rfl⟩
          · rintro f ⟨hf2, hf5, hf6, hf7, hf9, hf11, hf12, hf63⟩
            refine (JL.norm (i := 2) hf2 (JL.norm (i := 5) hf5 (JL.norm (i := 6) hf6 (JL.norm (i := 7) hf7 (JL.norm (i := 9) hf9 (JL.norm (i := 11) hf11 (JL.norm (i := 12) hf12 (JL.norm (i := 63) hf63 ?_))))))))
            refine JL.move .none rfl ?_
            refine JL.cut 4 (fun f => f 2 = .pointer (some ⟨b1, 0, none⟩) ∧ f 5 = .int .i64 y12.1 ∧ f 6 = .int .i64 y12.2 ∧ f 7 = .int .i64 y13.1 ∧ f 9 = y14a_v0 ∧ f 11 = .pointer (some ⟨b18, 0, none⟩) ∧ f 68 = .bool ((((!y19) || (y13.2 != y12.2)) || (y14.2 != y12.2)) || (y17.2 != y12.2))) ?_ ?_
            · intro hJ24
              rcases bcases (((!y19) || (y13.2 != y12.2)) || (y14.2 != y12.2)) with hc25 | hc25
              · skip
                refine JL.skip (.bool rfl rfl rfl hc25) rfl ?_
                refine JL.skip (.bool rfl rfl rfl hc25) rfl ?_
                refine JL.skip (.bool rfl rfl rfl hc25) rfl ?_
                refine JL.pick_t (b := (((!y19) || (y13.2 != y12.2)) || (y14.2 != y12.2))) rfl hc25 .none rfl ?_
                exact hJ24 _ ⟨rfl, rfl, rfl, rfl, rfl, rfl, or_t hc25 rfl⟩
              · skip
                refine JL.move (.some rfl rfl rfl hc25) rfl ?_
                refine JL.move (.some rfl rfl rfl hc25) rfl ?_
                refine JL.bin rfl rfl rfl (.some rfl rfl rfl hc25) rfl ?_
                refine JL.pick_f (b := (((!y19) || (y13.2 != y12.2)) || (y14.2 != y12.2))) rfl hc25 .none rfl ?_
                exact hJ24 _ ⟨rfl, rfl, rfl, rfl, rfl, rfl, or_f hc25 rfl⟩
            · rintro f ⟨hf2, hf5, hf6, hf7, hf9, hf11, hf68⟩
              refine (JL.norm (i := 2) hf2 (JL.norm (i := 5) hf5 (JL.norm (i := 6) hf6 (JL.norm (i := 7) hf7 (JL.norm (i := 9) hf9 (JL.norm (i := 11) hf11 (JL.norm (i := 68) hf68 ?_)))))))
              refine JL.done hQ ?_
              refine JQ.go ?_
              rcases ite_some hF with ⟨hc26, hF⟩ | ⟨hc26, hF⟩
              · refine JC.cond_t (b := ((((!y19) || (y13.2 != y12.2)) || (y14.2 != y12.2)) || (y17.2 != y12.2))) rfl hc26 ?_
                refine JC.seq ?_
                refine JC.region (by rfl) ?_
                intro hQ
                refine JL.assign .none rfl ?_
                refine JL.done hQ ?_
                refine JQ.go ?_
                refine JC.ret ?_
                refine JQ.ret_then ?_
                obtain rfl := Option.some.inj hF
                exact JQ.outS rfl (.tmp .nil) rfl
              · refine JC.cond_f (b := ((((!y19) || (y13.2 != y12.2)) || (y14.2 != y12.2)) || (y17.2 != y12.2))) rfl hc26 ?_
                refine JC.skip ?_
                refine JQ.go ?_
                refine JC.seq ?_
                refine JC.seq ?_
                refine JC.region (by rfl) ?_
                intro hQ
                refine JL.move .none rfl ?_
                refine JL.bin rfl rfl rfl .none rfl ?_
                refine JL.done hQ ?_
                refine JQ.go ?_
                rcases ite_some hF with ⟨hc27, hF⟩ | ⟨hc27, hF⟩
                · refine JC.cond_t (b := (y12.2 != 0)) rfl hc27 ?_
                  refine JC.seq ?_
                  refine JC.region (by rfl) ?_
                  intro hQ
                  obtain ⟨y28, hy28, hF⟩ := bind_some hF
                  refine JL.callS (c_law11_works n H15 y28 hy28) rfl en_13 .none rfl ?_
                  refine JL.assign .none rfl ?_
                  refine JL.done hQ ?_
                  refine JQ.go ?_
                  refine JC.ret ?_
                  refine JQ.ret_then ?_
                  obtain rfl := Option.some.inj hF
                  exact JQ.outS rfl (.tmp .nil) rfl
                · refine JC.cond_f (b := (y12.2 != 0)) rfl hc27 ?_
                  refine JC.skip ?_
                  refine JQ.go ?_
                  refine JC.seq ?_
                  refine JC.seq ?_
                  refine JC.region (by rfl) ?_
                  intro hQ
                  refine JL.move .none rfl ?_
                  refine JL.lenSL (R := RInt) ul_26 hy14a_0 .none rfl ?_
                  refine JL.bin rfl rfl rfl .none rfl ?_
                  refine JL.move .none rfl ?_
                  obtain ⟨p30, hp30, hF⟩ := bind_some hF
                  refine JL.cut 5 (fun f => f 2 = .pointer (some ⟨b1, 0, none⟩) ∧ f 5 = .int .i64 y12.1 ∧ f 7 = .int .i64 y13.1 ∧ f 9 = y14a_v0 ∧ f 11 = .pointer (some ⟨b18, 0, none⟩) ∧ f 80 = .bool p30) ?_ ?_
                  · intro hJ31
                    rcases ite_some hp30 with ⟨hc32, hF⟩ | ⟨hc32, hF⟩
                    · skip
                      refine JL.skip (.bool rfl rfl rfl hc32) rfl ?_
                      refine JL.skip (.bool rfl rfl rfl hc32) rfl ?_
                      refine JL.skip (.bool rfl rfl rfl hc32) rfl ?_
                      refine JL.skip (.bool rfl rfl rfl hc32) rfl ?_
                      refine JL.pick_t (b := decide (20 < (y14.1.length : Int))) rfl hc32 .none rfl ?_
                      obtain rfl := Option.some.inj hF
                      exact hJ31 _ ⟨rfl, rfl, rfl, rfl, rfl, rfl⟩
                    · skip
                      refine JL.loadOwn 1 az_25 rfl rfl rfl (.some rfl rfl rfl hc32) rfl ?_
                      refine JL.move (.some rfl rfl rfl hc32) rfl ?_
                      obtain ⟨y33, hy33, hF⟩ := bind_some hF
                      refine JL.callS (c_ref11_IsRoute n H15 t t_v2 (SL.mono R_Rain_mono hs15 ht_2) t_v4 (SL.mono R_Fair_mono hs15 ht_4) y14.1 y14a_v0 hy14a_0 y33 hy33) rfl en_20 (.some rfl rfl rfl hc32) rfl ?_
                      refine JL.not rfl (.some rfl rfl rfl hc32) rfl ?_
                      refine JL.pick_f (b := decide (20 < (y14.1.length : Int))) rfl hc32 .none rfl ?_
                      obtain rfl := Option.some.inj hF
                      exact hJ31 _ ⟨rfl, rfl, rfl, rfl, rfl, rfl⟩
                  · rintro f ⟨hf2, hf5, hf7, hf9, hf11, hf80⟩
                    refine (JL.norm (i := 2) hf2 (JL.norm (i := 5) hf5 (JL.norm (i := 7) hf7 (JL.norm (i := 9) hf9 (JL.norm (i := 11) hf11 (JL.norm (i := 80) hf80 ?_))))))
                    refine JL.move .none rfl ?_
                    refine JL.cut 5 (fun f => f 2 = .pointer (some ⟨b1, 0, none⟩) ∧ f 5 = .int .i64 y12.1 ∧ f 7 = .int .i64 y13.1 ∧ f 9 = y14a_v0 ∧ f 11 = .pointer (some ⟨b18, 0, none⟩) ∧ f 86 = .bool (p30 || (decide (y12.1 < y17.1.Low)))) ?_ ?_
                    · intro hJ34
                      rcases bcases p30 with hc35 | hc35
                      · skip
                        refine JL.skip (.bool rfl rfl rfl hc35) rfl ?_
                        refine JL.skip (.bool rfl rfl rfl hc35) rfl ?_
                        refine JL.skip (.bool rfl rfl rfl hc35) rfl ?_
                        refine JL.skip (.bool rfl rfl rfl hc35) rfl ?_
                        refine JL.pick_t (b := p30) rfl hc35 .none rfl ?_
                        exact hJ34 _ ⟨rfl, rfl, rfl, rfl, rfl, or_t hc35 rfl⟩
                      · skip
                        refine JL.fieldAddr fo_31_0 rfl (.some rfl rfl rfl hc35) rfl ?_
                        refine JL.loadOwn 0 az_3 rfl rfl rfl (.some rfl rfl rfl hc35) rfl ?_
                        refine JL.move (.some rfl rfl rfl hc35) rfl ?_
                        refine JL.bin rfl rfl rfl (.some rfl rfl rfl hc35) rfl ?_
                        refine JL.pick_f (b := p30) rfl hc35 .none rfl ?_
                        exact hJ34 _ ⟨rfl, rfl, rfl, rfl, rfl, or_f hc35 rfl⟩
                    · rintro f ⟨hf2, hf5, hf7, hf9, hf11, hf86⟩
                      refine (JL.norm (i := 2) hf2 (JL.norm (i := 5) hf5 (JL.norm (i := 7) hf7 (JL.norm (i := 9) hf9 (JL.norm (i := 11) hf11 (JL.norm (i := 86) hf86 ?_))))))
                      refine JL.move .none rfl ?_
                      refine JL.cut 5 (fun f => f 2 = .pointer (some ⟨b1, 0, none⟩) ∧ f 5 = .int .i64 y12.1 ∧ f 7 = .int .i64 y13.1 ∧ f 9 = y14a_v0 ∧ f 92 = .bool ((p30 || (decide (y12.1 < y17.1.Low))) || (decide (y13.1 < y17.1.High)))) ?_ ?_
                      · intro hJ36
                        rcases bcases (p30 || (decide (y12.1 < y17.1.Low))) with hc37 | hc37
                        · skip
                          refine JL.skip (.bool rfl rfl rfl hc37) rfl ?_
                          refine JL.skip (.bool rfl rfl rfl hc37) rfl ?_
                          refine JL.skip (.bool rfl rfl rfl hc37) rfl ?_
                          refine JL.skip (.bool rfl rfl rfl hc37) rfl ?_
                          refine JL.pick_t (b := (p30 || (decide (y12.1 < y17.1.Low)))) rfl hc37 .none rfl ?_
                          exact hJ36 _ ⟨rfl, rfl, rfl, rfl, or_t hc37 rfl⟩
                        · skip
                          refine JL.fieldAddr fo_31_1 rfl (.some rfl rfl rfl hc37) rfl ?_
                          refine JL.loadOwn 0 az_3 rfl rfl rfl (.some rfl rfl rfl hc37) rfl ?_
                          refine JL.move (.some rfl rfl rfl hc37) rfl ?_
                          refine JL.bin rfl rfl rfl (.some rfl rfl rfl hc37) rfl ?_
                          refine JL.pick_f (b := (p30 || (decide (y12.1 < y17.1.Low)))) rfl hc37 .none rfl ?_
                          exact hJ36 _ ⟨rfl, rfl, rfl, rfl, or_f hc37 rfl⟩
                      · rintro f ⟨hf2, hf5, hf7, hf9, hf92⟩
                        refine (JL.norm (i := 2) hf2 (JL.norm (i := 5) hf5 (JL.norm (i := 7) hf7 (JL.norm (i := 9) hf9 (JL.norm (i := 92) hf92 ?_)))))
                        refine JL.move .none rfl ?_
                        refine JL.cut 4 (fun f => f 2 = .pointer (some ⟨b1, 0, none⟩) ∧ f 5 = .int .i64 y12.1 ∧ f 9 = y14a_v0 ∧ f 97 = .bool (((p30 || (decide (y12.1 < y17.1.Low))) || (decide (y13.1 < y17.1.High))) || (decide (y13.1 < y12.1)))) ?_ ?_
                        · intro hJ38
                          rcases bcases ((p30 || (decide (y12.1 < y17.1.Low))) || (decide (y13.1 < y17.1.High))) with hc39 | hc39
                          · skip
                            refine JL.skip (.bool rfl rfl rfl hc39) rfl ?_
                            refine JL.skip (.bool rfl rfl rfl hc39) rfl ?_
                            refine JL.skip (.bool rfl rfl rfl hc39) rfl ?_
                            refine JL.pick_t (b := ((p30 || (decide (y12.1 < y17.1.Low))) || (decide (y13.1 < y17.1.High)))) rfl hc39 .none rfl ?_
                            exact hJ38 _ ⟨rfl, rfl, rfl, or_t hc39 rfl⟩
                          · skip
                            refine JL.move (.some rfl rfl rfl hc39) rfl ?_
                            refine JL.move (.some rfl rfl rfl hc39) rfl ?_
                            refine JL.bin rfl rfl rfl (.some rfl rfl rfl hc39) rfl ?_
                            refine JL.pick_f (b := ((p30 || (decide (y12.1 < y17.1.Low))) || (decide (y13.1 < y17.1.High)))) rfl hc39 .none rfl ?_
                            exact hJ38 _ ⟨rfl, rfl, rfl, or_f hc39 rfl⟩
                        · rintro f ⟨hf2, hf5, hf9, hf97⟩
                          refine (JL.norm (i := 2) hf2 (JL.norm (i := 5) hf5 (JL.norm (i := 9) hf9 (JL.norm (i := 97) hf97 ?_))))
                          refine JL.done hQ ?_
                          refine JQ.go ?_
                          rcases ite_some hF with ⟨hc40, hF⟩ | ⟨hc40, hF⟩
                          · refine JC.cond_t (b := (((p30 || (decide (y12.1 < y17.1.Low))) || (decide (y13.1 < y17.1.High))) || (decide (y13.1 < y12.1)))) rfl hc40 ?_
                            refine JC.seq ?_
                            refine JC.region (by rfl) ?_
                            intro hQ
                            refine JL.assign .none rfl ?_
                            refine JL.done hQ ?_
                            refine JQ.go ?_
                            refine JC.ret ?_
                            refine JQ.ret_then ?_
                            obtain rfl := Option.some.inj hF
                            exact JQ.outS rfl (.tmp .nil) rfl
                          · refine JC.cond_f (b := (((p30 || (decide (y12.1 < y17.1.Low))) || (decide (y13.1 < y17.1.High))) || (decide (y13.1 < y12.1)))) rfl hc40 ?_
                            refine JC.skip ?_
                            refine JQ.go ?_
                            refine JC.seq ?_
                            refine JC.region (by rfl) ?_
                            intro hQ
                            refine JL.loadOwn 1 az_25 rfl rfl rfl .none rfl ?_
                            refine JL.move .none rfl ?_
                            obtain ⟨y41, hy41, hF⟩ := bind_some hF
                            refine JL.callS (c_rains_Takes n H15 t t_v2 (SL.mono R_Rain_mono hs15 ht_2) t_v4 (SL.mono R_Fair_mono hs15 ht_4) y14.1 y14a_v0 hy14a_0 y41 hy41) rfl en_15 .none rfl ?_
                            refine JL.move .none rfl ?_
                            refine JL.extract rfl rfl .none rfl ?_
                            refine JL.extract rfl rfl .none rfl ?_
                            refine JL.alloc ze_31 .none rfl ?_
                            intro b42
                            refine JL.storeOwn 0 (cs := [.int .i64 y41.1.Low, .int .i64 y41.1.High]) az_31 rfl rfl rfl (one_cons rfl (one_cons rfl one_nil)) rfl rfl .none ?_
                            refine JL.assign .none rfl ?_
                            refine JL.done hQ ?_
                            refine JQ.go ?_
                            refine JC.seq ?_
                            refine JC.region (by rfl) ?_
                            intro hQ
                            refine JL.move .none rfl ?_
                            refine JL.bin rfl rfl rfl .none rfl ?_
                            refine JL.move .none rfl ?_
                            refine JL.cut 5 (fun f => f 111 = .bool ((y41.2 == 0) && (y41.1.Low == y12.1))) ?_ ?_
                            · intro hJ43
                              rcases bcases (y41.2 == 0) with hc44 | hc44
                              · skip
                                refine JL.fieldAddr fo_31_0 rfl (.some rfl rfl rfl hc44) rfl ?_
                                refine JL.loadOwn 0 az_3 rfl rfl rfl (.some rfl rfl rfl hc44) rfl ?_
                                refine JL.move (.some rfl rfl rfl hc44) rfl ?_
                                refine JL.bin rfl rfl rfl (.some rfl rfl rfl hc44) rfl ?_
                                refine JL.pick_t (b := (y41.2 == 0)) rfl hc44 .none rfl ?_
                                exact hJ43 _ (and_t hc44 rfl)
                              · skip
                                refine JL.skip (.bool rfl rfl rfl hc44) rfl ?_
                                refine JL.skip (.bool rfl rfl rfl hc44) rfl ?_
                                refine JL.skip (.bool rfl rfl rfl hc44) rfl ?_
                                refine JL.skip (.bool rfl rfl rfl hc44) rfl ?_
                                refine JL.pick_f (b := (y41.2 == 0)) rfl hc44 .none rfl ?_
                                exact hJ43 _ (and_f hc44 rfl)
                            · rintro f hf111
                              refine (JL.norm (i := 111) hf111 ?_)
                              refine JL.move .none rfl ?_
                              obtain ⟨p46, hp46, hF⟩ := bind_some hF
                              refine JL.cut 2 (fun f => f 114 = .bool p46) ?_ ?_
                              · intro hJ47
                                rcases ite_some hp46 with ⟨hc48, hF⟩ | ⟨hc48, hF⟩
                                · skip
                                  obtain ⟨y49, hy49, hF⟩ := bind_some hF
                                  refine JL.callS (c_law11_works n H15 y49 hy49) rfl en_13 (.some rfl rfl rfl hc48) rfl ?_
                                  refine JL.pick_t (b := ((y41.2 == 0) && (y41.1.Low == y12.1))) rfl hc48 .none rfl ?_
                                  obtain rfl := Option.some.inj hF
                                  exact hJ47 _ (rfl)
                                · skip
                                  refine JL.skip (.bool rfl rfl rfl hc48) rfl ?_
                                  refine JL.pick_f (b := ((y41.2 == 0) && (y41.1.Low == y12.1))) rfl hc48 .none rfl ?_
                                  obtain rfl := Option.some.inj hF
                                  exact hJ47 _ (rfl)
                              · rintro f hf114
                                refine (JL.norm (i := 114) hf114 ?_)
                                refine JL.assign .none rfl ?_
                                refine JL.done hQ ?_
                                refine JQ.go ?_
                                refine JC.ret ?_
                                obtain rfl := Option.some.inj hF
                                exact JQ.outS rfl (.tmp .nil) rfl

-- 28 ferrule/rains.Fewest
def F_rains_Fewest_s1 (n : Nat) (t : Tour) : Int → (List Int) → Option (Int ⊕ Unit)
  | z_24, x8 => (F_rains_wrong n t x8).bind fun y30 => some (Sum.inl (min z_24 y30))
def F_rains_Fewest (n : Nat) (t : Tour) : Option (Int × Int) :=
  (F_rains_Check n t).bind fun y2 => if (y2 != 0) = true then (some (0, y2)) else ((F_rains_levels n t).bind fun y5 => (I_rains_rows_1 n y5.1 y5.2.1 y5.2.2 (F_rains_Fewest_s1 n t) (t.Rains.length : Int)).bind fun r26 => match r26 with | .inl z_24 => some (z_24, 0) | .inr _ => none)
set_option maxRecDepth 100000 in
set_option maxHeartbeats 40000000 in
theorem c_rains_Fewest (n : Nat) (H : Hp) (t : Tour) (t_v2 : Value) (ht_2 : SL H 3 R_Rain t_v2 t.Rains) (t_v4 : Value) (ht_4 : SL H 2 R_Fair t_v4 t.Fairs) (y : Int × Int) (hF : F_rains_Fewest n t = some y) : SC Try.prog 28 [.agg [.int .i64 t.Days, .int .i64 t.Step, t_v2, .int .i64 t.Wrong, t_v4, .int .i64 t.Reach, .int .i64 t.Stock].toArray] (.tuple [.int .i64 y.1, .int .i64 y.2].toArray) H := by
  rw [F_rains_Fewest] at hF
  refine SC.ofM (N := 24) Try.func28 rfl rfl rfl fun w => ?_
  refine JC.seq ?_
  refine JC.region (by rfl) ?_
  intro hQ
  refine JL.box (cs := [.int .i64 t.Days, .int .i64 t.Step, t_v2, .int .i64 t.Wrong, t_v4, .int .i64 t.Reach, .int .i64 t.Stock]) rfl .none rfl ?_
  intro b1
  refine JL.assign .none rfl ?_
  refine JL.assign .none rfl ?_
  refine JL.done hQ ?_
  refine JQ.go ?_
  refine JC.seq ?_
  refine JC.seq ?_
  refine JC.region (by rfl) ?_
  intro hQ
  refine JL.loadOwn 0 az_25 rfl rfl rfl .none rfl ?_
  obtain ⟨y2, hy2, hF⟩ := bind_some hF
  refine JL.callS (c_rains_Check n H t t_v2 ht_2 t_v4 ht_4 y2 hy2) rfl en_37 .none rfl ?_
  refine JL.assign .none rfl ?_
  refine JL.done hQ ?_
  refine JQ.go ?_
  refine JC.seq ?_
  refine JC.region (by rfl) ?_
  intro hQ
  refine JL.move .none rfl ?_
  refine JL.bin rfl rfl rfl .none rfl ?_
  refine JL.done hQ ?_
  refine JQ.go ?_
  rcases ite_some hF with ⟨hc3, hF⟩ | ⟨hc3, hF⟩
  · refine JC.cond_t (b := (y2 != 0)) rfl hc3 ?_
    refine JC.seq ?_
    refine JC.region (by rfl) ?_
    intro hQ
    refine JL.move .none rfl ?_
    refine JL.assign .none rfl ?_
    refine JL.assign .none rfl ?_
    refine JL.done hQ ?_
    refine JQ.go ?_
    refine JC.ret ?_
    refine JQ.ret_then ?_
    obtain rfl := Option.some.inj hF
    exact JQ.outSM rfl .nil (.tmp (.tmp .nil)) rfl
  · refine JC.cond_f (b := (y2 != 0)) rfl hc3 ?_
    refine JC.skip ?_
    refine JQ.go ?_
    refine JC.seq ?_
    refine JC.region (by rfl) ?_
    intro hQ
    refine JL.fieldAddr fo_25_2 rfl .none rfl ?_
    refine JL.loadOwn 0 az_22 rfl rfl rfl .none rfl ?_
    refine JL.lenSL (R := R_Rain) ul_22 ht_2 .none rfl ?_
    refine JL.alloc ze_3 .none rfl ?_
    intro b4
    refine JL.storeOwn 0 (cs := [.int .i64 (t.Rains.length : Int)]) az_3 rfl rfl rfl (one_cons rfl one_nil) rfl rfl .none ?_
    refine JL.done hQ ?_
    refine JQ.go ?_
    refine JC.seq ?_
    refine JC.seq ?_
    refine JC.region (by rfl) ?_
    intro hQ
    refine JL.loadOwn 1 az_25 rfl rfl rfl .none rfl ?_
    obtain ⟨y5, hy5, hF⟩ := bind_some hF
    refine JL.callH (c_rains_levels n H t t_v2 ht_2 t_v4 ht_4 y5 hy5) rfl en_57 .none rfl ?_
    rintro H6 vv7 hs6 ⟨y5_b0, y5_b1, y5_b2, rfl, hy5_b0, hy5_b1, hy5_b2⟩
    refine JL.done hQ ?_
    refine JQ.go ?_
    refine JC.fresh (fun f => f 1 = .pointer (some ⟨b1, 0, none⟩) ∧ f 2 = .int .i64 0 ∧ f 3 = .int .i64 0 ∧ f 5 = .pointer (some ⟨b4, 0, none⟩) ∧ f 16 = .func (.func 82) #[] [.pointer (some ⟨y5_b0, 0, none⟩), .pointer (some ⟨y5_b1, 0, none⟩), .pointer (some ⟨y5_b2, 0, none⟩)].toArray) ⟨rfl, rfl, rfl, rfl, rfl⟩ ?_
    rintro f ⟨hf1, hf2, hf3, hf5, hf16⟩
    refine (JC.norm (i := 1) hf1 (JC.norm (i := 2) hf2 (JC.norm (i := 3) hf3 (JC.norm (i := 5) hf5 (JC.norm (i := 16) hf16 ?_)))))
    refine JC.block ?_
    obtain ⟨r26, hl27, hF⟩ := bind_some hF
    refine JC.rangeFunc (ρ := Unit) (V := (VRow 3)) (F := fun _ _ step s => I_rains_rows_1 n y5.1 y5.2.1 y5.2.2 step s) rfl en_82 (it_rains_rows_1 n H6 y5.1 y5_b0 hy5_b0 y5.2.1 y5_b1 hy5_b1 y5.2.2 y5_b2 hy5_b2) rfl hl27 (fun (z_24 : Int) H25 fr gs => fr = [(b4, .cells [.int .i64 z_24].toArray 3), (b1, .cells [.int .i64 t.Days, .int .i64 t.Step, t_v2, .int .i64 t.Wrong, t_v4, .int .i64 t.Reach, .int .i64 t.Stock].toArray 25)] ∧ gs = [] ∧ HSub H6 H25) (fun _ _ _ _ _ => False) ⟨rfl, rfl, (HSub.refl _)⟩ ?_ ?_ ?_
    · rintro l9 z_24 x8 y28 v10 own T11 H25 fr gs ⟨rfl, rfl, hs25⟩ hF ⟨b13, c14, rfl, rfl, hb15, hb16⟩ -
      rw [F_rains_Fewest_s1] at hF
      refine JC.region (by rfl) ?_
      intro hQ
      refine JL.assign .none rfl ?_
      refine JL.done hQ ?_
      refine JQ.assigned [(b4, .cells [.int .i64 z_24].toArray 3), (b1, .cells [.int .i64 t.Days, .int .i64 t.Step, t_v2, .int .i64 t.Wrong, t_v4, .int .i64 t.Reach, .int .i64 t.Stock].toArray 25), (b13, .cells (x8.map (Value.int .i64)).toArray 3)] (fun T12 => ?_)
      refine JC.block ?_
      obtain ⟨y30, hy30, hF⟩ := bind_some hF
      refine JC.mixed 5 6 #[false, false, false, false, false, false] [(b4, .cells [.int .i64 z_24].toArray 3), (b1, .cells [.int .i64 t.Days, .int .i64 t.Step, t_v2, .int .i64 t.Wrong, t_v4, .int .i64 t.Reach, .int .i64 t.Stock].toArray 25), (b13, .cells (x8.map (Value.int .i64)).toArray 3)] (by rfl) mo_ (by kernel_rfl) (by kernel_rfl) ?_
      intro hQ hE
      refine JA.take 0 (listed' := #[true, false, false, false, false, false]) hQ rfl (by kernel_rfl) (by kernel_rfl) (by kernel_rfl) (by kernel_rfl) (by kernel_rfl) hE (HSub.refl _) (.cons_cons _ (.cons_cons _ (.cons_cons _ (List.nil_sublist _)))) ?_
      refine JL.loadOwn 0 az_3 rfl rfl rfl .none rfl ?_
      refine JA.cont ?_
      refine JA.take 1 (listed' := #[true, true, false, false, false, false]) hQ rfl (by kernel_rfl) (by kernel_rfl) (by kernel_rfl) (by kernel_rfl) (by kernel_rfl) hE (HSub.refl _) (.cons_cons _ (.cons_cons _ (.cons_cons _ (List.nil_sublist _)))) ?_
      refine JL.loadOwn 1 az_25 rfl rfl rfl .none rfl ?_
      refine JA.cont ?_
      refine JA.take 2 (listed' := #[true, true, true, false, false, false]) hQ rfl (by kernel_rfl) (by kernel_rfl) (by kernel_rfl) (by kernel_rfl) (by kernel_rfl) hE (HSub.refl _) (.cons_cons _ (.cons_cons _ (.cons_cons _ (List.nil_sublist _)))) ?_
      refine JL.move .none rfl ?_
      refine JA.cont ?_
      refine JA.many [3] (by kernel_rfl) (by simp) (all_one ⟨_, #[true, true, true, true, false, false], rfl, (by kernel_rfl), ?_⟩)
      refine JL.callLS 2 rfl (fun hz => c_rains_wrong n _ t t_v2 (SL.mono R_Rain_mono hz (SL.mono R_Rain_mono (HSub.trans hs6 hs25) ht_2)) t_v4 (SL.mono R_Fair_mono hz (SL.mono R_Fair_mono (HSub.trans hs6 hs25) ht_4)) x8 (.slice (some ⟨b13, 0, none⟩) x8.length c14) (SL.lentRow hb15 hb16) y30 hy30) rfl en_58 .none rfl ?_
      refine JA.after hE (HSub.refl _) (.cons_cons _ (.cons_cons _ (.cons_cons _ (List.nil_sublist _)))) ?_
      refine JA.take 4 (listed' := #[true, true, true, true, true, false]) hQ rfl (by kernel_rfl) (by kernel_rfl) (by kernel_rfl) (by kernel_rfl) (by kernel_rfl) hE (HSub.refl _) (.cons_cons _ (.cons_cons _ (.cons_cons _ (List.nil_sublist _)))) ?_
      refine JL.min rfl rfl .none rfl ?_
      refine JA.cont ?_
      refine JA.many [5] (by kernel_rfl) (by simp) (all_one ⟨_, #[true, true, true, true, true, true], rfl, (by kernel_rfl), ?_⟩)
      refine JL.storeOwn 0 (cs := [.int .i64 (min z_24 y30)]) az_3 rfl rfl rfl (one_cons rfl one_nil) rfl rfl .none ?_
      refine JA.sink (by kernel_rfl) ?_
      refine JA.done hQ (by kernel_rfl) ?_
      refine JQ.normal_block ?_
      obtain rfl := Option.some.inj hF
      refine JQ.round rfl [(b4, .cells [.int .i64 (min z_24 y30)].toArray 3), (b1, .cells [.int .i64 t.Days, .int .i64 t.Step, t_v2, .int .i64 t.Wrong, t_v4, .int .i64 t.Reach, .int .i64 t.Stock].toArray 25)] (HSub.refl _) ?_
      exact ⟨rfl, rfl, hs25⟩
    · rintro D31 z_24 H25 fr gs rfl ⟨rfl, rfl, hs25⟩ -
      try dsimp only at hF
      refine JQ.normal_block ?_
      refine JQ.go ?_
      refine JC.seq ?_
      refine JC.region (by rfl) ?_
      intro hQ
      refine JL.loadOwn 0 az_3 rfl rfl rfl .none rfl ?_
      refine JL.assign .none rfl ?_
      refine JL.assign .none rfl ?_
      refine JL.done hQ ?_
      refine JQ.go ?_
      refine JC.ret ?_
      obtain rfl := Option.some.inj hF
      exact JQ.outSM rfl (.cons 2 rfl .nil) (.tmp (.tmp .nil)) rfl
    · rintro _ _ _ _ _ _ _ h; exact h.elim

-- 60 ferrule/ferruleref11.IsTruth
def F_ref11_IsTruth (n : Nat) (t : Tour) (levels : List Int) : Option Bool :=
  (F_ref11_isRow n levels t.Days 3 t.Step).bind fun y8 => (if y8 = true then ((F_ref11_Wrongs n t levels).bind fun y13 => some (decide (y13 ≤ t.Wrong))) else (some false) : Option Bool).bind fun p10 => some p10
set_option maxRecDepth 100000 in
set_option maxHeartbeats 40000000 in
theorem c_ref11_IsTruth (n : Nat) (H : Hp) (t : Tour) (t_v2 : Value) (ht_2 : SL H 3 R_Rain t_v2 t.Rains) (t_v4 : Value) (ht_4 : SL H 2 R_Fair t_v4 t.Fairs) (levels : List Int) (levels_v0 : Value) (hlevels_0 : SL H 1 RInt levels_v0 levels) (y : Bool) (hF : F_ref11_IsTruth n t levels = some y) : SC Try.prog 60 [.agg [.int .i64 t.Days, .int .i64 t.Step, t_v2, .int .i64 t.Wrong, t_v4, .int .i64 t.Reach, .int .i64 t.Stock].toArray, levels_v0] (.bool y) H := by
  rw [F_ref11_IsTruth] at hF
  refine SC.of (N := 19) Try.func60 rfl rfl rfl fun w => ?_
  refine JC.seq ?_
  refine JC.region (by rfl) ?_
  intro hQ
  refine JL.box (cs := [.int .i64 t.Days, .int .i64 t.Step, t_v2, .int .i64 t.Wrong, t_v4, .int .i64 t.Reach, .int .i64 t.Stock]) rfl .none rfl ?_
  intro b1
  refine JL.assign .none rfl ?_
  refine JL.done hQ ?_
  refine JQ.go ?_
  refine JC.seq ?_
  refine JC.draw (by rfl) mo_ (by kernel_rfl) ?_
  intro hQ
  refine JL.move .none rfl ?_
  refine JL.fieldAddr fo_25_0 rfl .none rfl ?_
  refine JL.loadOwn 0 az_3 rfl rfl rfl .none rfl ?_
  refine JL.fieldAddr fo_25_1 rfl .none rfl ?_
  refine JL.loadOwn 0 az_3 rfl rfl rfl .none rfl ?_
  obtain ⟨y8, hy8, hF⟩ := bind_some hF
  refine JL.callS (c_ref11_isRow n H levels levels_v0 hlevels_0 t.Days 3 t.Step y8 hy8) rfl en_52 .none rfl ?_
  refine JL.move .none rfl ?_
  obtain ⟨p10, hp10, hF⟩ := bind_some hF
  refine JL.cut 7 (fun f => f 18 = .bool p10) ?_ ?_
  · intro hJ11
    rcases ite_some hp10 with ⟨hc12, hF⟩ | ⟨hc12, hF⟩
    · skip
      refine JL.loadOwn 0 az_25 rfl rfl rfl (.some rfl rfl rfl hc12) rfl ?_
      refine JL.move (.some rfl rfl rfl hc12) rfl ?_
      obtain ⟨y13, hy13, hF⟩ := bind_some hF
      refine JL.callS (c_ref11_Wrongs n H t t_v2 ht_2 t_v4 ht_4 levels levels_v0 hlevels_0 y13 hy13) rfl en_69 (.some rfl rfl rfl hc12) rfl ?_
      refine JL.fieldAddr fo_25_3 rfl (.some rfl rfl rfl hc12) rfl ?_
      refine JL.loadOwn 0 az_3 rfl rfl rfl (.some rfl rfl rfl hc12) rfl ?_
      refine JL.bin rfl rfl rfl (.some rfl rfl rfl hc12) rfl ?_
      refine JL.pick_t (b := y8) rfl hc12 .none rfl ?_
      obtain rfl := Option.some.inj hF
      exact hJ11 _ (rfl)
    · skip
      refine JL.skip (.bool rfl rfl rfl hc12) rfl ?_
      refine JL.skip (.bool rfl rfl rfl hc12) rfl ?_
      refine JL.skip (.bool rfl rfl rfl hc12) rfl ?_
      refine JL.skip (.bool rfl rfl rfl hc12) rfl ?_
      refine JL.skip (.bool rfl rfl rfl hc12) rfl ?_
      refine JL.skip (.bool rfl rfl rfl hc12) rfl ?_
      refine JL.pick_f (b := y8) rfl hc12 .none rfl ?_
      obtain rfl := Option.some.inj hF
      exact hJ11 _ (rfl)
  · rintro f hf18
    refine (JL.norm (i := 18) hf18 ?_)
    refine JL.assign .none rfl ?_
    refine JL.doneQ hQ ?_
    refine JQ.go ?_
    refine JC.ret ?_
    obtain rfl := Option.some.inj hF
    exact JQ.outS rfl (.tmp .nil) rfl

-- 30 ferrule/ferrulelaw11.isTrip
def F_law11_isTrip (n : Nat) (t : Tour) (x_ : law11_Trip) : Option Bool :=
  (F_ref11_IsRoute n t x_.Route).bind fun y3 => (if y3 = true then ((F_ref11_IsTruth n t x_.Levels).bind fun y8 => some y8) else (some false) : Option Bool).bind fun p5 => some p5
set_option maxRecDepth 100000 in
set_option maxHeartbeats 40000000 in
theorem c_law11_isTrip (n : Nat) (H : Hp) (t : Tour) (t_v2 : Value) (ht_2 : SL H 3 R_Rain t_v2 t.Rains) (t_v4 : Value) (ht_4 : SL H 2 R_Fair t_v4 t.Fairs) (x_ : law11_Trip) (x__v0 : Value) (hx__0 : SL H 1 RInt x__v0 x_.Route) (x__v1 : Value) (hx__1 : SL H 1 RInt x__v1 x_.Levels) (y : Bool) (hF : F_law11_isTrip n t x_ = some y) : SC Try.prog 30 [.agg [.int .i64 t.Days, .int .i64 t.Step, t_v2, .int .i64 t.Wrong, t_v4, .int .i64 t.Reach, .int .i64 t.Stock].toArray, .agg [x__v0, x__v1].toArray] (.bool y) H := by
  rw [F_law11_isTrip] at hF
  refine SC.of (N := 15) Try.func30 rfl rfl rfl fun w => ?_
  refine JC.seq ?_
  refine JC.region (by rfl) ?_
  intro hQ
  refine JL.box (cs := [.int .i64 t.Days, .int .i64 t.Step, t_v2, .int .i64 t.Wrong, t_v4, .int .i64 t.Reach, .int .i64 t.Stock]) rfl .none rfl ?_
  intro b1
  refine JL.box (cs := [x__v0, x__v1]) rfl .none rfl ?_
  intro b2
  refine JL.assign .none rfl ?_
  refine JL.done hQ ?_
  refine JQ.go ?_
  refine JC.seq ?_
  refine JC.region (by rfl) ?_
  intro hQ
  refine JL.loadOwn 1 az_25 rfl rfl rfl .none rfl ?_
  refine JL.fieldAddr fo_50_0 rfl .none rfl ?_
  refine JL.loadOwn 0 az_26 rfl rfl rfl .none rfl ?_
  obtain ⟨y3, hy3, hF⟩ := bind_some hF
  refine JL.callS (c_ref11_IsRoute n H t t_v2 ht_2 t_v4 ht_4 x_.Route x__v0 hx__0 y3 hy3) rfl en_20 .none rfl ?_
  refine JL.move .none rfl ?_
  obtain ⟨p5, hp5, hF⟩ := bind_some hF
  refine JL.cut 5 (fun f => f 14 = .bool p5) ?_ ?_
  · intro hJ6
    rcases ite_some hp5 with ⟨hc7, hF⟩ | ⟨hc7, hF⟩
    · skip
      refine JL.loadOwn 1 az_25 rfl rfl rfl (.some rfl rfl rfl hc7) rfl ?_
      refine JL.fieldAddr fo_50_1 rfl (.some rfl rfl rfl hc7) rfl ?_
      refine JL.loadOwn 0 az_26 rfl rfl rfl (.some rfl rfl rfl hc7) rfl ?_
      obtain ⟨y8, hy8, hF⟩ := bind_some hF
      refine JL.callS (c_ref11_IsTruth n H t t_v2 ht_2 t_v4 ht_4 x_.Levels x__v1 hx__1 y8 hy8) rfl en_60 (.some rfl rfl rfl hc7) rfl ?_
      refine JL.pick_t (b := y3) rfl hc7 .none rfl ?_
      obtain rfl := Option.some.inj hF
      exact hJ6 _ (rfl)
    · skip
      refine JL.skip (.bool rfl rfl rfl hc7) rfl ?_
      refine JL.skip (.bool rfl rfl rfl hc7) rfl ?_
      refine JL.skip (.bool rfl rfl rfl hc7) rfl ?_
      refine JL.skip (.bool rfl rfl rfl hc7) rfl ?_
      refine JL.pick_f (b := y3) rfl hc7 .none rfl ?_
      obtain rfl := Option.some.inj hF
      exact hJ6 _ (rfl)
  · rintro f hf14
    refine (JL.norm (i := 14) hf14 ?_)
    refine JL.assign .none rfl ?_
    refine JL.done hQ ?_
    refine JQ.go ?_
    refine JC.ret ?_
    obtain rfl := Option.some.inj hF
    exact JQ.outS rfl (.tmp .nil) rfl

-- 34 ferrule/ferrulelaw11.in
def F_law11_in (n : Nat) (n_ : Int) (s : Span) : Option Bool :=
  some ((decide (s.Low ≤ n_)) && (decide (n_ ≤ s.High)))
set_option maxRecDepth 100000 in
set_option maxHeartbeats 40000000 in
theorem c_law11_in (n : Nat) (H : Hp) (n_ : Int) (s : Span) (y : Bool) (hF : F_law11_in n n_ s = some y) : SC Try.prog 34 [.int .i64 n_, .agg [.int .i64 s.Low, .int .i64 s.High].toArray] (.bool y) H := by
  rw [F_law11_in] at hF
  refine SC.of (N := 15) Try.func34 rfl rfl rfl fun w => ?_
  refine JC.seq ?_
  refine JC.region (by rfl) ?_
  intro hQ
  refine JL.box (cs := [.int .i64 s.Low, .int .i64 s.High]) rfl .none rfl ?_
  intro b1
  refine JL.assign .none rfl ?_
  refine JL.done hQ ?_
  refine JQ.go ?_
  refine JC.seq ?_
  refine JC.region (by rfl) ?_
  intro hQ
  refine JL.fieldAddr fo_31_0 rfl .none rfl ?_
  refine JL.loadOwn 0 az_3 rfl rfl rfl .none rfl ?_
  refine JL.move .none rfl ?_
  refine JL.bin rfl rfl rfl .none rfl ?_
  refine JL.move .none rfl ?_
  refine JL.cut 5 (fun f => f 14 = .bool ((decide (s.Low ≤ n_)) && (decide (n_ ≤ s.High)))) ?_ ?_
  · intro hJ2
    rcases bcases (decide (s.Low ≤ n_)) with hc3 | hc3
    · skip
      refine JL.move (.some rfl rfl rfl hc3) rfl ?_
      refine JL.fieldAddr fo_31_1 rfl (.some rfl rfl rfl hc3) rfl ?_
      refine JL.loadOwn 0 az_3 rfl rfl rfl (.some rfl rfl rfl hc3) rfl ?_
      refine JL.bin rfl rfl rfl (.some rfl rfl rfl hc3) rfl ?_
      refine JL.pick_t (b := decide (s.Low ≤ n_)) rfl hc3 .none rfl ?_
      exact hJ2 _ (and_t hc3 rfl)
    · skip
      refine JL.skip (.bool rfl rfl rfl hc3) rfl ?_
      refine JL.skip (.bool rfl rfl rfl hc3) rfl ?_
      refine JL.skip (.bool rfl rfl rfl hc3) rfl ?_
      refine JL.skip (.bool rfl rfl rfl hc3) rfl ?_
      refine JL.pick_f (b := decide (s.Low ≤ n_)) rfl hc3 .none rfl ?_
      exact hJ2 _ (and_f hc3 rfl)
  · rintro f hf14
    refine (JL.norm (i := 14) hf14 ?_)
    refine JL.assign .none rfl ?_
    refine JL.done hQ ?_
    refine JQ.go ?_
    refine JC.ret ?_
    obtain rfl := Option.some.inj hF
    exact JQ.outS rfl (.tmp .nil) rfl

end Go.Proofs.Ytooankffknoomaa
