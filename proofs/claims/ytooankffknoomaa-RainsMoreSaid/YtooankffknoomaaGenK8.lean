/-
  Printed by a program: functions of the translation as plain functions, and their contracts.
-/
import Derived.Test.YtooankffknoomaaGenK7
namespace Go.Proofs.Ytooankffknoomaa
open Go Go.RowKit Go.Dec
set_option linter.unusedVariables false
-- 21 ferrule/ferrulelaw11.inside
def F_law11_inside_s2 (n : Nat) (y438 : (List Int) × Int) (y441 : (List Int) × Int) : Int → Option (Int ⊕ ((Int ⊕ (Bool ⊕ Unit)) ⊕ Unit))
  | i_503 => if decide (i_503 < (y438.1.length : Int)) = true then ((geti y438.1 i_503).bind fun y508 => (F_law11_has n y441.1 y508).bind fun y513 => if (!y513) = true then (some (Sum.inr (Sum.inl (Sum.inr (Sum.inl false))))) else (some (Sum.inl (w64 (i_503 + 1))))) else (some (Sum.inr (Sum.inr ())))
def F_law11_inside_s1 (n : Nat) (a : Tour) (b : Tour) : Int → Option (Int ⊕ (Bool ⊕ Unit))
  | day_433 => if decide (day_433 < a.Days) = true then ((F_rains_Levels n a day_433).bind fun y438 => (F_rains_Levels n b day_433).bind fun y441 => if (((y438.2 != 0) || (y441.2 != 0)) || (decide ((y441.1.length : Int) < (y438.1.length : Int)))) = true then (some (Sum.inr (Sum.inl false))) else ((loopO n (F_law11_inside_s2 n y438 y441) 0).bind fun r482 => match r482 with | .inl o => some o | .inr _ => some (Sum.inl (w64 (day_433 + 1))))) else (some (Sum.inr (Sum.inr ())))
def F_law11_inside (n : Nat) (a : Tour) (b : Tour) (route : List Int) : Option Bool :=
  (F_rains_Many n a).bind fun y3 => (F_rains_Many n b).bind fun y4 => (F_law11_isKnown n y3.2).bind fun y5 => (if (!y5) = true then (some true) else ((F_law11_isKnown n y4.2).bind fun y10 => some (!y10)) : Option Bool).bind fun p7 => if ((p7 || (decide (y4.1 < y3.1))) || ((y3.2 == 0) && ((y4.2 != 0) || (decide (y3.1 < 1))))) = true then (some false) else (if (y3.2 != 0) = true then (some true) else ((loopO n (F_law11_inside_s1 n a b) 0).bind fun r272 => match r272 with | .inl o => some o | .inr _ => (F_rains_Takes n a route).bind fun y515 => (F_rains_Takes n b route).bind fun y517 => (F_rains_Left n a route).bind fun y519 => (F_rains_Left n b route).bind fun y521 => (F_rains_Best n a).bind fun y523 => (F_rains_Best n b).bind fun y524 => some (((((((((((y515.2 == 0) && (y517.2 == 0)) && (y519.2 == 0)) && (y521.2 == 0)) && (y523.2 == 0)) && (y524.2 == 0)) && (decide (y517.1.Low ≤ y515.1.Low))) && (decide (y515.1.High ≤ y517.1.High))) && (decide (y521.1.Low ≤ y519.1.Low))) && (decide (y519.1.High ≤ y521.1.High))) && (decide (y524.1 ≤ y523.1)))))
set_option maxRecDepth 100000 in
set_option maxHeartbeats 40000000 in
theorem c_law11_inside (n : Nat) (H : Hp) (a : Tour) (a_v2 : Value) (ha_2 : SL H 3 R_Rain a_v2 a.Rains) (a_v4 : Value) (ha_4 : SL H 2 R_Fair a_v4 a.Fairs) (b : Tour) (b_v2 : Value) (hb_2 : SL H 3 R_Rain b_v2 b.Rains) (b_v4 : Value) (hb_4 : SL H 2 R_Fair b_v4 b.Fairs) (route : List Int) (route_v0 : Value) (hroute_0 : SL H 1 RInt route_v0 route) (y : Bool) (hF : F_law11_inside n a b route = some y) : SC Try.prog 21 [.agg [.int .i64 a.Days, .int .i64 a.Step, a_v2, .int .i64 a.Wrong, a_v4, .int .i64 a.Reach, .int .i64 a.Stock].toArray, .agg [.int .i64 b.Days, .int .i64 b.Step, b_v2, .int .i64 b.Wrong, b_v4, .int .i64 b.Reach, .int .i64 b.Stock].toArray, route_v0] (.bool y) H := by
  rw [F_law11_inside] at hF
  refine SC.of (N := 199) Try.func21 rfl rfl rfl fun w => ?_
  refine JC.seq ?_
  refine JC.region (by rfl) ?_
  intro hQ
  refine JL.box (cs := [.int .i64 a.Days, .int .i64 a.Step, a_v2, .int .i64 a.Wrong, a_v4, .int .i64 a.Reach, .int .i64 a.Stock]) rfl .none rfl ?_
  intro b1
  refine JL.box (cs := [.int .i64 b.Days, .int .i64 b.Step, b_v2, .int .i64 b.Wrong, b_v4, .int .i64 b.Reach, .int .i64 b.Stock]) rfl .none rfl ?_
  intro b2
  refine JL.assign .none rfl ?_
  refine JL.done hQ ?_
  refine JQ.go ?_
  refine JC.seq ?_
  refine JC.region (by rfl) ?_
  intro hQ
  refine JL.loadOwn 1 az_25 rfl rfl rfl .none rfl ?_
  obtain ⟨y3, hy3, hF⟩ := bind_some hF
  refine JL.callS (c_rains_Many n H a a_v2 ha_2 a_v4 ha_4 y3 hy3) rfl en_29 .none rfl ?_
  refine JL.move .none rfl ?_
  refine JL.extract rfl rfl .none rfl ?_
  refine JL.extract rfl rfl .none rfl ?_
  refine JL.assign .none rfl ?_
  refine JL.assign .none rfl ?_
  refine JL.done hQ ?_
  refine JQ.go ?_
  refine JC.seq ?_
  refine JC.region (by rfl) ?_
  intro hQ
  refine JL.loadOwn 0 az_25 rfl rfl rfl .none rfl ?_
  obtain ⟨y4, hy4, hF⟩ := bind_some hF
  refine JL.callS (c_rains_Many n H b b_v2 hb_2 b_v4 hb_4 y4 hy4) rfl en_29 .none rfl ?_
  refine JL.move .none rfl ?_
  refine JL.extract rfl rfl .none rfl ?_
  refine JL.extract rfl rfl .none rfl ?_
  refine JL.assign .none rfl ?_
  refine JL.assign .none rfl ?_
  refine JL.done hQ ?_
  refine JQ.go ?_
  refine JC.fresh (fun f => f 2 = route_v0 ∧ f 3 = .pointer (some ⟨b1, 0, none⟩) ∧ f 4 = .pointer (some ⟨b2, 0, none⟩) ∧ f 6 = .bool false ∧ f 7 = .int .i64 y3.1 ∧ f 8 = .int .i64 y3.2 ∧ f 9 = .int .i64 y4.1 ∧ f 10 = .int .i64 y4.2) ⟨rfl, rfl, rfl, rfl, rfl, rfl, rfl, rfl⟩ ?_
  rintro f ⟨hf2, hf3, hf4, hf6, hf7, hf8, hf9, hf10⟩
  refine (JC.norm (i := 2) hf2 (JC.norm (i := 3) hf3 (JC.norm (i := 4) hf4 (JC.norm (i := 6) hf6 (JC.norm (i := 7) hf7 (JC.norm (i := 8) hf8 (JC.norm (i := 9) hf9 (JC.norm (i := 10) hf10 ?_))))))))
  refine JC.seq ?_
  refine JC.seq ?_
  refine JC.region (by rfl) ?_
  intro hQ
  refine JL.move .none rfl ?_
  obtain ⟨y5, hy5, hF⟩ := bind_some hF
  refine JL.callS (c_law11_isKnown n H y3.2 y5 hy5) rfl en_22 .none rfl ?_
  refine JL.not rfl .none rfl ?_
  refine JL.move .none rfl ?_
  obtain ⟨p7, hp7, hF⟩ := bind_some hF
  refine JL.cut 4 (fun f => f 2 = route_v0 ∧ f 3 = .pointer (some ⟨b1, 0, none⟩) ∧ f 4 = .pointer (some ⟨b2, 0, none⟩) ∧ f 7 = .int .i64 y3.1 ∧ f 8 = .int .i64 y3.2 ∧ f 9 = .int .i64 y4.1 ∧ f 10 = .int .i64 y4.2 ∧ f 46 = .bool p7) ?_ ?_
  · intro hJ8
    rcases ite_some hp7 with ⟨hc9, hF⟩ | ⟨hc9, hF⟩
    · skip
      refine JL.skip (.bool rfl rfl rfl hc9) rfl ?_
      refine JL.skip (.bool rfl rfl rfl hc9) rfl ?_
      refine JL.skip (.bool rfl rfl rfl hc9) rfl ?_
      refine JL.pick_t (b := (!y5)) rfl hc9 .none rfl ?_
      obtain rfl := Option.some.inj hF
      exact hJ8 _ ⟨rfl, rfl, rfl, rfl, rfl, rfl, rfl, rfl⟩
    · skip
      refine JL.move (.some rfl rfl rfl hc9) rfl ?_
      obtain ⟨y10, hy10, hF⟩ := bind_some hF
      refine JL.callS (c_law11_isKnown n H y4.2 y10 hy10) rfl en_22 (.some rfl rfl rfl hc9) rfl ?_
      refine JL.not rfl (.some rfl rfl rfl hc9) rfl ?_
      refine JL.pick_f (b := (!y5)) rfl hc9 .none rfl ?_
      obtain rfl := Option.some.inj hF
      exact hJ8 _ ⟨rfl, rfl, rfl, rfl, rfl, rfl, rfl, rfl⟩
  · rintro f ⟨hf2, hf3, hf4, hf7, hf8, hf9, hf10, hf46⟩
    refine (JL.norm (i := 2) hf2 (JL.norm (i := 3) hf3 (JL.norm (i := 4) hf4 (JL.norm (i := 7) hf7 (JL.norm (i := 8) hf8 (JL.norm (i := 9) hf9 (JL.norm (i := 10) hf10 (JL.norm (i := 46) hf46 ?_))))))))
    refine JL.move .none rfl ?_
    refine JL.cut 4 (fun f => f 2 = route_v0 ∧ f 3 = .pointer (some ⟨b1, 0, none⟩) ∧ f 4 = .pointer (some ⟨b2, 0, none⟩) ∧ f 7 = .int .i64 y3.1 ∧ f 8 = .int .i64 y3.2 ∧ f 10 = .int .i64 y4.2 ∧ f 51 = .bool (p7 || (decide (y4.1 < y3.1)))) ?_ ?_
    · intro hJ11
      rcases bcases p7 with hc12 | hc12
      · skip
        refine JL.skip (.bool rfl rfl rfl hc12) rfl ?_
        refine JL.skip (.bool rfl rfl rfl hc12) rfl ?_
        refine JL.skip (.bool rfl rfl rfl hc12) rfl ?_
        refine JL.pick_t (b := p7) rfl hc12 .none rfl ?_
        exact hJ11 _ ⟨rfl, rfl, rfl, rfl, rfl, rfl, or_t hc12 rfl⟩
      · skip
        refine JL.move (.some rfl rfl rfl hc12) rfl ?_
        refine JL.move (.some rfl rfl rfl hc12) rfl ?_
        refine JL.bin rfl rfl rfl (.some rfl rfl rfl hc12) rfl ?_
        refine JL.pick_f (b := p7) rfl hc12 .none rfl ?_
        exact hJ11 _ ⟨rfl, rfl, rfl, rfl, rfl, rfl, or_f hc12 rfl⟩
    · rintro f ⟨hf2, hf3, hf4, hf7, hf8, hf10, hf51⟩
      refine (JL.norm (i := 2) hf2 (JL.norm (i := 3) hf3 (JL.norm (i := 4) hf4 (JL.norm (i := 7) hf7 (JL.norm (i := 8) hf8 (JL.norm (i := 10) hf10 (JL.norm (i := 51) hf51 ?_)))))))
      refine JL.move .none rfl ?_
      refine JL.cut 11 (fun f => f 2 = route_v0 ∧ f 3 = .pointer (some ⟨b1, 0, none⟩) ∧ f 4 = .pointer (some ⟨b2, 0, none⟩) ∧ f 8 = .int .i64 y3.2 ∧ f 63 = .bool ((p7 || (decide (y4.1 < y3.1))) || ((y3.2 == 0) && ((y4.2 != 0) || (decide (y3.1 < 1)))))) ?_ ?_
      · intro hJ19
        rcases bcases (p7 || (decide (y4.1 < y3.1))) with hc20 | hc20
        · skip
          refine JL.skip (.bool rfl rfl rfl hc20) rfl ?_
          refine JL.skip (.bool rfl rfl rfl hc20) rfl ?_
          refine JL.skip (.bool rfl rfl rfl hc20) rfl ?_
          refine JL.skip (.no rfl rfl rfl) rfl ?_
          refine JL.skip (.no rfl rfl rfl) rfl ?_
          refine JL.skip (.no rfl rfl rfl) rfl ?_
          refine JL.skip (.no rfl rfl rfl) rfl ?_
          refine JL.skip (.no rfl rfl rfl) rfl ?_
          refine JL.skip (.no rfl rfl rfl) rfl ?_
          refine JL.skip (.bool rfl rfl rfl hc20) rfl ?_
          refine JL.pick_t (b := (p7 || (decide (y4.1 < y3.1)))) rfl hc20 .none rfl ?_
          exact hJ19 _ ⟨rfl, rfl, rfl, rfl, or_t hc20 rfl⟩
        · skip
          refine JL.move (.some rfl rfl rfl hc20) rfl ?_
          refine JL.bin rfl rfl rfl (.some rfl rfl rfl hc20) rfl ?_
          refine JL.move (.some rfl rfl rfl hc20) rfl ?_
          refine JL.cut 7 (fun f => f 2 = route_v0 ∧ f 3 = .pointer (some ⟨b1, 0, none⟩) ∧ f 4 = .pointer (some ⟨b2, 0, none⟩) ∧ f 8 = .int .i64 y3.2 ∧ f 52 = .bool (p7 || (decide (y4.1 < y3.1))) ∧ f 62 = .bool ((y3.2 == 0) && ((y4.2 != 0) || (decide (y3.1 < 1))))) ?_ ?_
          · intro hJ23
            rcases bcases (y3.2 == 0) with hc24 | hc24
            · skip
              refine JL.move (.some rfl rfl rfl hc24) rfl ?_
              refine JL.bin rfl rfl rfl (.some rfl rfl rfl hc24) rfl ?_
              refine JL.move (.some rfl rfl rfl hc24) rfl ?_
              refine JL.cut 3 (fun f => f 2 = route_v0 ∧ f 3 = .pointer (some ⟨b1, 0, none⟩) ∧ f 4 = .pointer (some ⟨b2, 0, none⟩) ∧ f 8 = .int .i64 y3.2 ∧ f 52 = .bool (p7 || (decide (y4.1 < y3.1))) ∧ f 55 = .bool (y3.2 == 0) ∧ f 61 = .bool ((y4.2 != 0) || (decide (y3.1 < 1)))) ?_ ?_
              · intro hJ25
                rcases bcases (y4.2 != 0) with hc26 | hc26
                · skip
                  refine JL.skip (.bool rfl rfl rfl hc26) rfl ?_
                  refine JL.skip (.bool rfl rfl rfl hc26) rfl ?_
                  refine JL.pick_t (b := (y4.2 != 0)) rfl hc26 (.some rfl rfl rfl hc24) rfl ?_
                  exact hJ25 _ ⟨rfl, rfl, rfl, rfl, rfl, rfl, or_t hc26 rfl⟩
                · skip
                  refine JL.move (.some rfl rfl rfl hc26) rfl ?_
                  refine JL.bin rfl rfl rfl (.some rfl rfl rfl hc26) rfl ?_
                  refine JL.pick_f (b := (y4.2 != 0)) rfl hc26 (.some rfl rfl rfl hc24) rfl ?_
                  exact hJ25 _ ⟨rfl, rfl, rfl, rfl, rfl, rfl, or_f hc26 rfl⟩
              · rintro f ⟨hf2, hf3, hf4, hf8, hf52, hf55, hf61⟩
                refine (JL.norm (i := 2) hf2 (JL.norm (i := 3) hf3 (JL.norm (i := 4) hf4 (JL.norm (i := 8) hf8 (JL.norm (i := 52) hf52 (JL.norm (i := 55) hf55 (JL.norm (i := 61) hf61 ?_)))))))
                refine JL.pick_t (b := (y3.2 == 0)) rfl hc24 (.some rfl rfl rfl hc20) rfl ?_
                exact hJ23 _ ⟨rfl, rfl, rfl, rfl, rfl, and_t hc24 rfl⟩
            · skip
              refine JL.skip (.bool rfl rfl rfl hc24) rfl ?_
              refine JL.skip (.bool rfl rfl rfl hc24) rfl ?_
              refine JL.skip (.bool rfl rfl rfl hc24) rfl ?_
              refine JL.skip (.no rfl rfl rfl) rfl ?_
              refine JL.skip (.no rfl rfl rfl) rfl ?_
              refine JL.skip (.bool rfl rfl rfl hc24) rfl ?_
              refine JL.pick_f (b := (y3.2 == 0)) rfl hc24 (.some rfl rfl rfl hc20) rfl ?_
              exact hJ23 _ ⟨rfl, rfl, rfl, rfl, rfl, and_f hc24 rfl⟩
          · rintro f ⟨hf2, hf3, hf4, hf8, hf52, hf62⟩
            refine (JL.norm (i := 2) hf2 (JL.norm (i := 3) hf3 (JL.norm (i := 4) hf4 (JL.norm (i := 8) hf8 (JL.norm (i := 52) hf52 (JL.norm (i := 62) hf62 ?_))))))
            refine JL.pick_f (b := (p7 || (decide (y4.1 < y3.1)))) rfl hc20 .none rfl ?_
            exact hJ19 _ ⟨rfl, rfl, rfl, rfl, or_f hc20 rfl⟩
      · rintro f ⟨hf2, hf3, hf4, hf8, hf63⟩
        refine (JL.norm (i := 2) hf2 (JL.norm (i := 3) hf3 (JL.norm (i := 4) hf4 (JL.norm (i := 8) hf8 (JL.norm (i := 63) hf63 ?_)))))
        refine JL.done hQ ?_
        refine JQ.go ?_
        rcases ite_some hF with ⟨hc27, hF⟩ | ⟨hc27, hF⟩
        · refine JC.cond_t (b := ((p7 || (decide (y4.1 < y3.1))) || ((y3.2 == 0) && ((y4.2 != 0) || (decide (y3.1 < 1)))))) rfl hc27 ?_
          refine JC.seq ?_
          refine JC.region (by rfl) ?_
          intro hQ
          refine JL.assign .none rfl ?_
          refine JL.done hQ ?_
          refine JQ.go ?_
          refine JC.ret ?_
          refine JQ.ret_then ?_
          obtain rfl := Option.some.inj hF
          exact JQ.outS rfl (.tmp .nil) rfl
        · refine JC.cond_f (b := ((p7 || (decide (y4.1 < y3.1))) || ((y3.2 == 0) && ((y4.2 != 0) || (decide (y3.1 < 1)))))) rfl hc27 ?_
          refine JC.skip ?_
          refine JQ.go ?_
          refine JC.seq ?_
          refine JC.seq ?_
          refine JC.region (by rfl) ?_
          intro hQ
          refine JL.move .none rfl ?_
          refine JL.bin rfl rfl rfl .none rfl ?_
          refine JL.done hQ ?_
          refine JQ.go ?_
          rcases ite_some hF with ⟨hc28, hF⟩ | ⟨hc28, hF⟩
          · refine JC.cond_t (b := (y3.2 != 0)) rfl hc28 ?_
            refine JC.seq ?_
            refine JC.region (by rfl) ?_
            intro hQ
            refine JL.assign .none rfl ?_
            refine JL.done hQ ?_
            refine JQ.go ?_
            refine JC.ret ?_
            refine JQ.ret_then ?_
            obtain rfl := Option.some.inj hF
            exact JQ.outS rfl (.tmp .nil) rfl
          · refine JC.cond_f (b := (y3.2 != 0)) rfl hc28 ?_
            refine JC.skip ?_
            refine JQ.go ?_
            refine JC.seq ?_
            refine JC.seq ?_
            refine JC.region (by rfl) ?_
            intro hQ
            refine JL.assign .none rfl ?_
            refine JL.done hQ ?_
            refine JQ.go ?_
            obtain ⟨r272, hlr272, hKr272⟩ := bind_some hF
            refine JC.join (fun (_ : Unit) H271 f bs gs => f 2 = route_v0 ∧ f 3 = .pointer (some ⟨b1, 0, none⟩) ∧ f 4 = .pointer (some ⟨b2, 0, none⟩) ∧ bs = [(b2, .cells [.int .i64 b.Days, .int .i64 b.Step, b_v2, .int .i64 b.Wrong, b_v4, .int .i64 b.Reach, .int .i64 b.Stock].toArray 25), (b1, .cells [.int .i64 a.Days, .int .i64 a.Step, a_v2, .int .i64 a.Wrong, a_v4, .int .i64 a.Reach, .int .i64 a.Stock].toArray 25)] ∧ gs = [] ∧ HSub H H271 ∧ Sum.inr () = r272) ?_ ?_
            · skip
              refine JC.block ?_
              refine JC.loop hlr272 (fun (day_433 : Int) H434 f bs gs => f 2 = route_v0 ∧ f 3 = .pointer (some ⟨b1, 0, none⟩) ∧ f 4 = .pointer (some ⟨b2, 0, none⟩) ∧ f 11 = .int .i64 day_433 ∧ bs = [(b2, .cells [.int .i64 b.Days, .int .i64 b.Step, b_v2, .int .i64 b.Wrong, b_v4, .int .i64 b.Reach, .int .i64 b.Stock].toArray 25), (b1, .cells [.int .i64 a.Days, .int .i64 a.Step, a_v2, .int .i64 a.Wrong, a_v4, .int .i64 a.Reach, .int .i64 a.Stock].toArray 25)] ∧ gs = [] ∧ HSub H H434) ⟨rfl, rfl, rfl, rfl, rfl, rfl, (HSub.refl _)⟩ ?_
              rintro day_433 x436 H434 f bs gs ⟨hf2, hf3, hf4, hf11, rfl, rfl, hs434⟩ hF hr435
              rw [F_law11_inside_s1] at hF
              refine (JC.norm (i := 2) hf2 (JC.norm (i := 3) hf3 (JC.norm (i := 4) hf4 (JC.norm (i := 11) hf11 ?_))))
              refine JC.seq ?_
              refine JC.seq ?_
              refine JC.region (by rfl) ?_
              intro hQ
              refine JL.move .none rfl ?_
              refine JL.fieldAddr fo_25_0 rfl .none rfl ?_
              refine JL.loadOwn 1 az_3 rfl rfl rfl .none rfl ?_
              refine JL.bin rfl rfl rfl .none rfl ?_
              refine JL.done hQ ?_
              refine JQ.go ?_
              rcases ite_some hF with ⟨hc437, hF⟩ | ⟨hc437, hF⟩
              · refine JC.cond_t (b := decide (day_433 < a.Days)) rfl hc437 ?_
                refine JC.skip ?_
                refine JQ.go ?_
                refine JC.seq ?_
                refine JC.block ?_
                refine JC.seq ?_
                refine JC.region (by rfl) ?_
                intro hQ
                refine JL.loadOwn 1 az_25 rfl rfl rfl .none rfl ?_
                refine JL.move .none rfl ?_
                obtain ⟨y438, hy438, hF⟩ := bind_some hF
                refine JL.callH (c_rains_Levels n H434 a a_v2 (SL.mono R_Rain_mono hs434 ha_2) a_v4 (SL.mono R_Fair_mono hs434 ha_4) day_433 y438 hy438) rfl en_31 .none rfl ?_
                rintro H439 vv440 hs439 ⟨y438a_v0, rfl, hy438a_0⟩
                refine JL.move .none rfl ?_
                refine JL.extract rfl rfl .none rfl ?_
                refine JL.extract rfl rfl .none rfl ?_
                refine JL.assign .none rfl ?_
                refine JL.assign .none rfl ?_
                refine JL.done hQ ?_
                refine JQ.go ?_
                refine JC.fresh (fun f => f 2 = route_v0 ∧ f 3 = .pointer (some ⟨b1, 0, none⟩) ∧ f 4 = .pointer (some ⟨b2, 0, none⟩) ∧ f 11 = .int .i64 day_433 ∧ f 12 = y438a_v0 ∧ f 13 = .int .i64 y438.2) ⟨rfl, rfl, rfl, rfl, rfl, rfl⟩ ?_
                rintro f ⟨hf2, hf3, hf4, hf11, hf12, hf13⟩
                refine (JC.norm (i := 2) hf2 (JC.norm (i := 3) hf3 (JC.norm (i := 4) hf4 (JC.norm (i := 11) hf11 (JC.norm (i := 12) hf12 (JC.norm (i := 13) hf13 ?_))))))
                refine JC.seq ?_
                refine JC.region (by rfl) ?_
                intro hQ
                refine JL.loadOwn 0 az_25 rfl rfl rfl .none rfl ?_
                refine JL.move .none rfl ?_
                obtain ⟨y441, hy441, hF⟩ := bind_some hF
                refine JL.callH (c_rains_Levels n H439 b b_v2 (SL.mono R_Rain_mono (HSub.trans hs434 hs439) hb_2) b_v4 (SL.mono R_Fair_mono (HSub.trans hs434 hs439) hb_4) day_433 y441 hy441) rfl en_31 .none rfl ?_
                rintro H442 vv443 hs442 ⟨y441a_v0, rfl, hy441a_0⟩
                refine JL.move .none rfl ?_
                refine JL.extract rfl rfl .none rfl ?_
                refine JL.extract rfl rfl .none rfl ?_
                refine JL.assign .none rfl ?_
                refine JL.assign .none rfl ?_
                refine JL.done hQ ?_
                refine JQ.go ?_
                refine JC.seq ?_
                refine JC.seq ?_
                refine JC.region (by rfl) ?_
                intro hQ
                refine JL.move .none rfl ?_
                refine JL.bin rfl rfl rfl .none rfl ?_
                refine JL.move .none rfl ?_
                refine JL.cut 3 (fun f => f 2 = route_v0 ∧ f 3 = .pointer (some ⟨b1, 0, none⟩) ∧ f 4 = .pointer (some ⟨b2, 0, none⟩) ∧ f 11 = .int .i64 day_433 ∧ f 12 = y438a_v0 ∧ f 14 = y441a_v0 ∧ f 89 = .bool ((y438.2 != 0) || (y441.2 != 0))) ?_ ?_
                · intro hJ444
                  rcases bcases (y438.2 != 0) with hc445 | hc445
                  · skip
                    refine JL.skip (.bool rfl rfl rfl hc445) rfl ?_
                    refine JL.skip (.bool rfl rfl rfl hc445) rfl ?_
                    refine JL.pick_t (b := (y438.2 != 0)) rfl hc445 .none rfl ?_
                    exact hJ444 _ ⟨rfl, rfl, rfl, rfl, rfl, rfl, or_t hc445 rfl⟩
                  · skip
                    refine JL.move (.some rfl rfl rfl hc445) rfl ?_
                    refine JL.bin rfl rfl rfl (.some rfl rfl rfl hc445) rfl ?_
                    refine JL.pick_f (b := (y438.2 != 0)) rfl hc445 .none rfl ?_
                    exact hJ444 _ ⟨rfl, rfl, rfl, rfl, rfl, rfl, or_f hc445 rfl⟩
                · rintro f ⟨hf2, hf3, hf4, hf11, hf12, hf14, hf89⟩
                  refine (JL.norm (i := 2) hf2 (JL.norm (i := 3) hf3 (JL.norm (i := 4) hf4 (JL.norm (i := 11) hf11 (JL.norm (i := 12) hf12 (JL.norm (i := 14) hf14 (JL.norm (i := 89) hf89 ?_)))))))
                  refine JL.move .none rfl ?_
                  refine JL.cut 6 (fun f => f 2 = route_v0 ∧ f 3 = .pointer (some ⟨b1, 0, none⟩) ∧ f 4 = .pointer (some ⟨b2, 0, none⟩) ∧ f 11 = .int .i64 day_433 ∧ f 12 = y438a_v0 ∧ f 14 = y441a_v0 ∧ f 96 = .bool (((y438.2 != 0) || (y441.2 != 0)) || (decide ((y441.1.length : Int) < (y438.1.length : Int))))) ?_ ?_
                  · intro hJ446
                    rcases bcases ((y438.2 != 0) || (y441.2 != 0)) with hc447 | hc447
                    · skip
                      refine JL.skip (.bool rfl rfl rfl hc447) rfl ?_
                      refine JL.skip (.bool rfl rfl rfl hc447) rfl ?_
                      refine JL.skip (.bool rfl rfl rfl hc447) rfl ?_
                      refine JL.skip (.bool rfl rfl rfl hc447) rfl ?_
                      refine JL.skip (.bool rfl rfl rfl hc447) rfl ?_
                      refine JL.pick_t (b := ((y438.2 != 0) || (y441.2 != 0))) rfl hc447 .none rfl ?_
                      exact hJ446 _ ⟨rfl, rfl, rfl, rfl, rfl, rfl, or_t hc447 rfl⟩
                    · skip
                      refine JL.move (.some rfl rfl rfl hc447) rfl ?_
                      refine JL.lenSL (R := RInt) ul_26 (SL.mono RInt.mono hs442 hy438a_0) (.some rfl rfl rfl hc447) rfl ?_
                      refine JL.move (.some rfl rfl rfl hc447) rfl ?_
                      refine JL.lenSL (R := RInt) ul_26 hy441a_0 (.some rfl rfl rfl hc447) rfl ?_
                      refine JL.bin rfl rfl rfl (.some rfl rfl rfl hc447) rfl ?_
                      refine JL.pick_f (b := ((y438.2 != 0) || (y441.2 != 0))) rfl hc447 .none rfl ?_
                      exact hJ446 _ ⟨rfl, rfl, rfl, rfl, rfl, rfl, or_f hc447 rfl⟩
                  · rintro f ⟨hf2, hf3, hf4, hf11, hf12, hf14, hf96⟩
                    refine (JL.norm (i := 2) hf2 (JL.norm (i := 3) hf3 (JL.norm (i := 4) hf4 (JL.norm (i := 11) hf11 (JL.norm (i := 12) hf12 (JL.norm (i := 14) hf14 (JL.norm (i := 96) hf96 ?_)))))))
                    refine JL.done hQ ?_
                    refine JQ.go ?_
                    rcases ite_some hF with ⟨hc448, hF⟩ | ⟨hc448, hF⟩
                    · refine JC.cond_t (b := (((y438.2 != 0) || (y441.2 != 0)) || (decide ((y441.1.length : Int) < (y438.1.length : Int))))) rfl hc448 ?_
                      refine JC.seq ?_
                      refine JC.region (by rfl) ?_
                      intro hQ
                      refine JL.assign .none rfl ?_
                      refine JL.done hQ ?_
                      refine JQ.go ?_
                      refine JC.ret ?_
                      refine JQ.ret_then ?_
                      refine JQ.ret_block ?_
                      refine JQ.ret_then ?_
                      refine JQ.ret_then ?_
                      refine JQ.ret_block ?_
                      refine JQ.ret_join ?_
                      refine JQ.ret_then ?_
                      obtain rfl := Option.some.inj hF
                      have ehr435 := hr435 _ rfl
                      subst ehr435
                      have hF := hKr272
                      try dsimp only at hF
                      obtain rfl := Option.some.inj hF
                      exact JQ.outS rfl (.tmp .nil) rfl
                    · refine JC.cond_f (b := (((y438.2 != 0) || (y441.2 != 0)) || (decide ((y441.1.length : Int) < (y438.1.length : Int))))) rfl hc448 ?_
                      refine JC.skip ?_
                      refine JQ.go ?_
                      refine JC.seq ?_
                      refine JC.region (by rfl) ?_
                      intro hQ
                      refine JL.assign .none rfl ?_
                      refine JL.done hQ ?_
                      refine JQ.go ?_
                      obtain ⟨r482, hlr482, hKr482⟩ := bind_some hF
                      refine JC.join (fun (_ : Unit) H481 f bs gs => f 2 = route_v0 ∧ f 3 = .pointer (some ⟨b1, 0, none⟩) ∧ f 4 = .pointer (some ⟨b2, 0, none⟩) ∧ f 11 = .int .i64 day_433 ∧ bs = [(b2, .cells [.int .i64 b.Days, .int .i64 b.Step, b_v2, .int .i64 b.Wrong, b_v4, .int .i64 b.Reach, .int .i64 b.Stock].toArray 25), (b1, .cells [.int .i64 a.Days, .int .i64 a.Step, a_v2, .int .i64 a.Wrong, a_v4, .int .i64 a.Reach, .int .i64 a.Stock].toArray 25)] ∧ gs = [] ∧ HSub H442 H481 ∧ Sum.inr () = r482) ?_ ?_
                      · skip
                        refine JC.block ?_
                        refine JC.loop hlr482 (fun (i_503 : Int) H504 f bs gs => f 2 = route_v0 ∧ f 3 = .pointer (some ⟨b1, 0, none⟩) ∧ f 4 = .pointer (some ⟨b2, 0, none⟩) ∧ f 11 = .int .i64 day_433 ∧ f 12 = y438a_v0 ∧ f 14 = y441a_v0 ∧ f 16 = .int .i64 i_503 ∧ bs = [(b2, .cells [.int .i64 b.Days, .int .i64 b.Step, b_v2, .int .i64 b.Wrong, b_v4, .int .i64 b.Reach, .int .i64 b.Stock].toArray 25), (b1, .cells [.int .i64 a.Days, .int .i64 a.Step, a_v2, .int .i64 a.Wrong, a_v4, .int .i64 a.Reach, .int .i64 a.Stock].toArray 25)] ∧ gs = [] ∧ HSub H442 H504) ⟨rfl, rfl, rfl, rfl, rfl, rfl, rfl, rfl, rfl, (HSub.refl _)⟩ ?_
                        rintro i_503 x506 H504 f bs gs ⟨hf2, hf3, hf4, hf11, hf12, hf14, hf16, rfl, rfl, hs504⟩ hF hr505
                        rw [F_law11_inside_s2] at hF
                        refine (JC.norm (i := 2) hf2 (JC.norm (i := 3) hf3 (JC.norm (i := 4) hf4 (JC.norm (i := 11) hf11 (JC.norm (i := 12) hf12 (JC.norm (i := 14) hf14 (JC.norm (i := 16) hf16 ?_)))))))
                        refine JC.seq ?_
                        refine JC.seq ?_
                        refine JC.region (by rfl) ?_
                        intro hQ
                        refine JL.move .none rfl ?_
                        refine JL.move .none rfl ?_
                        refine JL.lenSL (R := RInt) ul_26 (SL.mono RInt.mono (HSub.trans hs442 hs504) hy438a_0) .none rfl ?_
                        refine JL.bin rfl rfl rfl .none rfl ?_
                        refine JL.done hQ ?_
                        refine JQ.go ?_
                        rcases ite_some hF with ⟨hc507, hF⟩ | ⟨hc507, hF⟩
                        · refine JC.cond_t (b := decide (i_503 < (y438.1.length : Int))) rfl hc507 ?_
                          refine JC.skip ?_
                          refine JQ.go ?_
                          refine JC.seq ?_
                          refine JC.block ?_
                          refine JC.seq ?_
                          refine JC.region (by rfl) ?_
                          intro hQ
                          refine JL.move .none rfl ?_
                          refine JL.move .none rfl ?_
                          refine JL.move .none rfl ?_
                          obtain ⟨y508, hy508, hF⟩ := bind_some hF
                          refine JL.indexSL (R := RInt) sl_26 (SL.mono RInt.mono (HSub.trans hs442 hs504) hy438a_0) rfl hy508 .none rfl ?_
                          rintro b509 o510 cs511 hc512 - rfl
                          refine JL.loadH 0 az_3 rfl hc512 rfl .none rfl ?_
                          obtain ⟨y513, hy513, hF⟩ := bind_some hF
                          refine JL.callS (c_law11_has n H504 y441.1 y441a_v0 (SL.mono RInt.mono hs504 hy441a_0) y508 y513 hy513) rfl en_33 .none rfl ?_
                          refine JL.not rfl .none rfl ?_
                          refine JL.done hQ ?_
                          refine JQ.go ?_
                          refine JC.fresh (fun f => f 2 = route_v0 ∧ f 3 = .pointer (some ⟨b1, 0, none⟩) ∧ f 4 = .pointer (some ⟨b2, 0, none⟩) ∧ f 11 = .int .i64 day_433 ∧ f 12 = y438a_v0 ∧ f 14 = y441a_v0 ∧ f 16 = .int .i64 i_503 ∧ f 109 = .bool (!y513)) ⟨rfl, rfl, rfl, rfl, rfl, rfl, rfl, rfl⟩ ?_
                          rintro f ⟨hf2, hf3, hf4, hf11, hf12, hf14, hf16, hf109⟩
                          refine (JC.norm (i := 2) hf2 (JC.norm (i := 3) hf3 (JC.norm (i := 4) hf4 (JC.norm (i := 11) hf11 (JC.norm (i := 12) hf12 (JC.norm (i := 14) hf14 (JC.norm (i := 16) hf16 (JC.norm (i := 109) hf109 ?_))))))))
                          rcases ite_some hF with ⟨hc514, hF⟩ | ⟨hc514, hF⟩
                          · refine JC.cond_t (b := (!y513)) rfl hc514 ?_
                            refine JC.seq ?_
                            refine JC.region (by rfl) ?_
                            intro hQ
                            refine JL.assign .none rfl ?_
                            refine JL.done hQ ?_
                            refine JQ.go ?_
                            refine JC.ret ?_
                            refine JQ.ret_block ?_
                            refine JQ.ret_then ?_
                            refine JQ.ret_then ?_
                            refine JQ.ret_block ?_
                            refine JQ.ret_join ?_
                            refine JQ.ret_block ?_
                            refine JQ.ret_then ?_
                            refine JQ.ret_then ?_
                            refine JQ.ret_block ?_
                            refine JQ.ret_join ?_
                            refine JQ.ret_then ?_
                            obtain rfl := Option.some.inj hF
                            have ehr505 := hr505 _ rfl
                            subst ehr505
                            have hF := hKr482
                            try dsimp only at hF
                            obtain rfl := Option.some.inj hF
                            have ehr435 := hr435 _ rfl
                            subst ehr435
                            have hF := hKr272
                            try dsimp only at hF
                            obtain rfl := Option.some.inj hF
                            exact JQ.outS rfl (.tmp .nil) rfl
                          · refine JC.cond_f (b := (!y513)) rfl hc514 ?_
                            refine JC.skip ?_
                            refine JQ.normal_block ?_
                            refine JQ.go ?_
                            refine JC.region (by rfl) ?_
                            intro hQ
                            refine JL.move .none rfl ?_
                            refine JL.bin rfl rfl rfl .none rfl ?_
                            refine JL.assign .none rfl ?_
                            refine JL.done hQ ?_
                            obtain rfl := Option.some.inj hF
                            exact JQ.next rfl ⟨rfl, rfl, rfl, rfl, rfl, rfl, rfl, rfl, rfl, hs504⟩
                        · refine JC.cond_f (b := decide (i_503 < (y438.1.length : Int))) rfl hc507 ?_
                          refine JC.exit ?_
                          refine JQ.exit_then ?_
                          refine JQ.exit_then ?_
                          refine JQ.exit_block ?_
                          obtain rfl := Option.some.inj hF
                          have ehr505 := hr505 _ rfl
                          subst ehr505
                          exact JQ.join () ⟨rfl, rfl, rfl, rfl, rfl, rfl, hs504, rfl⟩
                      · rintro _ H481 f bs gs ⟨hf2, hf3, hf4, hf11, rfl, rfl, hs481, rfl⟩
                        have hF := hKr482
                        try dsimp only at hF
                        refine (JQ.norm (i := 2) hf2 (JQ.norm (i := 3) hf3 (JQ.norm (i := 4) hf4 (JQ.norm (i := 11) hf11 ?_))))
                        refine JQ.normal_block ?_
                        refine JQ.go ?_
                        refine JC.region (by rfl) ?_
                        intro hQ
                        refine JL.move .none rfl ?_
                        refine JL.bin rfl rfl rfl .none rfl ?_
                        refine JL.assign .none rfl ?_
                        refine JL.done hQ ?_
                        obtain rfl := Option.some.inj hF
                        exact JQ.next rfl ⟨rfl, rfl, rfl, rfl, rfl, rfl, (HSub.trans hs434 (HSub.trans hs439 (HSub.trans hs442 hs481)))⟩
              · refine JC.cond_f (b := decide (day_433 < a.Days)) rfl hc437 ?_
                refine JC.exit ?_
                refine JQ.exit_then ?_
                refine JQ.exit_then ?_
                refine JQ.exit_block ?_
                obtain rfl := Option.some.inj hF
                have ehr435 := hr435 _ rfl
                subst ehr435
                exact JQ.join () ⟨rfl, rfl, rfl, rfl, rfl, hs434, rfl⟩
            · rintro _ H271 f bs gs ⟨hf2, hf3, hf4, rfl, rfl, hs271, rfl⟩
              have hF := hKr272
              try dsimp only at hF
              refine (JQ.norm (i := 2) hf2 (JQ.norm (i := 3) hf3 (JQ.norm (i := 4) hf4 ?_)))
              refine JQ.go ?_
              refine JC.seq ?_
              refine JC.region (by rfl) ?_
              intro hQ
              refine JL.loadOwn 1 az_25 rfl rfl rfl .none rfl ?_
              refine JL.move .none rfl ?_
              obtain ⟨y515, hy515, hF⟩ := bind_some hF
              refine JL.callS (c_rains_Takes n H271 a a_v2 (SL.mono R_Rain_mono hs271 ha_2) a_v4 (SL.mono R_Fair_mono hs271 ha_4) route route_v0 (SL.mono RInt.mono hs271 hroute_0) y515 hy515) rfl en_15 .none rfl ?_
              refine JL.move .none rfl ?_
              refine JL.extract rfl rfl .none rfl ?_
              refine JL.extract rfl rfl .none rfl ?_
              refine JL.alloc ze_31 .none rfl ?_
              intro b516
              refine JL.storeOwn 0 (cs := [.int .i64 y515.1.Low, .int .i64 y515.1.High]) az_31 rfl rfl rfl (one_cons rfl (one_cons rfl one_nil)) rfl rfl .none ?_
              refine JL.assign .none rfl ?_
              refine JL.done hQ ?_
              refine JQ.go ?_
              refine JC.seq ?_
              refine JC.region (by rfl) ?_
              intro hQ
              refine JL.loadOwn 1 az_25 rfl rfl rfl .none rfl ?_
              refine JL.move .none rfl ?_
              obtain ⟨y517, hy517, hF⟩ := bind_some hF
              refine JL.callS (c_rains_Takes n H271 b b_v2 (SL.mono R_Rain_mono hs271 hb_2) b_v4 (SL.mono R_Fair_mono hs271 hb_4) route route_v0 (SL.mono RInt.mono hs271 hroute_0) y517 hy517) rfl en_15 .none rfl ?_
              refine JL.move .none rfl ?_
              refine JL.extract rfl rfl .none rfl ?_
              refine JL.extract rfl rfl .none rfl ?_
              refine JL.alloc ze_31 .none rfl ?_
              intro b518
              refine JL.storeOwn 0 (cs := [.int .i64 y517.1.Low, .int .i64 y517.1.High]) az_31 rfl rfl rfl (one_cons rfl (one_cons rfl one_nil)) rfl rfl .none ?_
              refine JL.assign .none rfl ?_
              refine JL.done hQ ?_
              refine JQ.go ?_
              refine JC.fresh (fun f => f 2 = route_v0 ∧ f 3 = .pointer (some ⟨b1, 0, none⟩) ∧ f 4 = .pointer (some ⟨b2, 0, none⟩) ∧ f 17 = .pointer (some ⟨b516, 0, none⟩) ∧ f 18 = .int .i64 y515.2 ∧ f 19 = .pointer (some ⟨b518, 0, none⟩) ∧ f 20 = .int .i64 y517.2) ⟨rfl, rfl, rfl, rfl, rfl, rfl, rfl⟩ ?_
              rintro f ⟨hf2, hf3, hf4, hf17, hf18, hf19, hf20⟩
              refine (JC.norm (i := 2) hf2 (JC.norm (i := 3) hf3 (JC.norm (i := 4) hf4 (JC.norm (i := 17) hf17 (JC.norm (i := 18) hf18 (JC.norm (i := 19) hf19 (JC.norm (i := 20) hf20 ?_)))))))
              refine JC.seq ?_
              refine JC.region (by rfl) ?_
              intro hQ
              refine JL.loadOwn 3 az_25 rfl rfl rfl .none rfl ?_
              refine JL.move .none rfl ?_
              obtain ⟨y519, hy519, hF⟩ := bind_some hF
              refine JL.callS (c_rains_Left n H271 a a_v2 (SL.mono R_Rain_mono hs271 ha_2) a_v4 (SL.mono R_Fair_mono hs271 ha_4) route route_v0 (SL.mono RInt.mono hs271 hroute_0) y519 hy519) rfl en_17 .none rfl ?_
              refine JL.move .none rfl ?_
              refine JL.extract rfl rfl .none rfl ?_
              refine JL.extract rfl rfl .none rfl ?_
              refine JL.alloc ze_31 .none rfl ?_
              intro b520
              refine JL.storeOwn 0 (cs := [.int .i64 y519.1.Low, .int .i64 y519.1.High]) az_31 rfl rfl rfl (one_cons rfl (one_cons rfl one_nil)) rfl rfl .none ?_
              refine JL.assign .none rfl ?_
              refine JL.done hQ ?_
              refine JQ.go ?_
              refine JC.seq ?_
              refine JC.region (by rfl) ?_
              intro hQ
              refine JL.loadOwn 3 az_25 rfl rfl rfl .none rfl ?_
              refine JL.move .none rfl ?_
              obtain ⟨y521, hy521, hF⟩ := bind_some hF
              refine JL.callS (c_rains_Left n H271 b b_v2 (SL.mono R_Rain_mono hs271 hb_2) b_v4 (SL.mono R_Fair_mono hs271 hb_4) route route_v0 (SL.mono RInt.mono hs271 hroute_0) y521 hy521) rfl en_17 .none rfl ?_
              refine JL.move .none rfl ?_
              refine JL.extract rfl rfl .none rfl ?_
              refine JL.extract rfl rfl .none rfl ?_
              refine JL.alloc ze_31 .none rfl ?_
              intro b522
              refine JL.storeOwn 0 (cs := [.int .i64 y521.1.Low, .int .i64 y521.1.High]) az_31 rfl rfl rfl (one_cons rfl (one_cons rfl one_nil)) rfl rfl .none ?_
              refine JL.assign .none rfl ?_
              refine JL.done hQ ?_
              refine JQ.go ?_
              refine JC.fresh (fun f => f 3 = .pointer (some ⟨b1, 0, none⟩) ∧ f 4 = .pointer (some ⟨b2, 0, none⟩) ∧ f 17 = .pointer (some ⟨b516, 0, none⟩) ∧ f 18 = .int .i64 y515.2 ∧ f 19 = .pointer (some ⟨b518, 0, none⟩) ∧ f 20 = .int .i64 y517.2 ∧ f 21 = .pointer (some ⟨b520, 0, none⟩) ∧ f 22 = .int .i64 y519.2 ∧ f 23 = .pointer (some ⟨b522, 0, none⟩) ∧ f 24 = .int .i64 y521.2) ⟨rfl, rfl, rfl, rfl, rfl, rfl, rfl, rfl, rfl, rfl⟩ ?_
              rintro f ⟨hf3, hf4, hf17, hf18, hf19, hf20, hf21, hf22, hf23, hf24⟩
              refine (JC.norm (i := 3) hf3 (JC.norm (i := 4) hf4 (JC.norm (i := 17) hf17 (JC.norm (i := 18) hf18 (JC.norm (i := 19) hf19 (JC.norm (i := 20) hf20 (JC.norm (i := 21) hf21 (JC.norm (i := 22) hf22 (JC.norm (i := 23) hf23 (JC.norm (i := 24) hf24 ?_))))))))))
              refine JC.seq ?_
              refine JC.region (by rfl) ?_
              intro hQ
              refine JL.loadOwn 5 az_25 rfl rfl rfl .none rfl ?_
              obtain ⟨y523, hy523, hF⟩ := bind_some hF
              refine JL.callS (c_rains_Best n H271 a a_v2 (SL.mono R_Rain_mono hs271 ha_2) a_v4 (SL.mono R_Fair_mono hs271 ha_4) y523 hy523) rfl en_23 .none rfl ?_
              refine JL.move .none rfl ?_
              refine JL.extract rfl rfl .none rfl ?_
              refine JL.extract rfl rfl .none rfl ?_
              refine JL.assign .none rfl ?_
              refine JL.assign .none rfl ?_
              refine JL.done hQ ?_
              refine JQ.go ?_
              refine JC.seq ?_
              refine JC.region (by rfl) ?_
              intro hQ
              refine JL.loadOwn 4 az_25 rfl rfl rfl .none rfl ?_
              obtain ⟨y524, hy524, hF⟩ := bind_some hF
              refine JL.callS (c_rains_Best n H271 b b_v2 (SL.mono R_Rain_mono hs271 hb_2) b_v4 (SL.mono R_Fair_mono hs271 hb_4) y524 hy524) rfl en_23 .none rfl ?_
              refine JL.move .none rfl ?_
              refine JL.extract rfl rfl .none rfl ?_
              refine JL.extract rfl rfl .none rfl ?_
              refine JL.assign .none rfl ?_
              refine JL.assign .none rfl ?_
              refine JL.done hQ ?_
              refine JQ.go ?_
              refine JC.fresh (fun f => f 17 = .pointer (some ⟨b516, 0, none⟩) ∧ f 18 = .int .i64 y515.2 ∧ f 19 = .pointer (some ⟨b518, 0, none⟩) ∧ f 20 = .int .i64 y517.2 ∧ f 21 = .pointer (some ⟨b520, 0, none⟩) ∧ f 22 = .int .i64 y519.2 ∧ f 23 = .pointer (some ⟨b522, 0, none⟩) ∧ f 24 = .int .i64 y521.2 ∧ f 25 = .int .i64 y523.1 ∧ f 26 = .int .i64 y523.2 ∧ f 27 = .int .i64 y524.1 ∧ f 28 = .int .i64 y524.2) ⟨rfl, rfl, rfl, rfl, rfl, rfl, rfl, rfl, rfl, rfl, rfl, rfl⟩ ?_
              rintro f ⟨hf17, hf18, hf19, hf20, hf21, hf22, hf23, hf24, hf25, hf26, hf27, hf28⟩
              refine (JC.norm (i := 17) hf17 (JC.norm (i := 18) hf18 (JC.norm (i := 19) hf19 (JC.norm (i := 20) hf20 (JC.norm (i := 21) hf21 (JC.norm (i := 22) hf22 (JC.norm (i := 23) hf23 (JC.norm (i := 24) hf24 (JC.norm (i := 25) hf25 (JC.norm (i := 26) hf26 (JC.norm (i := 27) hf27 (JC.norm (i := 28) hf28 ?_))))))))))))
              refine JC.seq ?_
              refine JC.region (by rfl) ?_
              intro hQ
              refine JL.move .none rfl ?_
              refine JL.bin rfl rfl rfl .none rfl ?_
              refine JL.move .none rfl ?_
              refine JL.cut 3 (fun f => f 17 = .pointer (some ⟨b516, 0, none⟩) ∧ f 19 = .pointer (some ⟨b518, 0, none⟩) ∧ f 21 = .pointer (some ⟨b520, 0, none⟩) ∧ f 22 = .int .i64 y519.2 ∧ f 23 = .pointer (some ⟨b522, 0, none⟩) ∧ f 24 = .int .i64 y521.2 ∧ f 25 = .int .i64 y523.1 ∧ f 26 = .int .i64 y523.2 ∧ f 27 = .int .i64 y524.1 ∧ f 28 = .int .i64 y524.2 ∧ f 149 = .bool ((y515.2 == 0) && (y517.2 == 0))) ?_ ?_
              · intro hJ525
                rcases bcases (y515.2 == 0) with hc526 | hc526
                · skip
                  refine JL.move (.some rfl rfl rfl hc526) rfl ?_
                  refine JL.bin rfl rfl rfl (.some rfl rfl rfl hc526) rfl ?_
                  refine JL.pick_t (b := (y515.2 == 0)) rfl hc526 .none rfl ?_
                  exact hJ525 _ ⟨rfl, rfl, rfl, rfl, rfl, rfl, rfl, rfl, rfl, rfl, and_t hc526 rfl⟩
                · skip
                  refine JL.skip (.bool rfl rfl rfl hc526) rfl ?_
                  refine JL.skip (.bool rfl rfl rfl hc526) rfl ?_
                  refine JL.pick_f (b := (y515.2 == 0)) rfl hc526 .none rfl ?_
                  exact hJ525 _ ⟨rfl, rfl, rfl, rfl, rfl, rfl, rfl, rfl, rfl, rfl, and_f hc526 rfl⟩
              · rintro f ⟨hf17, hf19, hf21, hf22, hf23, hf24, hf25, hf26, hf27, hf28, hf149⟩
                refine (JL.norm (i := 17) hf17 (JL.norm (i := 19) hf19 (JL.norm (i := 21) hf21 (JL.norm (i := 22) hf22 (JL.norm (i := 23) hf23 (JL.norm (i := 24) hf24 (JL.norm (i := 25) hf25 (JL.norm (i := 26) hf26 (JL.norm (i := 27) hf27 (JL.norm (i := 28) hf28 (JL.norm (i := 149) hf149 ?_)))))))))))
                refine JL.move .none rfl ?_
                refine JL.cut 3 (fun f => f 17 = .pointer (some ⟨b516, 0, none⟩) ∧ f 19 = .pointer (some ⟨b518, 0, none⟩) ∧ f 21 = .pointer (some ⟨b520, 0, none⟩) ∧ f 23 = .pointer (some ⟨b522, 0, none⟩) ∧ f 24 = .int .i64 y521.2 ∧ f 25 = .int .i64 y523.1 ∧ f 26 = .int .i64 y523.2 ∧ f 27 = .int .i64 y524.1 ∧ f 28 = .int .i64 y524.2 ∧ f 153 = .bool (((y515.2 == 0) && (y517.2 == 0)) && (y519.2 == 0))) ?_ ?_
                · intro hJ527
                  rcases bcases ((y515.2 == 0) && (y517.2 == 0)) with hc528 | hc528
                  · skip
                    refine JL.move (.some rfl rfl rfl hc528) rfl ?_
                    refine JL.bin rfl rfl rfl (.some rfl rfl rfl hc528) rfl ?_
                    refine JL.pick_t (b := ((y515.2 == 0) && (y517.2 == 0))) rfl hc528 .none rfl ?_
                    exact hJ527 _ ⟨rfl, rfl, rfl, rfl, rfl, rfl, rfl, rfl, rfl, and_t hc528 rfl⟩
                  · skip
                    refine JL.skip (.bool rfl rfl rfl hc528) rfl ?_
                    refine JL.skip (.bool rfl rfl rfl hc528) rfl ?_
                    refine JL.pick_f (b := ((y515.2 == 0) && (y517.2 == 0))) rfl hc528 .none rfl ?_
                    exact hJ527 _ ⟨rfl, rfl, rfl, rfl, rfl, rfl, rfl, rfl, rfl, and_f hc528 rfl⟩
                · rintro f ⟨hf17, hf19, hf21, hf23, hf24, hf25, hf26, hf27, hf28, hf153⟩
                  refine (JL.norm (i := 17) hf17 (JL.norm (i := 19) hf19 (JL.norm (i := 21) hf21 (JL.norm (i := 23) hf23 (JL.norm (i := 24) hf24 (JL.norm (i := 25) hf25 (JL.norm (i := 26) hf26 (JL.norm (i := 27) hf27 (JL.norm (i := 28) hf28 (JL.norm (i := 153) hf153 ?_))))))))))
                  refine JL.move .none rfl ?_
                  refine JL.cut 3 (fun f => f 17 = .pointer (some ⟨b516, 0, none⟩) ∧ f 19 = .pointer (some ⟨b518, 0, none⟩) ∧ f 21 = .pointer (some ⟨b520, 0, none⟩) ∧ f 23 = .pointer (some ⟨b522, 0, none⟩) ∧ f 25 = .int .i64 y523.1 ∧ f 26 = .int .i64 y523.2 ∧ f 27 = .int .i64 y524.1 ∧ f 28 = .int .i64 y524.2 ∧ f 157 = .bool ((((y515.2 == 0) && (y517.2 == 0)) && (y519.2 == 0)) && (y521.2 == 0))) ?_ ?_
                  · intro hJ529
                    rcases bcases (((y515.2 == 0) && (y517.2 == 0)) && (y519.2 == 0)) with hc530 | hc530
                    · skip
                      refine JL.move (.some rfl rfl rfl hc530) rfl ?_
                      refine JL.bin rfl rfl rfl (.some rfl rfl rfl hc530) rfl ?_
                      refine JL.pick_t (b := (((y515.2 == 0) && (y517.2 == 0)) && (y519.2 == 0))) rfl hc530 .none rfl ?_
                      exact hJ529 _ ⟨rfl, rfl, rfl, rfl, rfl, rfl, rfl, rfl, and_t hc530 rfl⟩
                    · skip
                      refine JL.skip (.bool rfl rfl rfl hc530) rfl ?_
                      refine JL.skip (.bool rfl rfl rfl hc530) rfl ?_
                      refine JL.pick_f (b := (((y515.2 == 0) && (y517.2 == 0)) && (y519.2 == 0))) rfl hc530 .none rfl ?_
                      exact hJ529 _ ⟨rfl, rfl, rfl, rfl, rfl, rfl, rfl, rfl, and_f hc530 rfl⟩
                  · rintro f ⟨hf17, hf19, hf21, hf23, hf25, hf26, hf27, hf28, hf157⟩
                    refine (JL.norm (i := 17) hf17 (JL.norm (i := 19) hf19 (JL.norm (i := 21) hf21 (JL.norm (i := 23) hf23 (JL.norm (i := 25) hf25 (JL.norm (i := 26) hf26 (JL.norm (i := 27) hf27 (JL.norm (i := 28) hf28 (JL.norm (i := 157) hf157 ?_)))))))))
                    refine JL.move .none rfl ?_
                    refine JL.cut 3 (fun f => f 17 = .pointer (some ⟨b516, 0, none⟩) ∧ f 19 = .pointer (some ⟨b518, 0, none⟩) ∧ f 21 = .pointer (some ⟨b520, 0, none⟩) ∧ f 23 = .pointer (some ⟨b522, 0, none⟩) ∧ f 25 = .int .i64 y523.1 ∧ f 27 = .int .i64 y524.1 ∧ f 28 = .int .i64 y524.2 ∧ f 161 = .bool (((((y515.2 == 0) && (y517.2 == 0)) && (y519.2 == 0)) && (y521.2 == 0)) && (y523.2 == 0))) ?_ ?_
                    · intro hJ531
                      rcases bcases ((((y515.2 == 0) && (y517.2 == 0)) && (y519.2 == 0)) && (y521.2 == 0)) with hc532 | hc532
                      · skip
                        refine JL.move (.some rfl rfl rfl hc532) rfl ?_
                        refine JL.bin rfl rfl rfl (.some rfl rfl rfl hc532) rfl ?_
                        refine JL.pick_t (b := ((((y515.2 == 0) && (y517.2 == 0)) && (y519.2 == 0)) && (y521.2 == 0))) rfl hc532 .none rfl ?_
                        exact hJ531 _ ⟨rfl, rfl, rfl, rfl, rfl, rfl, rfl, and_t hc532 rfl⟩
                      · skip
                        refine JL.skip (.bool rfl rfl rfl hc532) rfl ?_
                        refine JL.skip (.bool rfl rfl rfl hc532) rfl ?_
                        refine JL.pick_f (b := ((((y515.2 == 0) && (y517.2 == 0)) && (y519.2 == 0)) && (y521.2 == 0))) rfl hc532 .none rfl ?_
                        exact hJ531 _ ⟨rfl, rfl, rfl, rfl, rfl, rfl, rfl, and_f hc532 rfl⟩
                    · rintro f ⟨hf17, hf19, hf21, hf23, hf25, hf27, hf28, hf161⟩
                      refine (JL.norm (i := 17) hf17 (JL.norm (i := 19) hf19 (JL.norm (i := 21) hf21 (JL.norm (i := 23) hf23 (JL.norm (i := 25) hf25 (JL.norm (i := 27) hf27 (JL.norm (i := 28) hf28 (JL.norm (i := 161) hf161 ?_))))))))
                      refine JL.move .none rfl ?_
                      refine JL.cut 3 (fun f => f 17 = .pointer (some ⟨b516, 0, none⟩) ∧ f 19 = .pointer (some ⟨b518, 0, none⟩) ∧ f 21 = .pointer (some ⟨b520, 0, none⟩) ∧ f 23 = .pointer (some ⟨b522, 0, none⟩) ∧ f 25 = .int .i64 y523.1 ∧ f 27 = .int .i64 y524.1 ∧ f 165 = .bool ((((((y515.2 == 0) && (y517.2 == 0)) && (y519.2 == 0)) && (y521.2 == 0)) && (y523.2 == 0)) && (y524.2 == 0))) ?_ ?_
                      · intro hJ533
                        rcases bcases (((((y515.2 == 0) && (y517.2 == 0)) && (y519.2 == 0)) && (y521.2 == 0)) && (y523.2 == 0)) with hc534 | hc534
                        · skip
                          refine JL.move (.some rfl rfl rfl hc534) rfl ?_
                          refine JL.bin rfl rfl rfl (.some rfl rfl rfl hc534) rfl ?_
                          refine JL.pick_t (b := (((((y515.2 == 0) && (y517.2 == 0)) && (y519.2 == 0)) && (y521.2 == 0)) && (y523.2 == 0))) rfl hc534 .none rfl ?_
                          exact hJ533 _ ⟨rfl, rfl, rfl, rfl, rfl, rfl, and_t hc534 rfl⟩
                        · skip
                          refine JL.skip (.bool rfl rfl rfl hc534) rfl ?_
                          refine JL.skip (.bool rfl rfl rfl hc534) rfl ?_
                          refine JL.pick_f (b := (((((y515.2 == 0) && (y517.2 == 0)) && (y519.2 == 0)) && (y521.2 == 0)) && (y523.2 == 0))) rfl hc534 .none rfl ?_
                          exact hJ533 _ ⟨rfl, rfl, rfl, rfl, rfl, rfl, and_f hc534 rfl⟩
                      · rintro f ⟨hf17, hf19, hf21, hf23, hf25, hf27, hf165⟩
                        refine (JL.norm (i := 17) hf17 (JL.norm (i := 19) hf19 (JL.norm (i := 21) hf21 (JL.norm (i := 23) hf23 (JL.norm (i := 25) hf25 (JL.norm (i := 27) hf27 (JL.norm (i := 165) hf165 ?_)))))))
                        refine JL.move .none rfl ?_
                        refine JL.cut 6 (fun f => f 17 = .pointer (some ⟨b516, 0, none⟩) ∧ f 19 = .pointer (some ⟨b518, 0, none⟩) ∧ f 21 = .pointer (some ⟨b520, 0, none⟩) ∧ f 23 = .pointer (some ⟨b522, 0, none⟩) ∧ f 25 = .int .i64 y523.1 ∧ f 27 = .int .i64 y524.1 ∧ f 172 = .bool (((((((y515.2 == 0) && (y517.2 == 0)) && (y519.2 == 0)) && (y521.2 == 0)) && (y523.2 == 0)) && (y524.2 == 0)) && (decide (y517.1.Low ≤ y515.1.Low)))) ?_ ?_
                        · intro hJ535
                          rcases bcases ((((((y515.2 == 0) && (y517.2 == 0)) && (y519.2 == 0)) && (y521.2 == 0)) && (y523.2 == 0)) && (y524.2 == 0)) with hc536 | hc536
                          · skip
                            refine JL.fieldAddr fo_31_0 rfl (.some rfl rfl rfl hc536) rfl ?_
                            refine JL.loadOwn 2 az_3 rfl rfl rfl (.some rfl rfl rfl hc536) rfl ?_
                            refine JL.fieldAddr fo_31_0 rfl (.some rfl rfl rfl hc536) rfl ?_
                            refine JL.loadOwn 3 az_3 rfl rfl rfl (.some rfl rfl rfl hc536) rfl ?_
                            refine JL.bin rfl rfl rfl (.some rfl rfl rfl hc536) rfl ?_
                            refine JL.pick_t (b := ((((((y515.2 == 0) && (y517.2 == 0)) && (y519.2 == 0)) && (y521.2 == 0)) && (y523.2 == 0)) && (y524.2 == 0))) rfl hc536 .none rfl ?_
                            exact hJ535 _ ⟨rfl, rfl, rfl, rfl, rfl, rfl, and_t hc536 rfl⟩
                          · skip
                            refine JL.skip (.bool rfl rfl rfl hc536) rfl ?_
                            refine JL.skip (.bool rfl rfl rfl hc536) rfl ?_
                            refine JL.skip (.bool rfl rfl rfl hc536) rfl ?_
                            refine JL.skip (.bool rfl rfl rfl hc536) rfl ?_
                            refine JL.skip (.bool rfl rfl rfl hc536) rfl ?_
                            refine JL.pick_f (b := ((((((y515.2 == 0) && (y517.2 == 0)) && (y519.2 == 0)) && (y521.2 == 0)) && (y523.2 == 0)) && (y524.2 == 0))) rfl hc536 .none rfl ?_
                            exact hJ535 _ ⟨rfl, rfl, rfl, rfl, rfl, rfl, and_f hc536 rfl⟩
                        · rintro f ⟨hf17, hf19, hf21, hf23, hf25, hf27, hf172⟩
                          refine (JL.norm (i := 17) hf17 (JL.norm (i := 19) hf19 (JL.norm (i := 21) hf21 (JL.norm (i := 23) hf23 (JL.norm (i := 25) hf25 (JL.norm (i := 27) hf27 (JL.norm (i := 172) hf172 ?_)))))))
                          refine JL.move .none rfl ?_
                          refine JL.cut 6 (fun f => f 21 = .pointer (some ⟨b520, 0, none⟩) ∧ f 23 = .pointer (some ⟨b522, 0, none⟩) ∧ f 25 = .int .i64 y523.1 ∧ f 27 = .int .i64 y524.1 ∧ f 179 = .bool ((((((((y515.2 == 0) && (y517.2 == 0)) && (y519.2 == 0)) && (y521.2 == 0)) && (y523.2 == 0)) && (y524.2 == 0)) && (decide (y517.1.Low ≤ y515.1.Low))) && (decide (y515.1.High ≤ y517.1.High)))) ?_ ?_
                          · intro hJ537
                            rcases bcases (((((((y515.2 == 0) && (y517.2 == 0)) && (y519.2 == 0)) && (y521.2 == 0)) && (y523.2 == 0)) && (y524.2 == 0)) && (decide (y517.1.Low ≤ y515.1.Low))) with hc538 | hc538
                            · skip
                              refine JL.fieldAddr fo_31_1 rfl (.some rfl rfl rfl hc538) rfl ?_
                              refine JL.loadOwn 3 az_3 rfl rfl rfl (.some rfl rfl rfl hc538) rfl ?_
                              refine JL.fieldAddr fo_31_1 rfl (.some rfl rfl rfl hc538) rfl ?_
                              refine JL.loadOwn 2 az_3 rfl rfl rfl (.some rfl rfl rfl hc538) rfl ?_
                              refine JL.bin rfl rfl rfl (.some rfl rfl rfl hc538) rfl ?_
                              refine JL.pick_t (b := (((((((y515.2 == 0) && (y517.2 == 0)) && (y519.2 == 0)) && (y521.2 == 0)) && (y523.2 == 0)) && (y524.2 == 0)) && (decide (y517.1.Low ≤ y515.1.Low)))) rfl hc538 .none rfl ?_
                              exact hJ537 _ ⟨rfl, rfl, rfl, rfl, and_t hc538 rfl⟩
                            · skip
                              refine JL.skip (.bool rfl rfl rfl hc538) rfl ?_
                              refine JL.skip (.bool rfl rfl rfl hc538) rfl ?_
                              refine JL.skip (.bool rfl rfl rfl hc538) rfl ?_
                              refine JL.skip (.bool rfl rfl rfl hc538) rfl ?_
                              refine JL.skip (.bool rfl rfl rfl hc538) rfl ?_
                              refine JL.pick_f (b := (((((((y515.2 == 0) && (y517.2 == 0)) && (y519.2 == 0)) && (y521.2 == 0)) && (y523.2 == 0)) && (y524.2 == 0)) && (decide (y517.1.Low ≤ y515.1.Low)))) rfl hc538 .none rfl ?_
                              exact hJ537 _ ⟨rfl, rfl, rfl, rfl, and_f hc538 rfl⟩
                          · rintro f ⟨hf21, hf23, hf25, hf27, hf179⟩
                            refine (JL.norm (i := 21) hf21 (JL.norm (i := 23) hf23 (JL.norm (i := 25) hf25 (JL.norm (i := 27) hf27 (JL.norm (i := 179) hf179 ?_)))))
                            refine JL.move .none rfl ?_
                            refine JL.cut 6 (fun f => f 21 = .pointer (some ⟨b520, 0, none⟩) ∧ f 23 = .pointer (some ⟨b522, 0, none⟩) ∧ f 25 = .int .i64 y523.1 ∧ f 27 = .int .i64 y524.1 ∧ f 186 = .bool (((((((((y515.2 == 0) && (y517.2 == 0)) && (y519.2 == 0)) && (y521.2 == 0)) && (y523.2 == 0)) && (y524.2 == 0)) && (decide (y517.1.Low ≤ y515.1.Low))) && (decide (y515.1.High ≤ y517.1.High))) && (decide (y521.1.Low ≤ y519.1.Low)))) ?_ ?_
                            · intro hJ539
                              rcases bcases ((((((((y515.2 == 0) && (y517.2 == 0)) && (y519.2 == 0)) && (y521.2 == 0)) && (y523.2 == 0)) && (y524.2 == 0)) && (decide (y517.1.Low ≤ y515.1.Low))) && (decide (y515.1.High ≤ y517.1.High))) with hc540 | hc540
                              · skip
                                refine JL.fieldAddr fo_31_0 rfl (.some rfl rfl rfl hc540) rfl ?_
                                refine JL.loadOwn 0 az_3 rfl rfl rfl (.some rfl rfl rfl hc540) rfl ?_
                                refine JL.fieldAddr fo_31_0 rfl (.some rfl rfl rfl hc540) rfl ?_
                                refine JL.loadOwn 1 az_3 rfl rfl rfl (.some rfl rfl rfl hc540) rfl ?_
                                refine JL.bin rfl rfl rfl (.some rfl rfl rfl hc540) rfl ?_
                                refine JL.pick_t (b := ((((((((y515.2 == 0) && (y517.2 == 0)) && (y519.2 == 0)) && (y521.2 == 0)) && (y523.2 == 0)) && (y524.2 == 0)) && (decide (y517.1.Low ≤ y515.1.Low))) && (decide (y515.1.High ≤ y517.1.High)))) rfl hc540 .none rfl ?_
                                exact hJ539 _ ⟨rfl, rfl, rfl, rfl, and_t hc540 rfl⟩
                              · skip
                                refine JL.skip (.bool rfl rfl rfl hc540) rfl ?_
                                refine JL.skip (.bool rfl rfl rfl hc540) rfl ?_
                                refine JL.skip (.bool rfl rfl rfl hc540) rfl ?_
                                refine JL.skip (.bool rfl rfl rfl hc540) rfl ?_
                                refine JL.skip (.bool rfl rfl rfl hc540) rfl ?_
                                refine JL.pick_f (b := ((((((((y515.2 == 0) && (y517.2 == 0)) && (y519.2 == 0)) && (y521.2 == 0)) && (y523.2 == 0)) && (y524.2 == 0)) && (decide (y517.1.Low ≤ y515.1.Low))) && (decide (y515.1.High ≤ y517.1.High)))) rfl hc540 .none rfl ?_
                                exact hJ539 _ ⟨rfl, rfl, rfl, rfl, and_f hc540 rfl⟩
                            · rintro f ⟨hf21, hf23, hf25, hf27, hf186⟩
                              refine (JL.norm (i := 21) hf21 (JL.norm (i := 23) hf23 (JL.norm (i := 25) hf25 (JL.norm (i := 27) hf27 (JL.norm (i := 186) hf186 ?_)))))
                              refine JL.move .none rfl ?_
                              refine JL.cut 6 (fun f => f 25 = .int .i64 y523.1 ∧ f 27 = .int .i64 y524.1 ∧ f 193 = .bool ((((((((((y515.2 == 0) && (y517.2 == 0)) && (y519.2 == 0)) && (y521.2 == 0)) && (y523.2 == 0)) && (y524.2 == 0)) && (decide (y517.1.Low ≤ y515.1.Low))) && (decide (y515.1.High ≤ y517.1.High))) && (decide (y521.1.Low ≤ y519.1.Low))) && (decide (y519.1.High ≤ y521.1.High)))) ?_ ?_
                              · intro hJ541
                                rcases bcases (((((((((y515.2 == 0) && (y517.2 == 0)) && (y519.2 == 0)) && (y521.2 == 0)) && (y523.2 == 0)) && (y524.2 == 0)) && (decide (y517.1.Low ≤ y515.1.Low))) && (decide (y515.1.High ≤ y517.1.High))) && (decide (y521.1.Low ≤ y519.1.Low))) with hc542 | hc542
                                · skip
                                  refine JL.fieldAddr fo_31_1 rfl (.some rfl rfl rfl hc542) rfl ?_
                                  refine JL.loadOwn 1 az_3 rfl rfl rfl (.some rfl rfl rfl hc542) rfl ?_
                                  refine JL.fieldAddr fo_31_1 rfl (.some rfl rfl rfl hc542) rfl ?_
                                  refine JL.loadOwn 0 az_3 rfl rfl rfl (.some rfl rfl rfl hc542) rfl ?_
                                  refine JL.bin rfl rfl rfl (.some rfl rfl rfl hc542) rfl ?_
                                  refine JL.pick_t (b := (((((((((y515.2 == 0) && (y517.2 == 0)) && (y519.2 == 0)) && (y521.2 == 0)) && (y523.2 == 0)) && (y524.2 == 0)) && (decide (y517.1.Low ≤ y515.1.Low))) && (decide (y515.1.High ≤ y517.1.High))) && (decide (y521.1.Low ≤ y519.1.Low)))) rfl hc542 .none rfl ?_
                                  exact hJ541 _ ⟨rfl, rfl, and_t hc542 rfl⟩
                                · skip
                                  refine JL.skip (.bool rfl rfl rfl hc542) rfl ?_
                                  refine JL.skip (.bool rfl rfl rfl hc542) rfl ?_
                                  refine JL.skip (.bool rfl rfl rfl hc542) rfl ?_
                                  refine JL.skip (.bool rfl rfl rfl hc542) rfl ?_
                                  refine JL.skip (.bool rfl rfl rfl hc542) rfl ?_
                                  refine JL.pick_f (b := (((((((((y515.2 == 0) && (y517.2 == 0)) && (y519.2 == 0)) && (y521.2 == 0)) && (y523.2 == 0)) && (y524.2 == 0)) && (decide (y517.1.Low ≤ y515.1.Low))) && (decide (y515.1.High ≤ y517.1.High))) && (decide (y521.1.Low ≤ y519.1.Low)))) rfl hc542 .none rfl ?_
                                  exact hJ541 _ ⟨rfl, rfl, and_f hc542 rfl⟩
                              · rintro f ⟨hf25, hf27, hf193⟩
                                refine (JL.norm (i := 25) hf25 (JL.norm (i := 27) hf27 (JL.norm (i := 193) hf193 ?_)))
                                refine JL.move .none rfl ?_
                                refine JL.cut 4 (fun f => f 198 = .bool (((((((((((y515.2 == 0) && (y517.2 == 0)) && (y519.2 == 0)) && (y521.2 == 0)) && (y523.2 == 0)) && (y524.2 == 0)) && (decide (y517.1.Low ≤ y515.1.Low))) && (decide (y515.1.High ≤ y517.1.High))) && (decide (y521.1.Low ≤ y519.1.Low))) && (decide (y519.1.High ≤ y521.1.High))) && (decide (y524.1 ≤ y523.1)))) ?_ ?_
                                · intro hJ543
                                  rcases bcases ((((((((((y515.2 == 0) && (y517.2 == 0)) && (y519.2 == 0)) && (y521.2 == 0)) && (y523.2 == 0)) && (y524.2 == 0)) && (decide (y517.1.Low ≤ y515.1.Low))) && (decide (y515.1.High ≤ y517.1.High))) && (decide (y521.1.Low ≤ y519.1.Low))) && (decide (y519.1.High ≤ y521.1.High))) with hc544 | hc544
                                  · skip
                                    refine JL.move (.some rfl rfl rfl hc544) rfl ?_
                                    refine JL.move (.some rfl rfl rfl hc544) rfl ?_
                                    refine JL.bin rfl rfl rfl (.some rfl rfl rfl hc544) rfl ?_
                                    refine JL.pick_t (b := ((((((((((y515.2 == 0) && (y517.2 == 0)) && (y519.2 == 0)) && (y521.2 == 0)) && (y523.2 == 0)) && (y524.2 == 0)) && (decide (y517.1.Low ≤ y515.1.Low))) && (decide (y515.1.High ≤ y517.1.High))) && (decide (y521.1.Low ≤ y519.1.Low))) && (decide (y519.1.High ≤ y521.1.High)))) rfl hc544 .none rfl ?_
                                    exact hJ543 _ (and_t hc544 rfl)
                                  · skip
                                    refine JL.skip (.bool rfl rfl rfl hc544) rfl ?_
                                    refine JL.skip (.bool rfl rfl rfl hc544) rfl ?_
                                    refine JL.skip (.bool rfl rfl rfl hc544) rfl ?_
                                    refine JL.pick_f (b := ((((((((((y515.2 == 0) && (y517.2 == 0)) && (y519.2 == 0)) && (y521.2 == 0)) && (y523.2 == 0)) && (y524.2 == 0)) && (decide (y517.1.Low ≤ y515.1.Low))) && (decide (y515.1.High ≤ y517.1.High))) && (decide (y521.1.Low ≤ y519.1.Low))) && (decide (y519.1.High ≤ y521.1.High)))) rfl hc544 .none rfl ?_
                                    exact hJ543 _ (and_f hc544 rfl)
                                · rintro f hf198
                                  refine (JL.norm (i := 198) hf198 ?_)
                                  refine JL.assign .none rfl ?_
                                  refine JL.done hQ ?_
                                  refine JQ.go ?_
                                  refine JC.ret ?_
                                  obtain rfl := Option.some.inj hF
                                  exact JQ.outS rfl (.tmp .nil) rfl

end Go.Proofs.Ytooankffknoomaa
