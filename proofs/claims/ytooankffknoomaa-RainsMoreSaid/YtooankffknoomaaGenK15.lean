/-
  Printed by a program: functions of the translation as plain functions, and their contracts.
-/
import Derived.Test.YtooankffknoomaaGenK14
namespace Go.Proofs.Ytooankffknoomaa
open Go Go.RowKit Go.Dec
set_option linter.unusedVariables false
-- 44 ferrule/ferrulelaw11.same
def F_law11_same_s1 (n : Nat) (a : Tour) (b : Tour) : Int → Option (Int ⊕ (Bool ⊕ Unit))
  | i_140 => if decide (i_140 < (a.Rains.length : Int)) = true then ((geti a.Rains i_140).bind fun y155 => (geti b.Rains i_140).bind fun y160 => if (!((y155.Day == y160.Day) && ((y155.Level.Low == y160.Level.Low) && (y155.Level.High == y160.Level.High)))) = true then (some (Sum.inr (Sum.inl false))) else (some (Sum.inl (w64 (i_140 + 1))))) else (some (Sum.inr (Sum.inr ())))
def F_law11_same_s2 (n : Nat) (a : Tour) (b : Tour) : Int → Option (Int ⊕ (Bool ⊕ Unit))
  | i_540 => if decide (i_540 < (a.Fairs.length : Int)) = true then ((geti a.Fairs i_540).bind fun y580 => (geti b.Fairs i_540).bind fun y585 => (if (y580.Price != y585.Price) = true then (some true) else ((geti a.Fairs i_540).bind fun y604 => (geti b.Fairs i_540).bind fun y609 => (F_law11_sameInts n y604.Sells y609.Sells).bind fun y614 => some (!y614)) : Option Bool).bind fun p601 => if p601 = true then (some (Sum.inr (Sum.inl false))) else (some (Sum.inl (w64 (i_540 + 1))))) else (some (Sum.inr (Sum.inr ())))
def F_law11_same (n : Nat) (a : Tour) (b : Tour) : Option Bool :=
  if (((((((a.Days != b.Days) || (a.Step != b.Step)) || (a.Wrong != b.Wrong)) || (a.Reach != b.Reach)) || (a.Stock != b.Stock)) || ((a.Rains.length : Int) != (b.Rains.length : Int))) || ((a.Fairs.length : Int) != (b.Fairs.length : Int))) = true then (some false) else ((loopO n (F_law11_same_s1 n a b) 0).bind fun r91 => match r91 with | .inl o => some o | .inr _ => (loopO n (F_law11_same_s2 n a b) 0).bind fun r391 => match r391 with | .inl o => some o | .inr _ => some true)
set_option maxRecDepth 100000 in
set_option maxHeartbeats 40000000 in
theorem c_law11_same (n : Nat) (H : Hp) (a : Tour) (a_v2 : Value) (ha_2 : SL H 3 R_Rain a_v2 a.Rains) (a_v4 : Value) (ha_4 : SL H 2 R_Fair a_v4 a.Fairs) (b : Tour) (b_v2 : Value) (hb_2 : SL H 3 R_Rain b_v2 b.Rains) (b_v4 : Value) (hb_4 : SL H 2 R_Fair b_v4 b.Fairs) (y : Bool) (hF : F_law11_same n a b = some y) : SC Try.prog 44 [.agg [.int .i64 a.Days, .int .i64 a.Step, a_v2, .int .i64 a.Wrong, a_v4, .int .i64 a.Reach, .int .i64 a.Stock].toArray, .agg [.int .i64 b.Days, .int .i64 b.Step, b_v2, .int .i64 b.Wrong, b_v4, .int .i64 b.Reach, .int .i64 b.Stock].toArray] (.bool y) H := by
  rw [F_law11_same] at hF
  refine SC.of (N := 112) Try.func44 rfl rfl rfl fun w => ?_
  refine JC.seq ?_
  refine JC.region (by rfl) ?_
  intro hQ
  refine JL.box (cs := [.int .i64 a.Days, .int .i64 a.Step, a_v2, .int .i64 a.Wrong, a_v4, .int .i64 a.Reach, .int .i64 a.Stock]) rfl .none rfl ?_
  intro b1
  refine JL.box (cs := [.int .i64 b.Days, .int .i64 b.Step, b_v2, .int .i64 b.Wrong, b_v4, .int .i64 b.Reach, .int .i64 b.Stock]) rfl .none rfl ?_
  intro b2
  refine JL.assign .none rfl ?_
  refine JL.done hQ ?_
  refine JQ.go ?_
  refine JC.seq ?_
  refine JC.seq ?_
  refine JC.region (by rfl) ?_
  intro hQ
  refine JL.fieldAddr fo_25_0 rfl .none rfl ?_
  refine JL.loadOwn 1 az_3 rfl rfl rfl .none rfl ?_
  refine JL.fieldAddr fo_25_0 rfl .none rfl ?_
  refine JL.loadOwn 0 az_3 rfl rfl rfl .none rfl ?_
  refine JL.bin rfl rfl rfl .none rfl ?_
  refine JL.move .none rfl ?_
  refine JL.cut 6 (fun f => f 2 = .pointer (some ⟨b1, 0, none⟩) ∧ f 3 = .pointer (some ⟨b2, 0, none⟩) ∧ f 18 = .bool ((a.Days != b.Days) || (a.Step != b.Step))) ?_ ?_
  · intro hJ3
    rcases bcases (a.Days != b.Days) with hc4 | hc4
    · skip
      refine JL.skip (.bool rfl rfl rfl hc4) rfl ?_
      refine JL.skip (.bool rfl rfl rfl hc4) rfl ?_
      refine JL.skip (.bool rfl rfl rfl hc4) rfl ?_
      refine JL.skip (.bool rfl rfl rfl hc4) rfl ?_
      refine JL.skip (.bool rfl rfl rfl hc4) rfl ?_
      refine JL.pick_t (b := (a.Days != b.Days)) rfl hc4 .none rfl ?_
      exact hJ3 _ ⟨rfl, rfl, or_t hc4 rfl⟩
    · skip
      refine JL.fieldAddr fo_25_1 rfl (.some rfl rfl rfl hc4) rfl ?_
      refine JL.loadOwn 1 az_3 rfl rfl rfl (.some rfl rfl rfl hc4) rfl ?_
      refine JL.fieldAddr fo_25_1 rfl (.some rfl rfl rfl hc4) rfl ?_
      refine JL.loadOwn 0 az_3 rfl rfl rfl (.some rfl rfl rfl hc4) rfl ?_
      refine JL.bin rfl rfl rfl (.some rfl rfl rfl hc4) rfl ?_
      refine JL.pick_f (b := (a.Days != b.Days)) rfl hc4 .none rfl ?_
      exact hJ3 _ ⟨rfl, rfl, or_f hc4 rfl⟩
  · rintro f ⟨hf2, hf3, hf18⟩
    refine (JL.norm (i := 2) hf2 (JL.norm (i := 3) hf3 (JL.norm (i := 18) hf18 ?_)))
    refine JL.move .none rfl ?_
    refine JL.cut 6 (fun f => f 2 = .pointer (some ⟨b1, 0, none⟩) ∧ f 3 = .pointer (some ⟨b2, 0, none⟩) ∧ f 25 = .bool (((a.Days != b.Days) || (a.Step != b.Step)) || (a.Wrong != b.Wrong))) ?_ ?_
    · intro hJ5
      rcases bcases ((a.Days != b.Days) || (a.Step != b.Step)) with hc6 | hc6
      · skip
        refine JL.skip (.bool rfl rfl rfl hc6) rfl ?_
        refine JL.skip (.bool rfl rfl rfl hc6) rfl ?_
        refine JL.skip (.bool rfl rfl rfl hc6) rfl ?_
        refine JL.skip (.bool rfl rfl rfl hc6) rfl ?_
        refine JL.skip (.bool rfl rfl rfl hc6) rfl ?_
        refine JL.pick_t (b := ((a.Days != b.Days) || (a.Step != b.Step))) rfl hc6 .none rfl ?_
        exact hJ5 _ ⟨rfl, rfl, or_t hc6 rfl⟩
      · skip
        refine JL.fieldAddr fo_25_3 rfl (.some rfl rfl rfl hc6) rfl ?_
        refine JL.loadOwn 1 az_3 rfl rfl rfl (.some rfl rfl rfl hc6) rfl ?_
        refine JL.fieldAddr fo_25_3 rfl (.some rfl rfl rfl hc6) rfl ?_
        refine JL.loadOwn 0 az_3 rfl rfl rfl (.some rfl rfl rfl hc6) rfl ?_
        refine JL.bin rfl rfl rfl (.some rfl rfl rfl hc6) rfl ?_
        refine JL.pick_f (b := ((a.Days != b.Days) || (a.Step != b.Step))) rfl hc6 .none rfl ?_
        exact hJ5 _ ⟨rfl, rfl, or_f hc6 rfl⟩
    · rintro f ⟨hf2, hf3, hf25⟩
      refine (JL.norm (i := 2) hf2 (JL.norm (i := 3) hf3 (JL.norm (i := 25) hf25 ?_)))
      refine JL.move .none rfl ?_
      refine JL.cut 6 (fun f => f 2 = .pointer (some ⟨b1, 0, none⟩) ∧ f 3 = .pointer (some ⟨b2, 0, none⟩) ∧ f 32 = .bool ((((a.Days != b.Days) || (a.Step != b.Step)) || (a.Wrong != b.Wrong)) || (a.Reach != b.Reach))) ?_ ?_
      · intro hJ7
        rcases bcases (((a.Days != b.Days) || (a.Step != b.Step)) || (a.Wrong != b.Wrong)) with hc8 | hc8
        · skip
          refine JL.skip (.bool rfl rfl rfl hc8) rfl ?_
          refine JL.skip (.bool rfl rfl rfl hc8) rfl ?_
          refine JL.skip (.bool rfl rfl rfl hc8) rfl ?_
          refine JL.skip (.bool rfl rfl rfl hc8) rfl ?_
          refine JL.skip (.bool rfl rfl rfl hc8) rfl ?_
          refine JL.pick_t (b := (((a.Days != b.Days) || (a.Step != b.Step)) || (a.Wrong != b.Wrong))) rfl hc8 .none rfl ?_
          exact hJ7 _ ⟨rfl, rfl, or_t hc8 rfl⟩
        · skip
          refine JL.fieldAddr fo_25_5 rfl (.some rfl rfl rfl hc8) rfl ?_
          refine JL.loadOwn 1 az_3 rfl rfl rfl (.some rfl rfl rfl hc8) rfl ?_
          refine JL.fieldAddr fo_25_5 rfl (.some rfl rfl rfl hc8) rfl ?_
          refine JL.loadOwn 0 az_3 rfl rfl rfl (.some rfl rfl rfl hc8) rfl ?_
          refine JL.bin rfl rfl rfl (.some rfl rfl rfl hc8) rfl ?_
          refine JL.pick_f (b := (((a.Days != b.Days) || (a.Step != b.Step)) || (a.Wrong != b.Wrong))) rfl hc8 .none rfl ?_
          exact hJ7 _ ⟨rfl, rfl, or_f hc8 rfl⟩
      · rintro f ⟨hf2, hf3, hf32⟩
        refine (JL.norm (i := 2) hf2 (JL.norm (i := 3) hf3 (JL.norm (i := 32) hf32 ?_)))
        refine JL.move .none rfl ?_
        refine JL.cut 6 (fun f => f 2 = .pointer (some ⟨b1, 0, none⟩) ∧ f 3 = .pointer (some ⟨b2, 0, none⟩) ∧ f 39 = .bool (((((a.Days != b.Days) || (a.Step != b.Step)) || (a.Wrong != b.Wrong)) || (a.Reach != b.Reach)) || (a.Stock != b.Stock))) ?_ ?_
        · intro hJ9
          rcases bcases ((((a.Days != b.Days) || (a.Step != b.Step)) || (a.Wrong != b.Wrong)) || (a.Reach != b.Reach)) with hc10 | hc10
          · skip
            refine JL.skip (.bool rfl rfl rfl hc10) rfl ?_
            refine JL.skip (.bool rfl rfl rfl hc10) rfl ?_
            refine JL.skip (.bool rfl rfl rfl hc10) rfl ?_
            refine JL.skip (.bool rfl rfl rfl hc10) rfl ?_
            refine JL.skip (.bool rfl rfl rfl hc10) rfl ?_
            refine JL.pick_t (b := ((((a.Days != b.Days) || (a.Step != b.Step)) || (a.Wrong != b.Wrong)) || (a.Reach != b.Reach))) rfl hc10 .none rfl ?_
            exact hJ9 _ ⟨rfl, rfl, or_t hc10 rfl⟩
          · skip
            refine JL.fieldAddr fo_25_6 rfl (.some rfl rfl rfl hc10) rfl ?_
            refine JL.loadOwn 1 az_3 rfl rfl rfl (.some rfl rfl rfl hc10) rfl ?_
            refine JL.fieldAddr fo_25_6 rfl (.some rfl rfl rfl hc10) rfl ?_
            refine JL.loadOwn 0 az_3 rfl rfl rfl (.some rfl rfl rfl hc10) rfl ?_
            refine JL.bin rfl rfl rfl (.some rfl rfl rfl hc10) rfl ?_
            refine JL.pick_f (b := ((((a.Days != b.Days) || (a.Step != b.Step)) || (a.Wrong != b.Wrong)) || (a.Reach != b.Reach))) rfl hc10 .none rfl ?_
            exact hJ9 _ ⟨rfl, rfl, or_f hc10 rfl⟩
        · rintro f ⟨hf2, hf3, hf39⟩
          refine (JL.norm (i := 2) hf2 (JL.norm (i := 3) hf3 (JL.norm (i := 39) hf39 ?_)))
          refine JL.move .none rfl ?_
          refine JL.cut 8 (fun f => f 2 = .pointer (some ⟨b1, 0, none⟩) ∧ f 3 = .pointer (some ⟨b2, 0, none⟩) ∧ f 48 = .bool ((((((a.Days != b.Days) || (a.Step != b.Step)) || (a.Wrong != b.Wrong)) || (a.Reach != b.Reach)) || (a.Stock != b.Stock)) || ((a.Rains.length : Int) != (b.Rains.length : Int)))) ?_ ?_
          · intro hJ11
            rcases bcases (((((a.Days != b.Days) || (a.Step != b.Step)) || (a.Wrong != b.Wrong)) || (a.Reach != b.Reach)) || (a.Stock != b.Stock)) with hc12 | hc12
            · skip
              refine JL.skip (.bool rfl rfl rfl hc12) rfl ?_
              refine JL.skip (.bool rfl rfl rfl hc12) rfl ?_
              refine JL.skip (.bool rfl rfl rfl hc12) rfl ?_
              refine JL.skip (.bool rfl rfl rfl hc12) rfl ?_
              refine JL.skip (.bool rfl rfl rfl hc12) rfl ?_
              refine JL.skip (.bool rfl rfl rfl hc12) rfl ?_
              refine JL.skip (.bool rfl rfl rfl hc12) rfl ?_
              refine JL.pick_t (b := (((((a.Days != b.Days) || (a.Step != b.Step)) || (a.Wrong != b.Wrong)) || (a.Reach != b.Reach)) || (a.Stock != b.Stock))) rfl hc12 .none rfl ?_
              exact hJ11 _ ⟨rfl, rfl, or_t hc12 rfl⟩
            · skip
              refine JL.fieldAddr fo_25_2 rfl (.some rfl rfl rfl hc12) rfl ?_
              refine JL.loadOwn 1 az_22 rfl rfl rfl (.some rfl rfl rfl hc12) rfl ?_
              refine JL.lenSL (R := R_Rain) ul_22 ha_2 (.some rfl rfl rfl hc12) rfl ?_
              refine JL.fieldAddr fo_25_2 rfl (.some rfl rfl rfl hc12) rfl ?_
              refine JL.loadOwn 0 az_22 rfl rfl rfl (.some rfl rfl rfl hc12) rfl ?_
              refine JL.lenSL (R := R_Rain) ul_22 hb_2 (.some rfl rfl rfl hc12) rfl ?_
              refine JL.bin rfl rfl rfl (.some rfl rfl rfl hc12) rfl ?_
              refine JL.pick_f (b := (((((a.Days != b.Days) || (a.Step != b.Step)) || (a.Wrong != b.Wrong)) || (a.Reach != b.Reach)) || (a.Stock != b.Stock))) rfl hc12 .none rfl ?_
              exact hJ11 _ ⟨rfl, rfl, or_f hc12 rfl⟩
          · rintro f ⟨hf2, hf3, hf48⟩
            refine (JL.norm (i := 2) hf2 (JL.norm (i := 3) hf3 (JL.norm (i := 48) hf48 ?_)))
            refine JL.move .none rfl ?_
            refine JL.cut 8 (fun f => f 2 = .pointer (some ⟨b1, 0, none⟩) ∧ f 3 = .pointer (some ⟨b2, 0, none⟩) ∧ f 57 = .bool (((((((a.Days != b.Days) || (a.Step != b.Step)) || (a.Wrong != b.Wrong)) || (a.Reach != b.Reach)) || (a.Stock != b.Stock)) || ((a.Rains.length : Int) != (b.Rains.length : Int))) || ((a.Fairs.length : Int) != (b.Fairs.length : Int)))) ?_ ?_
            · intro hJ13
              rcases bcases ((((((a.Days != b.Days) || (a.Step != b.Step)) || (a.Wrong != b.Wrong)) || (a.Reach != b.Reach)) || (a.Stock != b.Stock)) || ((a.Rains.length : Int) != (b.Rains.length : Int))) with hc14 | hc14
              · skip
                refine JL.skip (.bool rfl rfl rfl hc14) rfl ?_
                refine JL.skip (.bool rfl rfl rfl hc14) rfl ?_
                refine JL.skip (.bool rfl rfl rfl hc14) rfl ?_
                refine JL.skip (.bool rfl rfl rfl hc14) rfl ?_
                refine JL.skip (.bool rfl rfl rfl hc14) rfl ?_
                refine JL.skip (.bool rfl rfl rfl hc14) rfl ?_
                refine JL.skip (.bool rfl rfl rfl hc14) rfl ?_
                refine JL.pick_t (b := ((((((a.Days != b.Days) || (a.Step != b.Step)) || (a.Wrong != b.Wrong)) || (a.Reach != b.Reach)) || (a.Stock != b.Stock)) || ((a.Rains.length : Int) != (b.Rains.length : Int)))) rfl hc14 .none rfl ?_
                exact hJ13 _ ⟨rfl, rfl, or_t hc14 rfl⟩
              · skip
                refine JL.fieldAddr fo_25_4 rfl (.some rfl rfl rfl hc14) rfl ?_
                refine JL.loadOwn 1 az_23 rfl rfl rfl (.some rfl rfl rfl hc14) rfl ?_
                refine JL.lenSL (R := R_Fair) ul_23 ha_4 (.some rfl rfl rfl hc14) rfl ?_
                refine JL.fieldAddr fo_25_4 rfl (.some rfl rfl rfl hc14) rfl ?_
                refine JL.loadOwn 0 az_23 rfl rfl rfl (.some rfl rfl rfl hc14) rfl ?_
                refine JL.lenSL (R := R_Fair) ul_23 hb_4 (.some rfl rfl rfl hc14) rfl ?_
                refine JL.bin rfl rfl rfl (.some rfl rfl rfl hc14) rfl ?_
                refine JL.pick_f (b := ((((((a.Days != b.Days) || (a.Step != b.Step)) || (a.Wrong != b.Wrong)) || (a.Reach != b.Reach)) || (a.Stock != b.Stock)) || ((a.Rains.length : Int) != (b.Rains.length : Int)))) rfl hc14 .none rfl ?_
                exact hJ13 _ ⟨rfl, rfl, or_f hc14 rfl⟩
            · rintro f ⟨hf2, hf3, hf57⟩
              refine (JL.norm (i := 2) hf2 (JL.norm (i := 3) hf3 (JL.norm (i := 57) hf57 ?_)))
              refine JL.done hQ ?_
              refine JQ.go ?_
              rcases ite_some hF with ⟨hc15, hF⟩ | ⟨hc15, hF⟩
              · refine JC.cond_t (b := (((((((a.Days != b.Days) || (a.Step != b.Step)) || (a.Wrong != b.Wrong)) || (a.Reach != b.Reach)) || (a.Stock != b.Stock)) || ((a.Rains.length : Int) != (b.Rains.length : Int))) || ((a.Fairs.length : Int) != (b.Fairs.length : Int)))) rfl hc15 ?_
                refine JC.seq ?_
                refine JC.region (by rfl) ?_
                intro hQ
                refine JL.assign .none rfl ?_
                refine JL.done hQ ?_
                refine JQ.go ?_
                refine JC.ret ?_
                refine JQ.ret_then ?_
                obtain rfl := Option.some.inj hF
                exact JQ.outS rfl (.tmp .nil) rfl
              · refine JC.cond_f (b := (((((((a.Days != b.Days) || (a.Step != b.Step)) || (a.Wrong != b.Wrong)) || (a.Reach != b.Reach)) || (a.Stock != b.Stock)) || ((a.Rains.length : Int) != (b.Rains.length : Int))) || ((a.Fairs.length : Int) != (b.Fairs.length : Int)))) rfl hc15 ?_
                refine JC.skip ?_
                refine JQ.go ?_
                refine JC.seq ?_
                refine JC.seq ?_
                refine JC.region (by rfl) ?_
                intro hQ
                refine JL.assign .none rfl ?_
                refine JL.done hQ ?_
                refine JQ.go ?_
                obtain ⟨r91, hlr91, hKr91⟩ := bind_some hF
                refine JC.join (fun (_ : Unit) H90 f bs gs => f 2 = .pointer (some ⟨b1, 0, none⟩) ∧ f 3 = .pointer (some ⟨b2, 0, none⟩) ∧ bs = [(b2, .cells [.int .i64 b.Days, .int .i64 b.Step, b_v2, .int .i64 b.Wrong, b_v4, .int .i64 b.Reach, .int .i64 b.Stock].toArray 25), (b1, .cells [.int .i64 a.Days, .int .i64 a.Step, a_v2, .int .i64 a.Wrong, a_v4, .int .i64 a.Reach, .int .i64 a.Stock].toArray 25)] ∧ gs = [] ∧ HSub H H90 ∧ Sum.inr () = r91) ?_ ?_
                · skip
                  refine JC.block ?_
                  refine JC.loop hlr91 (fun (i_140 : Int) H141 f bs gs => f 2 = .pointer (some ⟨b1, 0, none⟩) ∧ f 3 = .pointer (some ⟨b2, 0, none⟩) ∧ f 5 = .int .i64 i_140 ∧ bs = [(b2, .cells [.int .i64 b.Days, .int .i64 b.Step, b_v2, .int .i64 b.Wrong, b_v4, .int .i64 b.Reach, .int .i64 b.Stock].toArray 25), (b1, .cells [.int .i64 a.Days, .int .i64 a.Step, a_v2, .int .i64 a.Wrong, a_v4, .int .i64 a.Reach, .int .i64 a.Stock].toArray 25)] ∧ gs = [] ∧ HSub H H141) ⟨rfl, rfl, rfl, rfl, rfl, (HSub.refl _)⟩ ?_
                  rintro i_140 x143 H141 f bs gs ⟨hf2, hf3, hf5, rfl, rfl, hs141⟩ hF hr142
                  rw [F_law11_same_s1] at hF
                  refine (JC.norm (i := 2) hf2 (JC.norm (i := 3) hf3 (JC.norm (i := 5) hf5 ?_)))
                  refine JC.seq ?_
                  refine JC.seq ?_
                  refine JC.region (by rfl) ?_
                  intro hQ
                  refine JL.move .none rfl ?_
                  refine JL.fieldAddr fo_25_2 rfl .none rfl ?_
                  refine JL.loadOwn 1 az_22 rfl rfl rfl .none rfl ?_
                  refine JL.lenSL (R := R_Rain) ul_22 (SL.mono R_Rain_mono hs141 ha_2) .none rfl ?_
                  refine JL.bin rfl rfl rfl .none rfl ?_
                  refine JL.done hQ ?_
                  refine JQ.go ?_
                  rcases ite_some hF with ⟨hc144, hF⟩ | ⟨hc144, hF⟩
                  · refine JC.cond_t (b := decide (i_140 < (a.Rains.length : Int))) rfl hc144 ?_
                    refine JC.skip ?_
                    refine JQ.go ?_
                    refine JC.seq ?_
                    refine JC.block ?_
                    refine JC.seq ?_
                    refine JC.draw (by rfl) mo_ (by kernel_rfl) ?_
                    intro hQ
                    refine JL.fieldAddr fo_25_2 rfl .none rfl ?_
                    refine JL.loadOwn 1 az_22 rfl rfl rfl .none rfl ?_
                    refine JL.move .none rfl ?_
                    obtain ⟨y155, hy155, hF⟩ := bind_some hF
                    refine JL.indexSL (R := R_Rain) sl_22 (SL.mono R_Rain_mono hs141 ha_2) rfl hy155 .none rfl ?_
                    rintro b156 o157 cs158 hc159 - rfl
                    refine JL.loadH 0 az_37 rfl hc159 rfl .none rfl ?_
                    refine JL.fieldAddr fo_25_2 rfl .none rfl ?_
                    refine JL.loadOwn 0 az_22 rfl rfl rfl .none rfl ?_
                    refine JL.move .none rfl ?_
                    obtain ⟨y160, hy160, hF⟩ := bind_some hF
                    refine JL.indexSL (R := R_Rain) sl_22 (SL.mono R_Rain_mono hs141 hb_2) rfl hy160 .none rfl ?_
                    rintro b161 o162 cs163 hc164 - rfl
                    refine JL.loadH 0 az_37 rfl hc164 rfl .none rfl ?_
                    refine JL.neAgg eqg_37 rfl rfl (fun w => eqa_37 y155.Day y155.Level.Low y155.Level.High y160.Day y160.Level.Low y160.Level.High w) .none rfl ?_
                    refine JL.doneQ hQ ?_
                    refine JQ.go ?_
                    refine JC.fresh (fun f => f 2 = .pointer (some ⟨b1, 0, none⟩) ∧ f 3 = .pointer (some ⟨b2, 0, none⟩) ∧ f 5 = .int .i64 i_140 ∧ f 75 = .bool (!((y155.Day == y160.Day) && ((y155.Level.Low == y160.Level.Low) && (y155.Level.High == y160.Level.High))))) ⟨rfl, rfl, rfl, rfl⟩ ?_
                    rintro f ⟨hf2, hf3, hf5, hf75⟩
                    refine (JC.norm (i := 2) hf2 (JC.norm (i := 3) hf3 (JC.norm (i := 5) hf5 (JC.norm (i := 75) hf75 ?_))))
                    rcases ite_some hF with ⟨hc165, hF⟩ | ⟨hc165, hF⟩
                    · refine JC.cond_t (b := (!((y155.Day == y160.Day) && ((y155.Level.Low == y160.Level.Low) && (y155.Level.High == y160.Level.High))))) rfl hc165 ?_
                      refine JC.seq ?_
                      refine JC.region (by rfl) ?_
                      intro hQ
                      refine JL.assign .none rfl ?_
                      refine JL.done hQ ?_
                      refine JQ.go ?_
                      refine JC.ret ?_
                      refine JQ.ret_block ?_
                      refine JQ.ret_then ?_
                      refine JQ.ret_then ?_
                      refine JQ.ret_block ?_
                      refine JQ.ret_join ?_
                      refine JQ.ret_then ?_
                      obtain rfl := Option.some.inj hF
                      have ehr142 := hr142 _ rfl
                      subst ehr142
                      have hF := hKr91
                      try dsimp only at hF
                      obtain rfl := Option.some.inj hF
                      exact JQ.outS rfl (.tmp .nil) rfl
                    · refine JC.cond_f (b := (!((y155.Day == y160.Day) && ((y155.Level.Low == y160.Level.Low) && (y155.Level.High == y160.Level.High))))) rfl hc165 ?_
                      refine JC.skip ?_
                      refine JQ.normal_block ?_
                      refine JQ.go ?_
                      refine JC.region (by rfl) ?_
                      intro hQ
                      refine JL.move .none rfl ?_
                      refine JL.bin rfl rfl rfl .none rfl ?_
                      refine JL.assign .none rfl ?_
                      refine JL.done hQ ?_
                      obtain rfl := Option.some.inj hF
                      exact JQ.next rfl ⟨rfl, rfl, rfl, rfl, rfl, hs141⟩
                  · refine JC.cond_f (b := decide (i_140 < (a.Rains.length : Int))) rfl hc144 ?_
                    refine JC.exit ?_
                    refine JQ.exit_then ?_
                    refine JQ.exit_then ?_
                    refine JQ.exit_block ?_
                    obtain rfl := Option.some.inj hF
                    have ehr142 := hr142 _ rfl
                    subst ehr142
                    exact JQ.join () ⟨rfl, rfl, rfl, rfl, hs141, rfl⟩
                · rintro _ H90 f bs gs ⟨hf2, hf3, rfl, rfl, hs90, rfl⟩
                  have hF := hKr91
                  try dsimp only at hF
                  refine (JQ.norm (i := 2) hf2 (JQ.norm (i := 3) hf3 ?_))
                  refine JQ.go ?_
                  refine JC.seq ?_
                  refine JC.seq ?_
                  refine JC.region (by rfl) ?_
                  intro hQ
                  refine JL.assign .none rfl ?_
                  refine JL.done hQ ?_
                  refine JQ.go ?_
                  obtain ⟨r391, hlr391, hKr391⟩ := bind_some hF
                  refine JC.join (fun (_ : Unit) H390 f bs gs => bs = [] ∧ gs = [] ∧ HSub H90 H390 ∧ Sum.inr () = r391) ?_ ?_
                  · skip
                    refine JC.block ?_
                    refine JC.loop hlr391 (fun (i_540 : Int) H541 f bs gs => f 2 = .pointer (some ⟨b1, 0, none⟩) ∧ f 3 = .pointer (some ⟨b2, 0, none⟩) ∧ f 6 = .int .i64 i_540 ∧ bs = [(b2, .cells [.int .i64 b.Days, .int .i64 b.Step, b_v2, .int .i64 b.Wrong, b_v4, .int .i64 b.Reach, .int .i64 b.Stock].toArray 25), (b1, .cells [.int .i64 a.Days, .int .i64 a.Step, a_v2, .int .i64 a.Wrong, a_v4, .int .i64 a.Reach, .int .i64 a.Stock].toArray 25)] ∧ gs = [] ∧ HSub H90 H541) ⟨rfl, rfl, rfl, rfl, rfl, (HSub.refl _)⟩ ?_
                    rintro i_540 x543 H541 f bs gs ⟨hf2, hf3, hf6, rfl, rfl, hs541⟩ hF hr542
                    rw [F_law11_same_s2] at hF
                    refine (JC.norm (i := 2) hf2 (JC.norm (i := 3) hf3 (JC.norm (i := 6) hf6 ?_)))
                    refine JC.seq ?_
                    refine JC.seq ?_
                    refine JC.region (by rfl) ?_
                    intro hQ
                    refine JL.move .none rfl ?_
                    refine JL.fieldAddr fo_25_4 rfl .none rfl ?_
                    refine JL.loadOwn 1 az_23 rfl rfl rfl .none rfl ?_
                    refine JL.lenSL (R := R_Fair) ul_23 (SL.mono R_Fair_mono (HSub.trans hs90 hs541) ha_4) .none rfl ?_
                    refine JL.bin rfl rfl rfl .none rfl ?_
                    refine JL.done hQ ?_
                    refine JQ.go ?_
                    rcases ite_some hF with ⟨hc544, hF⟩ | ⟨hc544, hF⟩
                    · refine JC.cond_t (b := decide (i_540 < (a.Fairs.length : Int))) rfl hc544 ?_
                      refine JC.skip ?_
                      refine JQ.go ?_
                      refine JC.seq ?_
                      refine JC.block ?_
                      refine JC.seq ?_
                      refine JC.draw (by rfl) mo_ (by kernel_rfl) ?_
                      intro hQ
                      refine JL.fieldAddr fo_25_4 rfl .none rfl ?_
                      refine JL.loadOwn 1 az_23 rfl rfl rfl .none rfl ?_
                      refine JL.move .none rfl ?_
                      obtain ⟨y580, hy580, hF⟩ := bind_some hF
                      refine JL.indexSL (R := R_Fair) sl_23 (SL.mono R_Fair_mono (HSub.trans hs90 hs541) ha_4) rfl hy580 .none rfl ?_
                      rintro b581 o582 cs583 hc584 - ⟨y580_v1, rfl, hy580_1⟩
                      refine JL.fieldAddr fo_41_0 rfl .none rfl ?_
                      refine JL.loadH 0 az_3 rfl hc584 rfl .none rfl ?_
                      refine JL.fieldAddr fo_25_4 rfl .none rfl ?_
                      refine JL.loadOwn 0 az_23 rfl rfl rfl .none rfl ?_
                      refine JL.move .none rfl ?_
                      obtain ⟨y585, hy585, hF⟩ := bind_some hF
                      refine JL.indexSL (R := R_Fair) sl_23 (SL.mono R_Fair_mono (HSub.trans hs90 hs541) hb_4) rfl hy585 .none rfl ?_
                      rintro b586 o587 cs588 hc589 - ⟨y585_v1, rfl, hy585_1⟩
                      refine JL.fieldAddr fo_41_0 rfl .none rfl ?_
                      refine JL.loadH 0 az_3 rfl hc589 rfl .none rfl ?_
                      refine JL.bin rfl rfl rfl .none rfl ?_
                      refine JL.move .none rfl ?_
                      obtain ⟨p601, hp601, hF⟩ := bind_some hF
                      refine JL.cut 15 (fun f => f 2 = .pointer (some ⟨b1, 0, none⟩) ∧ f 3 = .pointer (some ⟨b2, 0, none⟩) ∧ f 6 = .int .i64 i_540 ∧ f 111 = .bool p601) ?_ ?_
                      · intro hJ602
                        rcases ite_some hp601 with ⟨hc603, hF⟩ | ⟨hc603, hF⟩
                        · skip
                          refine JL.skip (.bool rfl rfl rfl hc603) rfl ?_
                          refine JL.skip (.bool rfl rfl rfl hc603) rfl ?_
                          refine JL.skip (.bool rfl rfl rfl hc603) rfl ?_
                          refine JL.skip (.bool rfl rfl rfl hc603) rfl ?_
                          refine JL.skip (.bool rfl rfl rfl hc603) rfl ?_
                          refine JL.skip (.bool rfl rfl rfl hc603) rfl ?_
                          refine JL.skip (.bool rfl rfl rfl hc603) rfl ?_
                          refine JL.skip (.bool rfl rfl rfl hc603) rfl ?_
                          refine JL.skip (.bool rfl rfl rfl hc603) rfl ?_
                          refine JL.skip (.bool rfl rfl rfl hc603) rfl ?_
                          refine JL.skip (.bool rfl rfl rfl hc603) rfl ?_
                          refine JL.skip (.bool rfl rfl rfl hc603) rfl ?_
                          refine JL.skip (.bool rfl rfl rfl hc603) rfl ?_
                          refine JL.skip (.bool rfl rfl rfl hc603) rfl ?_
                          refine JL.pick_t (b := (y580.Price != y585.Price)) rfl hc603 .none rfl ?_
                          obtain rfl := Option.some.inj hF
                          exact hJ602 _ ⟨rfl, rfl, rfl, rfl⟩
                        · skip
                          refine JL.fieldAddr fo_25_4 rfl (.some rfl rfl rfl hc603) rfl ?_
                          refine JL.loadOwn 1 az_23 rfl rfl rfl (.some rfl rfl rfl hc603) rfl ?_
                          refine JL.move (.some rfl rfl rfl hc603) rfl ?_
                          obtain ⟨y604, hy604, hF⟩ := bind_some hF
                          refine JL.indexSL (R := R_Fair) sl_23 (SL.mono R_Fair_mono (HSub.trans hs90 hs541) ha_4) rfl hy604 (.some rfl rfl rfl hc603) rfl ?_
                          rintro b605 o606 cs607 hc608 - ⟨y604_v1, rfl, hy604_1⟩
                          refine JL.fieldAddr fo_41_1 rfl (.some rfl rfl rfl hc603) rfl ?_
                          refine JL.loadH 1 az_26 rfl hc608 rfl (.some rfl rfl rfl hc603) rfl ?_
                          refine JL.fieldAddr fo_25_4 rfl (.some rfl rfl rfl hc603) rfl ?_
                          refine JL.loadOwn 0 az_23 rfl rfl rfl (.some rfl rfl rfl hc603) rfl ?_
                          refine JL.move (.some rfl rfl rfl hc603) rfl ?_
                          obtain ⟨y609, hy609, hF⟩ := bind_some hF
                          refine JL.indexSL (R := R_Fair) sl_23 (SL.mono R_Fair_mono (HSub.trans hs90 hs541) hb_4) rfl hy609 (.some rfl rfl rfl hc603) rfl ?_
                          rintro b610 o611 cs612 hc613 - ⟨y609_v1, rfl, hy609_1⟩
                          refine JL.fieldAddr fo_41_1 rfl (.some rfl rfl rfl hc603) rfl ?_
                          refine JL.loadH 1 az_26 rfl hc613 rfl (.some rfl rfl rfl hc603) rfl ?_
                          obtain ⟨y614, hy614, hF⟩ := bind_some hF
                          refine JL.callS (c_law11_sameInts n H541 y604.Sells y604_v1 hy604_1 y609.Sells y609_v1 hy609_1 y614 hy614) rfl en_43 (.some rfl rfl rfl hc603) rfl ?_
                          refine JL.not rfl (.some rfl rfl rfl hc603) rfl ?_
                          refine JL.pick_f (b := (y580.Price != y585.Price)) rfl hc603 .none rfl ?_
                          obtain rfl := Option.some.inj hF
                          exact hJ602 _ ⟨rfl, rfl, rfl, rfl⟩
                      · rintro f ⟨hf2, hf3, hf6, hf111⟩
                        refine (JL.norm (i := 2) hf2 (JL.norm (i := 3) hf3 (JL.norm (i := 6) hf6 (JL.norm (i := 111) hf111 ?_))))
                        refine JL.doneQ hQ ?_
                        refine JQ.go ?_
                        rcases ite_some hF with ⟨hc615, hF⟩ | ⟨hc615, hF⟩
                        · refine JC.cond_t (b := p601) rfl hc615 ?_
                          refine JC.seq ?_
                          refine JC.region (by rfl) ?_
                          intro hQ
                          refine JL.assign .none rfl ?_
                          refine JL.done hQ ?_
                          refine JQ.go ?_
                          refine JC.ret ?_
                          refine JQ.ret_block ?_
                          refine JQ.ret_then ?_
                          refine JQ.ret_then ?_
                          refine JQ.ret_block ?_
                          refine JQ.ret_join ?_
                          refine JQ.ret_then ?_
                          obtain rfl := Option.some.inj hF
                          have ehr542 := hr542 _ rfl
                          subst ehr542
                          have hF := hKr391
                          try dsimp only at hF
                          obtain rfl := Option.some.inj hF
                          exact JQ.outS rfl (.tmp .nil) rfl
                        · refine JC.cond_f (b := p601) rfl hc615 ?_
                          refine JC.skip ?_
                          refine JQ.normal_block ?_
                          refine JQ.go ?_
                          refine JC.region (by rfl) ?_
                          intro hQ
                          refine JL.move .none rfl ?_
                          refine JL.bin rfl rfl rfl .none rfl ?_
                          refine JL.assign .none rfl ?_
                          refine JL.done hQ ?_
                          obtain rfl := Option.some.inj hF
                          exact JQ.next rfl ⟨rfl, rfl, rfl, rfl, rfl, hs541⟩
                    · refine JC.cond_f (b := decide (i_540 < (a.Fairs.length : Int))) rfl hc544 ?_
                      refine JC.exit ?_
                      refine JQ.exit_then ?_
                      refine JQ.exit_then ?_
                      refine JQ.exit_block ?_
                      obtain rfl := Option.some.inj hF
                      have ehr542 := hr542 _ rfl
                      subst ehr542
                      refine JQ.mask [false, false] [] ?_
                      exact JQ.join () ⟨rfl, rfl, hs541, rfl⟩
                  · rintro _ H390 f bs gs ⟨rfl, rfl, hs390, rfl⟩
                    have hF := hKr391
                    try dsimp only at hF
                    refine JQ.go ?_
                    refine JC.seq ?_
                    refine JC.region (by rfl) ?_
                    intro hQ
                    refine JL.assign .none rfl ?_
                    refine JL.done hQ ?_
                    refine JQ.go ?_
                    refine JC.ret ?_
                    obtain rfl := Option.some.inj hF
                    exact JQ.outS rfl (.tmp .nil) rfl

end Go.Proofs.Ytooankffknoomaa
