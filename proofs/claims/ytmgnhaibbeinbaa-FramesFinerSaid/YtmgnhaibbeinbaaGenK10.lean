/-
  Printed by a program: functions of the translation as plain functions, and their contracts.
-/
import Derived.Test.YtmgnhaibbeinbaaGenK9
namespace Go.Proofs.Ytmgnhaibbeinbaa
open Go Go.RowKit Go.Dec
set_option linter.unusedVariables false
-- 6 ferrule/ferrulelaw01.FramesLarger
def F_law01_FramesLarger (n : Nat) (p : ref01_Pair) (r : Int) (times : Int) : Option Bool :=
  if ((((((((decide (times < 1)) || (decide (100 < times))) || (decide (r < 1))) || (decide (2000 < r))) || (decide (p.Arm < 1))) || (decide (2000 < p.Arm))) || (decide (p.Stretch < 1))) || (decide (2000 < p.Stretch))) = true then ((F_law01_works n).bind fun y17 => some y17) else ((F_law01_single n p r).bind fun y18 => (F_law01_single n (ref01_Pair.mk (w64 (p.Arm * times)) (w64 (p.Stretch * times))) (w64 (r * times))).bind fun y22 => (F_ref01_Check n y22).bind fun y26 => if (y26 != 0) = true then ((F_law01_works n).bind fun y28 => some y28) else ((F_frames_Cosine n y18 0 r).bind fun y29 => (F_frames_Cosine n y22 0 (w64 (r * times))).bind fun y32 => (F_frames_Binds n y18 0 r).bind fun y35 => (F_frames_Binds n y22 0 (w64 (r * times))).bind fun y36 => (if (((((((((y29.2.2 == 0) && (y32.2.2 == 0)) && (y35.2 == 0)) && (y36.2 == 0)) && ((y29.1.Num == y29.2.1.Num) && (y29.1.Den == y29.2.1.Den))) && ((y29.1.Num == y32.1.Num) && (y29.1.Den == y32.1.Den))) && ((y29.1.Num == y32.2.1.Num) && (y29.1.Den == y32.2.1.Den))) && (y35.1 == y36.1)) && (y35.1 != 3)) = true then ((F_law01_works n).bind fun y57 => some y57) else (some false) : Option Bool).bind fun p54 => some p54))
set_option maxRecDepth 100000 in
set_option maxHeartbeats 40000000 in
theorem c_law01_FramesLarger (n : Nat) (H : Hp) (p : ref01_Pair) (r : Int) (times : Int) (y : Bool) (hF : F_law01_FramesLarger n p r times = some y) : SC Try.prog 6 [.agg [.int .i64 p.Arm, .int .i64 p.Stretch].toArray, .int .i64 r, .int .i64 times] (.bool y) H := by
  rw [F_law01_FramesLarger] at hF
  refine SC.of (N := 145) Try.func6 rfl rfl rfl fun w => ?_
  refine JC.seq ?_
  refine JC.region (by rfl) ?_
  intro hQ
  refine JL.box (cs := [.int .i64 p.Arm, .int .i64 p.Stretch]) rfl .none rfl ?_
  intro b1
  refine JL.assign .none rfl ?_
  refine JL.done hQ ?_
  refine JQ.go ?_
  refine JC.seq ?_
  refine JC.seq ?_
  refine JC.region (by rfl) ?_
  intro hQ
  refine JL.move .none rfl ?_
  refine JL.bin rfl rfl rfl .none rfl ?_
  refine JL.move .none rfl ?_
  refine JL.cut 3 (fun f => f 1 = .int .i64 r ∧ f 2 = .int .i64 times ∧ f 3 = .pointer (some ⟨b1, 0, none⟩) ∧ f 24 = .bool ((decide (times < 1)) || (decide (100 < times)))) ?_ ?_
  · intro hJ2
    rcases bcases (decide (times < 1)) with hc3 | hc3
    · skip
      refine JL.skip (.bool rfl rfl rfl hc3) rfl ?_
      refine JL.skip (.bool rfl rfl rfl hc3) rfl ?_
      refine JL.pick_t (b := decide (times < 1)) rfl hc3 .none rfl ?_
      exact hJ2 _ ⟨rfl, rfl, rfl, or_t hc3 rfl⟩
    · skip
      refine JL.move (.some rfl rfl rfl hc3) rfl ?_
      refine JL.bin rfl rfl rfl (.some rfl rfl rfl hc3) rfl ?_
      refine JL.pick_f (b := decide (times < 1)) rfl hc3 .none rfl ?_
      exact hJ2 _ ⟨rfl, rfl, rfl, or_f hc3 rfl⟩
  · rintro f ⟨hf1, hf2, hf3, hf24⟩
    refine (JL.norm (i := 1) hf1 (JL.norm (i := 2) hf2 (JL.norm (i := 3) hf3 (JL.norm (i := 24) hf24 ?_))))
    refine JL.move .none rfl ?_
    refine JL.cut 3 (fun f => f 1 = .int .i64 r ∧ f 2 = .int .i64 times ∧ f 3 = .pointer (some ⟨b1, 0, none⟩) ∧ f 28 = .bool (((decide (times < 1)) || (decide (100 < times))) || (decide (r < 1)))) ?_ ?_
    · intro hJ4
      rcases bcases ((decide (times < 1)) || (decide (100 < times))) with hc5 | hc5
      · skip
        refine JL.skip (.bool rfl rfl rfl hc5) rfl ?_
        refine JL.skip (.bool rfl rfl rfl hc5) rfl ?_
        refine JL.pick_t (b := ((decide (times < 1)) || (decide (100 < times)))) rfl hc5 .none rfl ?_
        exact hJ4 _ ⟨rfl, rfl, rfl, or_t hc5 rfl⟩
      · skip
        refine JL.move (.some rfl rfl rfl hc5) rfl ?_
        refine JL.bin rfl rfl rfl (.some rfl rfl rfl hc5) rfl ?_
        refine JL.pick_f (b := ((decide (times < 1)) || (decide (100 < times)))) rfl hc5 .none rfl ?_
        exact hJ4 _ ⟨rfl, rfl, rfl, or_f hc5 rfl⟩
    · rintro f ⟨hf1, hf2, hf3, hf28⟩
      refine (JL.norm (i := 1) hf1 (JL.norm (i := 2) hf2 (JL.norm (i := 3) hf3 (JL.norm (i := 28) hf28 ?_))))
      refine JL.move .none rfl ?_
      refine JL.cut 3 (fun f => f 1 = .int .i64 r ∧ f 2 = .int .i64 times ∧ f 3 = .pointer (some ⟨b1, 0, none⟩) ∧ f 32 = .bool ((((decide (times < 1)) || (decide (100 < times))) || (decide (r < 1))) || (decide (2000 < r)))) ?_ ?_
      · intro hJ6
        rcases bcases (((decide (times < 1)) || (decide (100 < times))) || (decide (r < 1))) with hc7 | hc7
        · skip
          refine JL.skip (.bool rfl rfl rfl hc7) rfl ?_
          refine JL.skip (.bool rfl rfl rfl hc7) rfl ?_
          refine JL.pick_t (b := (((decide (times < 1)) || (decide (100 < times))) || (decide (r < 1)))) rfl hc7 .none rfl ?_
          exact hJ6 _ ⟨rfl, rfl, rfl, or_t hc7 rfl⟩
        · skip
          refine JL.move (.some rfl rfl rfl hc7) rfl ?_
          refine JL.bin rfl rfl rfl (.some rfl rfl rfl hc7) rfl ?_
          refine JL.pick_f (b := (((decide (times < 1)) || (decide (100 < times))) || (decide (r < 1)))) rfl hc7 .none rfl ?_
          exact hJ6 _ ⟨rfl, rfl, rfl, or_f hc7 rfl⟩
      · rintro f ⟨hf1, hf2, hf3, hf32⟩
        refine (JL.norm (i := 1) hf1 (JL.norm (i := 2) hf2 (JL.norm (i := 3) hf3 (JL.norm (i := 32) hf32 ?_))))
        refine JL.move .none rfl ?_
        refine JL.cut 4 (fun f => f 1 = .int .i64 r ∧ f 2 = .int .i64 times ∧ f 3 = .pointer (some ⟨b1, 0, none⟩) ∧ f 37 = .bool (((((decide (times < 1)) || (decide (100 < times))) || (decide (r < 1))) || (decide (2000 < r))) || (decide (p.Arm < 1)))) ?_ ?_
        · intro hJ8
          rcases bcases ((((decide (times < 1)) || (decide (100 < times))) || (decide (r < 1))) || (decide (2000 < r))) with hc9 | hc9
          · skip
            refine JL.skip (.bool rfl rfl rfl hc9) rfl ?_
            refine JL.skip (.bool rfl rfl rfl hc9) rfl ?_
            refine JL.skip (.bool rfl rfl rfl hc9) rfl ?_
            refine JL.pick_t (b := ((((decide (times < 1)) || (decide (100 < times))) || (decide (r < 1))) || (decide (2000 < r)))) rfl hc9 .none rfl ?_
            exact hJ8 _ ⟨rfl, rfl, rfl, or_t hc9 rfl⟩
          · skip
            refine JL.fieldAddr fo_45_0 rfl (.some rfl rfl rfl hc9) rfl ?_
            refine JL.loadOwn 0 az_3 rfl rfl rfl (.some rfl rfl rfl hc9) rfl ?_
            refine JL.bin rfl rfl rfl (.some rfl rfl rfl hc9) rfl ?_
            refine JL.pick_f (b := ((((decide (times < 1)) || (decide (100 < times))) || (decide (r < 1))) || (decide (2000 < r)))) rfl hc9 .none rfl ?_
            exact hJ8 _ ⟨rfl, rfl, rfl, or_f hc9 rfl⟩
        · rintro f ⟨hf1, hf2, hf3, hf37⟩
          refine (JL.norm (i := 1) hf1 (JL.norm (i := 2) hf2 (JL.norm (i := 3) hf3 (JL.norm (i := 37) hf37 ?_))))
          refine JL.move .none rfl ?_
          refine JL.cut 4 (fun f => f 1 = .int .i64 r ∧ f 2 = .int .i64 times ∧ f 3 = .pointer (some ⟨b1, 0, none⟩) ∧ f 42 = .bool ((((((decide (times < 1)) || (decide (100 < times))) || (decide (r < 1))) || (decide (2000 < r))) || (decide (p.Arm < 1))) || (decide (2000 < p.Arm)))) ?_ ?_
          · intro hJ10
            rcases bcases (((((decide (times < 1)) || (decide (100 < times))) || (decide (r < 1))) || (decide (2000 < r))) || (decide (p.Arm < 1))) with hc11 | hc11
            · skip
              refine JL.skip (.bool rfl rfl rfl hc11) rfl ?_
              refine JL.skip (.bool rfl rfl rfl hc11) rfl ?_
              refine JL.skip (.bool rfl rfl rfl hc11) rfl ?_
              refine JL.pick_t (b := (((((decide (times < 1)) || (decide (100 < times))) || (decide (r < 1))) || (decide (2000 < r))) || (decide (p.Arm < 1)))) rfl hc11 .none rfl ?_
              exact hJ10 _ ⟨rfl, rfl, rfl, or_t hc11 rfl⟩
            · skip
              refine JL.fieldAddr fo_45_0 rfl (.some rfl rfl rfl hc11) rfl ?_
              refine JL.loadOwn 0 az_3 rfl rfl rfl (.some rfl rfl rfl hc11) rfl ?_
              refine JL.bin rfl rfl rfl (.some rfl rfl rfl hc11) rfl ?_
              refine JL.pick_f (b := (((((decide (times < 1)) || (decide (100 < times))) || (decide (r < 1))) || (decide (2000 < r))) || (decide (p.Arm < 1)))) rfl hc11 .none rfl ?_
              exact hJ10 _ ⟨rfl, rfl, rfl, or_f hc11 rfl⟩
          · rintro f ⟨hf1, hf2, hf3, hf42⟩
            refine (JL.norm (i := 1) hf1 (JL.norm (i := 2) hf2 (JL.norm (i := 3) hf3 (JL.norm (i := 42) hf42 ?_))))
            refine JL.move .none rfl ?_
            refine JL.cut 4 (fun f => f 1 = .int .i64 r ∧ f 2 = .int .i64 times ∧ f 3 = .pointer (some ⟨b1, 0, none⟩) ∧ f 47 = .bool (((((((decide (times < 1)) || (decide (100 < times))) || (decide (r < 1))) || (decide (2000 < r))) || (decide (p.Arm < 1))) || (decide (2000 < p.Arm))) || (decide (p.Stretch < 1)))) ?_ ?_
            · intro hJ12
              rcases bcases ((((((decide (times < 1)) || (decide (100 < times))) || (decide (r < 1))) || (decide (2000 < r))) || (decide (p.Arm < 1))) || (decide (2000 < p.Arm))) with hc13 | hc13
              · skip
                refine JL.skip (.bool rfl rfl rfl hc13) rfl ?_
                refine JL.skip (.bool rfl rfl rfl hc13) rfl ?_
                refine JL.skip (.bool rfl rfl rfl hc13) rfl ?_
                refine JL.pick_t (b := ((((((decide (times < 1)) || (decide (100 < times))) || (decide (r < 1))) || (decide (2000 < r))) || (decide (p.Arm < 1))) || (decide (2000 < p.Arm)))) rfl hc13 .none rfl ?_
                exact hJ12 _ ⟨rfl, rfl, rfl, or_t hc13 rfl⟩
              · skip
                refine JL.fieldAddr fo_45_1 rfl (.some rfl rfl rfl hc13) rfl ?_
                refine JL.loadOwn 0 az_3 rfl rfl rfl (.some rfl rfl rfl hc13) rfl ?_
                refine JL.bin rfl rfl rfl (.some rfl rfl rfl hc13) rfl ?_
                refine JL.pick_f (b := ((((((decide (times < 1)) || (decide (100 < times))) || (decide (r < 1))) || (decide (2000 < r))) || (decide (p.Arm < 1))) || (decide (2000 < p.Arm)))) rfl hc13 .none rfl ?_
                exact hJ12 _ ⟨rfl, rfl, rfl, or_f hc13 rfl⟩
            · rintro f ⟨hf1, hf2, hf3, hf47⟩
              refine (JL.norm (i := 1) hf1 (JL.norm (i := 2) hf2 (JL.norm (i := 3) hf3 (JL.norm (i := 47) hf47 ?_))))
              refine JL.move .none rfl ?_
              refine JL.cut 4 (fun f => f 1 = .int .i64 r ∧ f 2 = .int .i64 times ∧ f 3 = .pointer (some ⟨b1, 0, none⟩) ∧ f 52 = .bool ((((((((decide (times < 1)) || (decide (100 < times))) || (decide (r < 1))) || (decide (2000 < r))) || (decide (p.Arm < 1))) || (decide (2000 < p.Arm))) || (decide (p.Stretch < 1))) || (decide (2000 < p.Stretch)))) ?_ ?_
              · intro hJ14
                rcases bcases (((((((decide (times < 1)) || (decide (100 < times))) || (decide (r < 1))) || (decide (2000 < r))) || (decide (p.Arm < 1))) || (decide (2000 < p.Arm))) || (decide (p.Stretch < 1))) with hc15 | hc15
                · skip
                  refine JL.skip (.bool rfl rfl rfl hc15) rfl ?_
                  refine JL.skip (.bool rfl rfl rfl hc15) rfl ?_
                  refine JL.skip (.bool rfl rfl rfl hc15) rfl ?_
                  refine JL.pick_t (b := (((((((decide (times < 1)) || (decide (100 < times))) || (decide (r < 1))) || (decide (2000 < r))) || (decide (p.Arm < 1))) || (decide (2000 < p.Arm))) || (decide (p.Stretch < 1)))) rfl hc15 .none rfl ?_
                  exact hJ14 _ ⟨rfl, rfl, rfl, or_t hc15 rfl⟩
                · skip
                  refine JL.fieldAddr fo_45_1 rfl (.some rfl rfl rfl hc15) rfl ?_
                  refine JL.loadOwn 0 az_3 rfl rfl rfl (.some rfl rfl rfl hc15) rfl ?_
                  refine JL.bin rfl rfl rfl (.some rfl rfl rfl hc15) rfl ?_
                  refine JL.pick_f (b := (((((((decide (times < 1)) || (decide (100 < times))) || (decide (r < 1))) || (decide (2000 < r))) || (decide (p.Arm < 1))) || (decide (2000 < p.Arm))) || (decide (p.Stretch < 1)))) rfl hc15 .none rfl ?_
                  exact hJ14 _ ⟨rfl, rfl, rfl, or_f hc15 rfl⟩
              · rintro f ⟨hf1, hf2, hf3, hf52⟩
                refine (JL.norm (i := 1) hf1 (JL.norm (i := 2) hf2 (JL.norm (i := 3) hf3 (JL.norm (i := 52) hf52 ?_))))
                refine JL.done hQ ?_
                refine JQ.go ?_
                rcases ite_some hF with ⟨hc16, hF⟩ | ⟨hc16, hF⟩
                · refine JC.cond_t (b := ((((((((decide (times < 1)) || (decide (100 < times))) || (decide (r < 1))) || (decide (2000 < r))) || (decide (p.Arm < 1))) || (decide (2000 < p.Arm))) || (decide (p.Stretch < 1))) || (decide (2000 < p.Stretch)))) rfl hc16 ?_
                  refine JC.seq ?_
                  refine JC.region (by rfl) ?_
                  intro hQ
                  obtain ⟨y17, hy17, hF⟩ := bind_some hF
                  refine JL.callS (c_law01_works n H y17 hy17) rfl en_12 .none rfl ?_
                  refine JL.assign .none rfl ?_
                  refine JL.done hQ ?_
                  refine JQ.go ?_
                  refine JC.ret ?_
                  refine JQ.ret_then ?_
                  obtain rfl := Option.some.inj hF
                  exact JQ.outS rfl (.tmp .nil) rfl
                · refine JC.cond_f (b := ((((((((decide (times < 1)) || (decide (100 < times))) || (decide (r < 1))) || (decide (2000 < r))) || (decide (p.Arm < 1))) || (decide (2000 < p.Arm))) || (decide (p.Stretch < 1))) || (decide (2000 < p.Stretch)))) rfl hc16 ?_
                  refine JC.skip ?_
                  refine JQ.go ?_
                  refine JC.seq ?_
                  refine JC.region (by rfl) ?_
                  intro hQ
                  refine JL.loadOwn 0 az_45 rfl rfl rfl .none rfl ?_
                  refine JL.move .none rfl ?_
                  obtain ⟨y18, hy18, hF⟩ := bind_some hF
                  refine JL.callH (c_law01_single n H p r y18 hy18) rfl en_31 .none rfl ?_
                  rintro H19 vv20 hs19 ⟨y18a_v0, rfl, hy18a_0⟩
                  refine JL.alloc ze_26 .none rfl ?_
                  intro b21
                  refine JL.storeOwn 0 (cs := [y18a_v0, .int .i64 y18.Low, .int .i64 y18.High, .int .i64 y18.Ease.Num, .int .i64 y18.Ease.Den, .int .i64 y18.Rod, .int .i64 y18.Case]) az_26 rfl rfl rfl (one_cons (SL.one hy18a_0) (one_cons rfl (one_cons rfl (one_cons rfl (one_cons rfl (one_cons rfl (one_cons rfl one_nil))))))) rfl rfl .none ?_
                  refine JL.done hQ ?_
                  refine JQ.go ?_
                  refine JC.seq ?_
                  refine JC.region (by rfl) ?_
                  intro hQ
                  refine JL.fieldAddr fo_45_0 rfl .none rfl ?_
                  refine JL.loadOwn 1 az_3 rfl rfl rfl .none rfl ?_
                  refine JL.move .none rfl ?_
                  refine JL.bin rfl rfl rfl .none rfl ?_
                  refine JL.fieldAddr fo_45_1 rfl .none rfl ?_
                  refine JL.loadOwn 1 az_3 rfl rfl rfl .none rfl ?_
                  refine JL.move .none rfl ?_
                  refine JL.bin rfl rfl rfl .none rfl ?_
                  refine JL.build (l := [.int .i64 (w64 (p.Arm * times)), .int .i64 (w64 (p.Stretch * times))]) (by kernel_rfl) .none rfl ?_
                  refine JL.move .none rfl ?_
                  refine JL.move .none rfl ?_
                  refine JL.bin rfl rfl rfl .none rfl ?_
                  obtain ⟨y22, hy22, hF⟩ := bind_some hF
                  refine JL.callH (c_law01_single n H19 (ref01_Pair.mk (w64 (p.Arm * times)) (w64 (p.Stretch * times))) (w64 (r * times)) y22 hy22) rfl en_31 .none rfl ?_
                  rintro H23 vv24 hs23 ⟨y22a_v0, rfl, hy22a_0⟩
                  refine JL.alloc ze_26 .none rfl ?_
                  intro b25
                  refine JL.storeOwn 0 (cs := [y22a_v0, .int .i64 y22.Low, .int .i64 y22.High, .int .i64 y22.Ease.Num, .int .i64 y22.Ease.Den, .int .i64 y22.Rod, .int .i64 y22.Case]) az_26 rfl rfl rfl (one_cons (SL.one hy22a_0) (one_cons rfl (one_cons rfl (one_cons rfl (one_cons rfl (one_cons rfl (one_cons rfl one_nil))))))) rfl rfl .none ?_
                  refine JL.done hQ ?_
                  refine JQ.go ?_
                  refine JC.fresh (fun f => f 1 = .int .i64 r ∧ f 2 = .int .i64 times ∧ f 7 = .pointer (some ⟨b21, 0, none⟩) ∧ f 8 = .pointer (some ⟨b25, 0, none⟩)) ⟨rfl, rfl, rfl, rfl⟩ ?_
                  rintro f ⟨hf1, hf2, hf7, hf8⟩
                  refine (JC.norm (i := 1) hf1 (JC.norm (i := 2) hf2 (JC.norm (i := 7) hf7 (JC.norm (i := 8) hf8 ?_))))
                  refine JC.seq ?_
                  refine JC.seq ?_
                  refine JC.region (by rfl) ?_
                  intro hQ
                  refine JL.loadOwn 0 az_26 rfl rfl rfl .none rfl ?_
                  obtain ⟨y26, hy26, hF⟩ := bind_some hF
                  refine JL.callS (c_ref01_Check n H23 y22 y22a_v0 hy22a_0 y26 hy26) rfl en_15 .none rfl ?_
                  refine JL.bin rfl rfl rfl .none rfl ?_
                  refine JL.done hQ ?_
                  refine JQ.go ?_
                  rcases ite_some hF with ⟨hc27, hF⟩ | ⟨hc27, hF⟩
                  · refine JC.cond_t (b := (y26 != 0)) rfl hc27 ?_
                    refine JC.seq ?_
                    refine JC.region (by rfl) ?_
                    intro hQ
                    obtain ⟨y28, hy28, hF⟩ := bind_some hF
                    refine JL.callS (c_law01_works n H23 y28 hy28) rfl en_12 .none rfl ?_
                    refine JL.assign .none rfl ?_
                    refine JL.done hQ ?_
                    refine JQ.go ?_
                    refine JC.ret ?_
                    refine JQ.ret_then ?_
                    obtain rfl := Option.some.inj hF
                    exact JQ.outS rfl (.tmp .nil) rfl
                  · refine JC.cond_f (b := (y26 != 0)) rfl hc27 ?_
                    refine JC.skip ?_
                    refine JQ.go ?_
                    refine JC.seq ?_
                    refine JC.region (by rfl) ?_
                    intro hQ
                    refine JL.loadOwn 1 az_26 rfl rfl rfl .none rfl ?_
                    refine JL.move .none rfl ?_
                    obtain ⟨y29, hy29, hF⟩ := bind_some hF
                    refine JL.callS (c_frames_Cosine n H23 y18 y18a_v0 (SL.mono R_Section_mono hs23 hy18a_0) 0 r y29 hy29) rfl en_18 .none rfl ?_
                    refine JL.move .none rfl ?_
                    refine JL.extract rfl rfl .none rfl ?_
                    refine JL.extract rfl rfl .none rfl ?_
                    refine JL.extract rfl rfl .none rfl ?_
                    refine JL.alloc ze_24 .none rfl ?_
                    intro b30
                    refine JL.alloc ze_24 .none rfl ?_
                    intro b31
                    refine JL.storeOwn 1 (cs := [.int .i64 y29.1.Num, .int .i64 y29.1.Den]) az_24 rfl rfl rfl (one_cons rfl (one_cons rfl one_nil)) rfl rfl .none ?_
                    refine JL.storeOwn 0 (cs := [.int .i64 y29.2.1.Num, .int .i64 y29.2.1.Den]) az_24 rfl rfl rfl (one_cons rfl (one_cons rfl one_nil)) rfl rfl .none ?_
                    refine JL.assign .none rfl ?_
                    refine JL.done hQ ?_
                    refine JQ.go ?_
                    refine JC.fresh (fun f => f 1 = .int .i64 r ∧ f 2 = .int .i64 times ∧ f 7 = .pointer (some ⟨b21, 0, none⟩) ∧ f 8 = .pointer (some ⟨b25, 0, none⟩) ∧ f 9 = .pointer (some ⟨b30, 0, none⟩) ∧ f 10 = .pointer (some ⟨b31, 0, none⟩) ∧ f 11 = .int .i64 y29.2.2) ⟨rfl, rfl, rfl, rfl, rfl, rfl, rfl⟩ ?_
                    rintro f ⟨hf1, hf2, hf7, hf8, hf9, hf10, hf11⟩
                    refine (JC.norm (i := 1) hf1 (JC.norm (i := 2) hf2 (JC.norm (i := 7) hf7 (JC.norm (i := 8) hf8 (JC.norm (i := 9) hf9 (JC.norm (i := 10) hf10 (JC.norm (i := 11) hf11 ?_)))))))
                    refine JC.seq ?_
                    refine JC.region (by rfl) ?_
                    intro hQ
                    refine JL.loadOwn 2 az_26 rfl rfl rfl .none rfl ?_
                    refine JL.move .none rfl ?_
                    refine JL.move .none rfl ?_
                    refine JL.bin rfl rfl rfl .none rfl ?_
                    obtain ⟨y32, hy32, hF⟩ := bind_some hF
                    refine JL.callS (c_frames_Cosine n H23 y22 y22a_v0 hy22a_0 0 (w64 (r * times)) y32 hy32) rfl en_18 .none rfl ?_
                    refine JL.move .none rfl ?_
                    refine JL.extract rfl rfl .none rfl ?_
                    refine JL.extract rfl rfl .none rfl ?_
                    refine JL.extract rfl rfl .none rfl ?_
                    refine JL.alloc ze_24 .none rfl ?_
                    intro b33
                    refine JL.alloc ze_24 .none rfl ?_
                    intro b34
                    refine JL.storeOwn 1 (cs := [.int .i64 y32.1.Num, .int .i64 y32.1.Den]) az_24 rfl rfl rfl (one_cons rfl (one_cons rfl one_nil)) rfl rfl .none ?_
                    refine JL.storeOwn 0 (cs := [.int .i64 y32.2.1.Num, .int .i64 y32.2.1.Den]) az_24 rfl rfl rfl (one_cons rfl (one_cons rfl one_nil)) rfl rfl .none ?_
                    refine JL.assign .none rfl ?_
                    refine JL.done hQ ?_
                    refine JQ.go ?_
                    refine JC.fresh (fun f => f 1 = .int .i64 r ∧ f 2 = .int .i64 times ∧ f 7 = .pointer (some ⟨b21, 0, none⟩) ∧ f 8 = .pointer (some ⟨b25, 0, none⟩) ∧ f 9 = .pointer (some ⟨b30, 0, none⟩) ∧ f 10 = .pointer (some ⟨b31, 0, none⟩) ∧ f 11 = .int .i64 y29.2.2 ∧ f 12 = .pointer (some ⟨b33, 0, none⟩) ∧ f 13 = .pointer (some ⟨b34, 0, none⟩) ∧ f 14 = .int .i64 y32.2.2) ⟨rfl, rfl, rfl, rfl, rfl, rfl, rfl, rfl, rfl, rfl⟩ ?_
                    rintro f ⟨hf1, hf2, hf7, hf8, hf9, hf10, hf11, hf12, hf13, hf14⟩
                    refine (JC.norm (i := 1) hf1 (JC.norm (i := 2) hf2 (JC.norm (i := 7) hf7 (JC.norm (i := 8) hf8 (JC.norm (i := 9) hf9 (JC.norm (i := 10) hf10 (JC.norm (i := 11) hf11 (JC.norm (i := 12) hf12 (JC.norm (i := 13) hf13 (JC.norm (i := 14) hf14 ?_))))))))))
                    refine JC.seq ?_
                    refine JC.region (by rfl) ?_
                    intro hQ
                    refine JL.loadOwn 5 az_26 rfl rfl rfl .none rfl ?_
                    refine JL.move .none rfl ?_
                    obtain ⟨y35, hy35, hF⟩ := bind_some hF
                    refine JL.callS (c_frames_Binds n H23 y18 y18a_v0 (SL.mono R_Section_mono hs23 hy18a_0) 0 r y35 hy35) rfl en_20 .none rfl ?_
                    refine JL.move .none rfl ?_
                    refine JL.extract rfl rfl .none rfl ?_
                    refine JL.extract rfl rfl .none rfl ?_
                    refine JL.assign .none rfl ?_
                    refine JL.assign .none rfl ?_
                    refine JL.done hQ ?_
                    refine JQ.go ?_
                    refine JC.seq ?_
                    refine JC.region (by rfl) ?_
                    intro hQ
                    refine JL.loadOwn 4 az_26 rfl rfl rfl .none rfl ?_
                    refine JL.move .none rfl ?_
                    refine JL.move .none rfl ?_
                    refine JL.bin rfl rfl rfl .none rfl ?_
                    obtain ⟨y36, hy36, hF⟩ := bind_some hF
                    refine JL.callS (c_frames_Binds n H23 y22 y22a_v0 hy22a_0 0 (w64 (r * times)) y36 hy36) rfl en_20 .none rfl ?_
                    refine JL.move .none rfl ?_
                    refine JL.extract rfl rfl .none rfl ?_
                    refine JL.extract rfl rfl .none rfl ?_
                    refine JL.assign .none rfl ?_
                    refine JL.assign .none rfl ?_
                    refine JL.done hQ ?_
                    refine JQ.go ?_
                    refine JC.fresh (fun f => f 9 = .pointer (some ⟨b30, 0, none⟩) ∧ f 10 = .pointer (some ⟨b31, 0, none⟩) ∧ f 11 = .int .i64 y29.2.2 ∧ f 12 = .pointer (some ⟨b33, 0, none⟩) ∧ f 13 = .pointer (some ⟨b34, 0, none⟩) ∧ f 14 = .int .i64 y32.2.2 ∧ f 15 = .int .i64 y35.1 ∧ f 16 = .int .i64 y35.2 ∧ f 17 = .int .i64 y36.1 ∧ f 18 = .int .i64 y36.2) ⟨rfl, rfl, rfl, rfl, rfl, rfl, rfl, rfl, rfl, rfl⟩ ?_
                    rintro f ⟨hf9, hf10, hf11, hf12, hf13, hf14, hf15, hf16, hf17, hf18⟩
                    refine (JC.norm (i := 9) hf9 (JC.norm (i := 10) hf10 (JC.norm (i := 11) hf11 (JC.norm (i := 12) hf12 (JC.norm (i := 13) hf13 (JC.norm (i := 14) hf14 (JC.norm (i := 15) hf15 (JC.norm (i := 16) hf16 (JC.norm (i := 17) hf17 (JC.norm (i := 18) hf18 ?_))))))))))
                    refine JC.seq ?_
                    refine JC.region (by rfl) ?_
                    intro hQ
                    refine JL.move .none rfl ?_
                    refine JL.bin rfl rfl rfl .none rfl ?_
                    refine JL.move .none rfl ?_
                    refine JL.cut 3 (fun f => f 9 = .pointer (some ⟨b30, 0, none⟩) ∧ f 10 = .pointer (some ⟨b31, 0, none⟩) ∧ f 12 = .pointer (some ⟨b33, 0, none⟩) ∧ f 13 = .pointer (some ⟨b34, 0, none⟩) ∧ f 15 = .int .i64 y35.1 ∧ f 16 = .int .i64 y35.2 ∧ f 17 = .int .i64 y36.1 ∧ f 18 = .int .i64 y36.2 ∧ f 109 = .bool ((y29.2.2 == 0) && (y32.2.2 == 0))) ?_ ?_
                    · intro hJ37
                      rcases bcases (y29.2.2 == 0) with hc38 | hc38
                      · skip
                        refine JL.move (.some rfl rfl rfl hc38) rfl ?_
                        refine JL.bin rfl rfl rfl (.some rfl rfl rfl hc38) rfl ?_
                        refine JL.pick_t (b := (y29.2.2 == 0)) rfl hc38 .none rfl ?_
                        exact hJ37 _ ⟨rfl, rfl, rfl, rfl, rfl, rfl, rfl, rfl, and_t hc38 rfl⟩
                      · skip
                        refine JL.skip (.bool rfl rfl rfl hc38) rfl ?_
                        refine JL.skip (.bool rfl rfl rfl hc38) rfl ?_
                        refine JL.pick_f (b := (y29.2.2 == 0)) rfl hc38 .none rfl ?_
                        exact hJ37 _ ⟨rfl, rfl, rfl, rfl, rfl, rfl, rfl, rfl, and_f hc38 rfl⟩
                    · rintro f ⟨hf9, hf10, hf12, hf13, hf15, hf16, hf17, hf18, hf109⟩
                      refine (JL.norm (i := 9) hf9 (JL.norm (i := 10) hf10 (JL.norm (i := 12) hf12 (JL.norm (i := 13) hf13 (JL.norm (i := 15) hf15 (JL.norm (i := 16) hf16 (JL.norm (i := 17) hf17 (JL.norm (i := 18) hf18 (JL.norm (i := 109) hf109 ?_)))))))))
                      refine JL.move .none rfl ?_
                      refine JL.cut 3 (fun f => f 9 = .pointer (some ⟨b30, 0, none⟩) ∧ f 10 = .pointer (some ⟨b31, 0, none⟩) ∧ f 12 = .pointer (some ⟨b33, 0, none⟩) ∧ f 13 = .pointer (some ⟨b34, 0, none⟩) ∧ f 15 = .int .i64 y35.1 ∧ f 17 = .int .i64 y36.1 ∧ f 18 = .int .i64 y36.2 ∧ f 113 = .bool (((y29.2.2 == 0) && (y32.2.2 == 0)) && (y35.2 == 0))) ?_ ?_
                      · intro hJ39
                        rcases bcases ((y29.2.2 == 0) && (y32.2.2 == 0)) with hc40 | hc40
                        · skip
                          refine JL.move (.some rfl rfl rfl hc40) rfl ?_
                          refine JL.bin rfl rfl rfl (.some rfl rfl rfl hc40) rfl ?_
                          refine JL.pick_t (b := ((y29.2.2 == 0) && (y32.2.2 == 0))) rfl hc40 .none rfl ?_
                          exact hJ39 _ ⟨rfl, rfl, rfl, rfl, rfl, rfl, rfl, and_t hc40 rfl⟩
                        · skip
                          refine JL.skip (.bool rfl rfl rfl hc40) rfl ?_
                          refine JL.skip (.bool rfl rfl rfl hc40) rfl ?_
                          refine JL.pick_f (b := ((y29.2.2 == 0) && (y32.2.2 == 0))) rfl hc40 .none rfl ?_
                          exact hJ39 _ ⟨rfl, rfl, rfl, rfl, rfl, rfl, rfl, and_f hc40 rfl⟩
                      · rintro f ⟨hf9, hf10, hf12, hf13, hf15, hf17, hf18, hf113⟩
                        refine (JL.norm (i := 9) hf9 (JL.norm (i := 10) hf10 (JL.norm (i := 12) hf12 (JL.norm (i := 13) hf13 (JL.norm (i := 15) hf15 (JL.norm (i := 17) hf17 (JL.norm (i := 18) hf18 (JL.norm (i := 113) hf113 ?_))))))))
                        refine JL.move .none rfl ?_
                        refine JL.cut 3 (fun f => f 9 = .pointer (some ⟨b30, 0, none⟩) ∧ f 10 = .pointer (some ⟨b31, 0, none⟩) ∧ f 12 = .pointer (some ⟨b33, 0, none⟩) ∧ f 13 = .pointer (some ⟨b34, 0, none⟩) ∧ f 15 = .int .i64 y35.1 ∧ f 17 = .int .i64 y36.1 ∧ f 117 = .bool ((((y29.2.2 == 0) && (y32.2.2 == 0)) && (y35.2 == 0)) && (y36.2 == 0))) ?_ ?_
                        · intro hJ41
                          rcases bcases (((y29.2.2 == 0) && (y32.2.2 == 0)) && (y35.2 == 0)) with hc42 | hc42
                          · skip
                            refine JL.move (.some rfl rfl rfl hc42) rfl ?_
                            refine JL.bin rfl rfl rfl (.some rfl rfl rfl hc42) rfl ?_
                            refine JL.pick_t (b := (((y29.2.2 == 0) && (y32.2.2 == 0)) && (y35.2 == 0))) rfl hc42 .none rfl ?_
                            exact hJ41 _ ⟨rfl, rfl, rfl, rfl, rfl, rfl, and_t hc42 rfl⟩
                          · skip
                            refine JL.skip (.bool rfl rfl rfl hc42) rfl ?_
                            refine JL.skip (.bool rfl rfl rfl hc42) rfl ?_
                            refine JL.pick_f (b := (((y29.2.2 == 0) && (y32.2.2 == 0)) && (y35.2 == 0))) rfl hc42 .none rfl ?_
                            exact hJ41 _ ⟨rfl, rfl, rfl, rfl, rfl, rfl, and_f hc42 rfl⟩
                        · rintro f ⟨hf9, hf10, hf12, hf13, hf15, hf17, hf117⟩
                          refine (JL.norm (i := 9) hf9 (JL.norm (i := 10) hf10 (JL.norm (i := 12) hf12 (JL.norm (i := 13) hf13 (JL.norm (i := 15) hf15 (JL.norm (i := 17) hf17 (JL.norm (i := 117) hf117 ?_)))))))
                          refine JL.move .none rfl ?_
                          refine JL.cut 4 (fun f => f 9 = .pointer (some ⟨b30, 0, none⟩) ∧ f 12 = .pointer (some ⟨b33, 0, none⟩) ∧ f 13 = .pointer (some ⟨b34, 0, none⟩) ∧ f 15 = .int .i64 y35.1 ∧ f 17 = .int .i64 y36.1 ∧ f 122 = .bool (((((y29.2.2 == 0) && (y32.2.2 == 0)) && (y35.2 == 0)) && (y36.2 == 0)) && ((y29.1.Num == y29.2.1.Num) && (y29.1.Den == y29.2.1.Den)))) ?_ ?_
                          · intro hJ43
                            rcases bcases ((((y29.2.2 == 0) && (y32.2.2 == 0)) && (y35.2 == 0)) && (y36.2 == 0)) with hc44 | hc44
                            · skip
                              refine JL.loadOwn 3 az_24 rfl rfl rfl (.some rfl rfl rfl hc44) rfl ?_
                              refine JL.loadOwn 2 az_24 rfl rfl rfl (.some rfl rfl rfl hc44) rfl ?_
                              refine JL.eqAgg eqg_24 rfl rfl (fun w => eqa_24 y29.1.Num y29.1.Den y29.2.1.Num y29.2.1.Den w) (.some rfl rfl rfl hc44) rfl ?_
                              refine JL.pick_t (b := ((((y29.2.2 == 0) && (y32.2.2 == 0)) && (y35.2 == 0)) && (y36.2 == 0))) rfl hc44 .none rfl ?_
                              exact hJ43 _ ⟨rfl, rfl, rfl, rfl, rfl, and_t hc44 rfl⟩
                            · skip
                              refine JL.skip (.bool rfl rfl rfl hc44) rfl ?_
                              refine JL.skip (.bool rfl rfl rfl hc44) rfl ?_
                              refine JL.skip (.bool rfl rfl rfl hc44) rfl ?_
                              refine JL.pick_f (b := ((((y29.2.2 == 0) && (y32.2.2 == 0)) && (y35.2 == 0)) && (y36.2 == 0))) rfl hc44 .none rfl ?_
                              exact hJ43 _ ⟨rfl, rfl, rfl, rfl, rfl, and_f hc44 rfl⟩
                          · rintro f ⟨hf9, hf12, hf13, hf15, hf17, hf122⟩
                            refine (JL.norm (i := 9) hf9 (JL.norm (i := 12) hf12 (JL.norm (i := 13) hf13 (JL.norm (i := 15) hf15 (JL.norm (i := 17) hf17 (JL.norm (i := 122) hf122 ?_))))))
                            refine JL.move .none rfl ?_
                            refine JL.cut 4 (fun f => f 9 = .pointer (some ⟨b30, 0, none⟩) ∧ f 13 = .pointer (some ⟨b34, 0, none⟩) ∧ f 15 = .int .i64 y35.1 ∧ f 17 = .int .i64 y36.1 ∧ f 127 = .bool ((((((y29.2.2 == 0) && (y32.2.2 == 0)) && (y35.2 == 0)) && (y36.2 == 0)) && ((y29.1.Num == y29.2.1.Num) && (y29.1.Den == y29.2.1.Den))) && ((y29.1.Num == y32.1.Num) && (y29.1.Den == y32.1.Den)))) ?_ ?_
                            · intro hJ45
                              rcases bcases (((((y29.2.2 == 0) && (y32.2.2 == 0)) && (y35.2 == 0)) && (y36.2 == 0)) && ((y29.1.Num == y29.2.1.Num) && (y29.1.Den == y29.2.1.Den))) with hc46 | hc46
                              · skip
                                refine JL.loadOwn 3 az_24 rfl rfl rfl (.some rfl rfl rfl hc46) rfl ?_
                                refine JL.loadOwn 1 az_24 rfl rfl rfl (.some rfl rfl rfl hc46) rfl ?_
                                refine JL.eqAgg eqg_24 rfl rfl (fun w => eqa_24 y29.1.Num y29.1.Den y32.1.Num y32.1.Den w) (.some rfl rfl rfl hc46) rfl ?_
                                refine JL.pick_t (b := (((((y29.2.2 == 0) && (y32.2.2 == 0)) && (y35.2 == 0)) && (y36.2 == 0)) && ((y29.1.Num == y29.2.1.Num) && (y29.1.Den == y29.2.1.Den)))) rfl hc46 .none rfl ?_
                                exact hJ45 _ ⟨rfl, rfl, rfl, rfl, and_t hc46 rfl⟩
                              · skip
                                refine JL.skip (.bool rfl rfl rfl hc46) rfl ?_
                                refine JL.skip (.bool rfl rfl rfl hc46) rfl ?_
                                refine JL.skip (.bool rfl rfl rfl hc46) rfl ?_
                                refine JL.pick_f (b := (((((y29.2.2 == 0) && (y32.2.2 == 0)) && (y35.2 == 0)) && (y36.2 == 0)) && ((y29.1.Num == y29.2.1.Num) && (y29.1.Den == y29.2.1.Den)))) rfl hc46 .none rfl ?_
                                exact hJ45 _ ⟨rfl, rfl, rfl, rfl, and_f hc46 rfl⟩
                            · rintro f ⟨hf9, hf13, hf15, hf17, hf127⟩
                              refine (JL.norm (i := 9) hf9 (JL.norm (i := 13) hf13 (JL.norm (i := 15) hf15 (JL.norm (i := 17) hf17 (JL.norm (i := 127) hf127 ?_)))))
                              refine JL.move .none rfl ?_
                              refine JL.cut 4 (fun f => f 15 = .int .i64 y35.1 ∧ f 17 = .int .i64 y36.1 ∧ f 132 = .bool (((((((y29.2.2 == 0) && (y32.2.2 == 0)) && (y35.2 == 0)) && (y36.2 == 0)) && ((y29.1.Num == y29.2.1.Num) && (y29.1.Den == y29.2.1.Den))) && ((y29.1.Num == y32.1.Num) && (y29.1.Den == y32.1.Den))) && ((y29.1.Num == y32.2.1.Num) && (y29.1.Den == y32.2.1.Den)))) ?_ ?_
                              · intro hJ47
                                rcases bcases ((((((y29.2.2 == 0) && (y32.2.2 == 0)) && (y35.2 == 0)) && (y36.2 == 0)) && ((y29.1.Num == y29.2.1.Num) && (y29.1.Den == y29.2.1.Den))) && ((y29.1.Num == y32.1.Num) && (y29.1.Den == y32.1.Den))) with hc48 | hc48
                                · skip
                                  refine JL.loadOwn 3 az_24 rfl rfl rfl (.some rfl rfl rfl hc48) rfl ?_
                                  refine JL.loadOwn 0 az_24 rfl rfl rfl (.some rfl rfl rfl hc48) rfl ?_
                                  refine JL.eqAgg eqg_24 rfl rfl (fun w => eqa_24 y29.1.Num y29.1.Den y32.2.1.Num y32.2.1.Den w) (.some rfl rfl rfl hc48) rfl ?_
                                  refine JL.pick_t (b := ((((((y29.2.2 == 0) && (y32.2.2 == 0)) && (y35.2 == 0)) && (y36.2 == 0)) && ((y29.1.Num == y29.2.1.Num) && (y29.1.Den == y29.2.1.Den))) && ((y29.1.Num == y32.1.Num) && (y29.1.Den == y32.1.Den)))) rfl hc48 .none rfl ?_
                                  exact hJ47 _ ⟨rfl, rfl, and_t hc48 rfl⟩
                                · skip
                                  refine JL.skip (.bool rfl rfl rfl hc48) rfl ?_
                                  refine JL.skip (.bool rfl rfl rfl hc48) rfl ?_
                                  refine JL.skip (.bool rfl rfl rfl hc48) rfl ?_
                                  refine JL.pick_f (b := ((((((y29.2.2 == 0) && (y32.2.2 == 0)) && (y35.2 == 0)) && (y36.2 == 0)) && ((y29.1.Num == y29.2.1.Num) && (y29.1.Den == y29.2.1.Den))) && ((y29.1.Num == y32.1.Num) && (y29.1.Den == y32.1.Den)))) rfl hc48 .none rfl ?_
                                  exact hJ47 _ ⟨rfl, rfl, and_f hc48 rfl⟩
                              · rintro f ⟨hf15, hf17, hf132⟩
                                refine (JL.norm (i := 15) hf15 (JL.norm (i := 17) hf17 (JL.norm (i := 132) hf132 ?_)))
                                refine JL.move .none rfl ?_
                                refine JL.cut 4 (fun f => f 15 = .int .i64 y35.1 ∧ f 137 = .bool ((((((((y29.2.2 == 0) && (y32.2.2 == 0)) && (y35.2 == 0)) && (y36.2 == 0)) && ((y29.1.Num == y29.2.1.Num) && (y29.1.Den == y29.2.1.Den))) && ((y29.1.Num == y32.1.Num) && (y29.1.Den == y32.1.Den))) && ((y29.1.Num == y32.2.1.Num) && (y29.1.Den == y32.2.1.Den))) && (y35.1 == y36.1))) ?_ ?_
                                · intro hJ49
                                  rcases bcases (((((((y29.2.2 == 0) && (y32.2.2 == 0)) && (y35.2 == 0)) && (y36.2 == 0)) && ((y29.1.Num == y29.2.1.Num) && (y29.1.Den == y29.2.1.Den))) && ((y29.1.Num == y32.1.Num) && (y29.1.Den == y32.1.Den))) && ((y29.1.Num == y32.2.1.Num) && (y29.1.Den == y32.2.1.Den))) with hc50 | hc50
                                  · skip
                                    refine JL.move (.some rfl rfl rfl hc50) rfl ?_
                                    refine JL.move (.some rfl rfl rfl hc50) rfl ?_
                                    refine JL.bin rfl rfl rfl (.some rfl rfl rfl hc50) rfl ?_
                                    refine JL.pick_t (b := (((((((y29.2.2 == 0) && (y32.2.2 == 0)) && (y35.2 == 0)) && (y36.2 == 0)) && ((y29.1.Num == y29.2.1.Num) && (y29.1.Den == y29.2.1.Den))) && ((y29.1.Num == y32.1.Num) && (y29.1.Den == y32.1.Den))) && ((y29.1.Num == y32.2.1.Num) && (y29.1.Den == y32.2.1.Den)))) rfl hc50 .none rfl ?_
                                    exact hJ49 _ ⟨rfl, and_t hc50 rfl⟩
                                  · skip
                                    refine JL.skip (.bool rfl rfl rfl hc50) rfl ?_
                                    refine JL.skip (.bool rfl rfl rfl hc50) rfl ?_
                                    refine JL.skip (.bool rfl rfl rfl hc50) rfl ?_
                                    refine JL.pick_f (b := (((((((y29.2.2 == 0) && (y32.2.2 == 0)) && (y35.2 == 0)) && (y36.2 == 0)) && ((y29.1.Num == y29.2.1.Num) && (y29.1.Den == y29.2.1.Den))) && ((y29.1.Num == y32.1.Num) && (y29.1.Den == y32.1.Den))) && ((y29.1.Num == y32.2.1.Num) && (y29.1.Den == y32.2.1.Den)))) rfl hc50 .none rfl ?_
                                    exact hJ49 _ ⟨rfl, and_f hc50 rfl⟩
                                · rintro f ⟨hf15, hf137⟩
                                  refine (JL.norm (i := 15) hf15 (JL.norm (i := 137) hf137 ?_))
                                  refine JL.move .none rfl ?_
                                  refine JL.cut 3 (fun f => f 141 = .bool (((((((((y29.2.2 == 0) && (y32.2.2 == 0)) && (y35.2 == 0)) && (y36.2 == 0)) && ((y29.1.Num == y29.2.1.Num) && (y29.1.Den == y29.2.1.Den))) && ((y29.1.Num == y32.1.Num) && (y29.1.Den == y32.1.Den))) && ((y29.1.Num == y32.2.1.Num) && (y29.1.Den == y32.2.1.Den))) && (y35.1 == y36.1)) && (y35.1 != 3))) ?_ ?_
                                  · intro hJ51
                                    rcases bcases ((((((((y29.2.2 == 0) && (y32.2.2 == 0)) && (y35.2 == 0)) && (y36.2 == 0)) && ((y29.1.Num == y29.2.1.Num) && (y29.1.Den == y29.2.1.Den))) && ((y29.1.Num == y32.1.Num) && (y29.1.Den == y32.1.Den))) && ((y29.1.Num == y32.2.1.Num) && (y29.1.Den == y32.2.1.Den))) && (y35.1 == y36.1)) with hc52 | hc52
                                    · skip
                                      refine JL.move (.some rfl rfl rfl hc52) rfl ?_
                                      refine JL.bin rfl rfl rfl (.some rfl rfl rfl hc52) rfl ?_
                                      refine JL.pick_t (b := ((((((((y29.2.2 == 0) && (y32.2.2 == 0)) && (y35.2 == 0)) && (y36.2 == 0)) && ((y29.1.Num == y29.2.1.Num) && (y29.1.Den == y29.2.1.Den))) && ((y29.1.Num == y32.1.Num) && (y29.1.Den == y32.1.Den))) && ((y29.1.Num == y32.2.1.Num) && (y29.1.Den == y32.2.1.Den))) && (y35.1 == y36.1))) rfl hc52 .none rfl ?_
                                      exact hJ51 _ (and_t hc52 rfl)
                                    · skip
                                      refine JL.skip (.bool rfl rfl rfl hc52) rfl ?_
                                      refine JL.skip (.bool rfl rfl rfl hc52) rfl ?_
                                      refine JL.pick_f (b := ((((((((y29.2.2 == 0) && (y32.2.2 == 0)) && (y35.2 == 0)) && (y36.2 == 0)) && ((y29.1.Num == y29.2.1.Num) && (y29.1.Den == y29.2.1.Den))) && ((y29.1.Num == y32.1.Num) && (y29.1.Den == y32.1.Den))) && ((y29.1.Num == y32.2.1.Num) && (y29.1.Den == y32.2.1.Den))) && (y35.1 == y36.1))) rfl hc52 .none rfl ?_
                                      exact hJ51 _ (and_f hc52 rfl)
                                  · rintro f hf141
                                    refine (JL.norm (i := 141) hf141 ?_)
                                    refine JL.move .none rfl ?_
                                    obtain ⟨p54, hp54, hF⟩ := bind_some hF
                                    refine JL.cut 2 (fun f => f 144 = .bool p54) ?_ ?_
                                    · intro hJ55
                                      rcases ite_some hp54 with ⟨hc56, hF⟩ | ⟨hc56, hF⟩
                                      · skip
                                        obtain ⟨y57, hy57, hF⟩ := bind_some hF
                                        refine JL.callS (c_law01_works n H23 y57 hy57) rfl en_12 (.some rfl rfl rfl hc56) rfl ?_
                                        refine JL.pick_t (b := (((((((((y29.2.2 == 0) && (y32.2.2 == 0)) && (y35.2 == 0)) && (y36.2 == 0)) && ((y29.1.Num == y29.2.1.Num) && (y29.1.Den == y29.2.1.Den))) && ((y29.1.Num == y32.1.Num) && (y29.1.Den == y32.1.Den))) && ((y29.1.Num == y32.2.1.Num) && (y29.1.Den == y32.2.1.Den))) && (y35.1 == y36.1)) && (y35.1 != 3))) rfl hc56 .none rfl ?_
                                        obtain rfl := Option.some.inj hF
                                        exact hJ55 _ (rfl)
                                      · skip
                                        refine JL.skip (.bool rfl rfl rfl hc56) rfl ?_
                                        refine JL.pick_f (b := (((((((((y29.2.2 == 0) && (y32.2.2 == 0)) && (y35.2 == 0)) && (y36.2 == 0)) && ((y29.1.Num == y29.2.1.Num) && (y29.1.Den == y29.2.1.Den))) && ((y29.1.Num == y32.1.Num) && (y29.1.Den == y32.1.Den))) && ((y29.1.Num == y32.2.1.Num) && (y29.1.Den == y32.2.1.Den))) && (y35.1 == y36.1)) && (y35.1 != 3))) rfl hc56 .none rfl ?_
                                        obtain rfl := Option.some.inj hF
                                        exact hJ55 _ (rfl)
                                    · rintro f hf144
                                      refine (JL.norm (i := 144) hf144 ?_)
                                      refine JL.assign .none rfl ?_
                                      refine JL.done hQ ?_
                                      refine JQ.go ?_
                                      refine JC.ret ?_
                                      obtain rfl := Option.some.inj hF
                                      exact JQ.outS rfl (.tmp .nil) rfl

-- 32 ferrule/frames.Blame
def F_frames_Blame_s1 (n : Nat) (f_ : Frame) : Int × List Int → Option ((Int × List Int) ⊕ (List Int))
  | (x_136, out_137) => if decide (x_136 < (f_.Sections.length : Int)) = true then ((F_frames_stuck n f_ x_136).bind fun y142 => (if (y142 == 1) = true then ((lim (out_137 ++ [x_136])).bind fun l154 => some l154) else (some out_137)).bind fun out_149 => some (Sum.inl ((w64 (x_136 + 1)), out_149))) else (some (Sum.inr out_137))
def F_frames_Blame (n : Nat) (f_ : Frame) : Option ((List Int) × Int) :=
  (F_frames_Check n f_).bind fun y2 => if (y2 != 0) = true then (some (([] : List Int), y2)) else ((loopO n (F_frames_Blame_s1 n f_) (0, ([] : List Int))).bind fun out_93 => some (out_93, 0))
set_option maxRecDepth 100000 in
set_option maxHeartbeats 40000000 in
theorem c_frames_Blame (n : Nat) (H : Hp) (f_ : Frame) (f__v0 : Value) (hf__0 : SL H 7 R_Section f__v0 f_.Sections) (y : (List Int) × Int) (hF : F_frames_Blame n f_ = some y) : HC Try.prog 32 [.agg [f__v0, .int .i64 f_.Low, .int .i64 f_.High, .int .i64 f_.Ease.Num, .int .i64 f_.Ease.Den, .int .i64 f_.Rod, .int .i64 f_.Case].toArray] H (fun H' v => ∃ ra_v0 : Value, v = .tuple [ra_v0, .int .i64 y.2].toArray ∧ SL H' 1 RInt ra_v0 y.1) := by
  rw [F_frames_Blame] at hF
  refine HC.of (N := 28) Try.func32 rfl rfl rfl fun w => ?_
  refine JC.seq ?_
  refine JC.region (by rfl) ?_
  intro hQ
  refine JL.box (cs := [f__v0, .int .i64 f_.Low, .int .i64 f_.High, .int .i64 f_.Ease.Num, .int .i64 f_.Ease.Den, .int .i64 f_.Rod, .int .i64 f_.Case]) rfl .none rfl ?_
  intro b1
  refine JL.assign .none rfl ?_
  refine JL.assign .none rfl ?_
  refine JL.done hQ ?_
  refine JQ.go ?_
  refine JC.seq ?_
  refine JC.seq ?_
  refine JC.region (by rfl) ?_
  intro hQ
  refine JL.loadOwn 0 az_26 rfl rfl rfl .none rfl ?_
  obtain ⟨y2, hy2, hF⟩ := bind_some hF
  refine JL.callS (c_frames_Check n H f_ f__v0 hf__0 y2 hy2) rfl en_14 .none rfl ?_
  refine JL.assign .none rfl ?_
  refine JL.done hQ ?_
  refine JQ.go ?_
  refine JC.seq ?_
  refine JC.region (by rfl) ?_
  intro hQ
  refine JL.move .none rfl ?_
  refine JL.bin rfl rfl rfl .none rfl ?_
  refine JL.done hQ ?_
  refine JQ.go ?_
  rcases ite_some hF with ⟨hc3, hF⟩ | ⟨hc3, hF⟩
  · refine JC.cond_t (b := (y2 != 0)) rfl hc3 ?_
    refine JC.seq ?_
    refine JC.region (by rfl) ?_
    intro hQ
    refine JL.move .none rfl ?_
    refine JL.assign .none rfl ?_
    refine JL.assign .none rfl ?_
    refine JL.done hQ ?_
    refine JQ.go ?_
    refine JC.ret ?_
    refine JQ.ret_then ?_
    obtain rfl := Option.some.inj hF
    exact JQ.outH rfl (.tmp (.tmp .nil)) ⟨(.slice none 0 0), rfl, SL.nil⟩
  · refine JC.cond_f (b := (y2 != 0)) rfl hc3 ?_
    refine JC.skip ?_
    refine JQ.go ?_
    refine JC.seq ?_
    refine JC.region (by rfl) ?_
    intro hQ
    refine JL.assign .none rfl ?_
    refine JL.done hQ ?_
    refine JQ.go ?_
    refine JC.seq ?_
    refine JC.seq ?_
    refine JC.region (by rfl) ?_
    intro hQ
    refine JL.fieldAddr fo_26_0 rfl .none rfl ?_
    refine JL.loadOwn 0 az_22 rfl rfl rfl .none rfl ?_
    refine JL.lenSL (R := R_Section) ul_22 hf__0 .none rfl ?_
    refine JL.move .none rfl ?_
    refine JL.done hQ ?_
    refine JQ.go ?_
    refine JC.fresh (fun f => f 1 = .pointer (some ⟨b1, 0, none⟩) ∧ f 2 = .slice none 0 0 ∧ f 3 = .int .i64 0 ∧ f 5 = .slice none 0 0 ∧ f 14 = .int .i64 (f_.Sections.length : Int) ∧ f 15 = .int .i64 0) ⟨rfl, rfl, rfl, rfl, rfl, rfl⟩ ?_
    rintro f ⟨hf1, hf2, hf3, hf5, hf14, hf15⟩
    refine (JC.norm (i := 1) hf1 (JC.norm (i := 2) hf2 (JC.norm (i := 3) hf3 (JC.norm (i := 5) hf5 (JC.norm (i := 14) hf14 (JC.norm (i := 15) hf15 ?_))))))
    refine JC.newNil (e := 3) (sz := 1) ?_
    obtain ⟨r95, hlr95, hKr95⟩ := bind_some hF
    refine JC.join (fun (out_93 : List Int) H94 f bs gs => ∃ (vout_93 : Value) (xsout_93 : List Value), f 5 = vout_93 ∧ bs = [] ∧ gs = [⟨vout_93, 3, 1, out_93.length, xsout_93⟩] ∧ CH H94 1 RInt xsout_93 out_93 ∧ HSub H H94 ∧ out_93 = r95) ?_ ?_
    · skip
      refine JC.block ?_
      refine JC.loop hlr95 (fun (x : Int × List Int) H138 f bs gs => match x with | (x_136, out_137) => ∃ (vout_137 : Value) (xsout_137 : List Value), f 1 = .pointer (some ⟨b1, 0, none⟩) ∧ f 5 = vout_137 ∧ f 14 = .int .i64 (f_.Sections.length : Int) ∧ f 15 = .int .i64 x_136 ∧ bs = [(b1, .cells [f__v0, .int .i64 f_.Low, .int .i64 f_.High, .int .i64 f_.Ease.Num, .int .i64 f_.Ease.Den, .int .i64 f_.Rod, .int .i64 f_.Case].toArray 26)] ∧ gs = [⟨vout_137, 3, 1, out_137.length, xsout_137⟩] ∧ CH H138 1 RInt xsout_137 out_137 ∧ HSub H H138) ⟨(.slice none 0 0), [], rfl, rfl, rfl, rfl, rfl, rfl, CH.nil, (HSub.refl _)⟩ ?_
      rintro ⟨x_136, out_137⟩ x140 H138 f bs gs ⟨vout_137, xsout_137, hf1, hf5, hf14, hf15, rfl, rfl, hout_137, hs138⟩ hF hr139
      rw [F_frames_Blame_s1] at hF
      refine (JC.norm (i := 1) hf1 (JC.norm (i := 5) hf5 (JC.norm (i := 14) hf14 (JC.norm (i := 15) hf15 ?_))))
      refine JC.seq ?_
      refine JC.region (by rfl) ?_
      intro hQ
      refine JL.bin rfl rfl rfl .none rfl ?_
      refine JL.done hQ ?_
      refine JQ.go ?_
      refine JC.seq ?_
      rcases ite_some hF with ⟨hc141, hF⟩ | ⟨hc141, hF⟩
      · refine JC.cond_t (b := decide (x_136 < (f_.Sections.length : Int))) rfl hc141 ?_
        refine JC.skip ?_
        refine JQ.go ?_
        refine JC.seq ?_
        refine JC.block ?_
        refine JC.seq ?_
        refine JC.region (by rfl) ?_
        intro hQ
        refine JL.move .none rfl ?_
        refine JL.assign .none rfl ?_
        refine JL.done hQ ?_
        refine JQ.go ?_
        refine JC.seq ?_
        refine JC.region (by rfl) ?_
        intro hQ
        refine JL.loadOwn 0 az_26 rfl rfl rfl .none rfl ?_
        refine JL.move .none rfl ?_
        obtain ⟨y142, hy142, hF⟩ := bind_some hF
        refine JL.callS (c_frames_stuck n H138 f_ f__v0 (SL.mono R_Section_mono hs138 hf__0) x_136 y142 hy142) rfl en_70 .none rfl ?_
        refine JL.bin rfl rfl rfl .none rfl ?_
        refine JL.done hQ ?_
        refine JQ.go ?_
        obtain ⟨r151, hlr151, hKr151⟩ := bind_some hF
        refine JC.join (fun (out_149 : List Int) H150 f bs gs => ∃ (vout_149 : Value) (xsout_149 : List Value), f 1 = .pointer (some ⟨b1, 0, none⟩) ∧ f 5 = vout_149 ∧ f 14 = .int .i64 (f_.Sections.length : Int) ∧ f 15 = .int .i64 x_136 ∧ bs = [(b1, .cells [f__v0, .int .i64 f_.Low, .int .i64 f_.High, .int .i64 f_.Ease.Num, .int .i64 f_.Ease.Den, .int .i64 f_.Rod, .int .i64 f_.Case].toArray 26)] ∧ gs = [⟨vout_149, 3, 1, out_149.length, xsout_149⟩] ∧ CH H150 1 RInt xsout_149 out_149 ∧ HSub H138 H150 ∧ out_149 = r151) ?_ ?_
        · have hF := hlr151
          rcases ite_some hF with ⟨hc152, hF⟩ | ⟨hc152, hF⟩
          · refine JC.cond_t (b := (y142 == 1)) rfl hc152 ?_
            refine JC.region (by rfl) ?_
            intro hQ
            refine JL.move .none rfl ?_
            refine JL.move .none rfl ?_
            refine JL.buildSlice (e := 3) (l := [.int .i64 x_136]) (by kernel_rfl) .none rfl ?_
            intro b153
            obtain ⟨l154, hl154, hF⟩ := bind_some hF
            refine JL.appO (R := RInt) 0 0 (l := out_137) (m := [x_136]) ap_54 rfl ⟨rfl, rfl⟩ rfl hout_137 rfl rfl rfl (CH.cons (cs := [.int .i64 x_136]) rfl rfl CH.nil) rfl (one_cons rfl one_nil) hl154 .none rfl ?_
            intro v155 xs156 hch157
            refine JL.assign .none rfl ?_
            refine JL.done hQ ?_
            obtain rfl := Option.some.inj hF
            refine JQ.mask [false, true] [true] ?_
            exact JQ.join l154 ⟨v155, xs156, rfl, rfl, rfl, rfl, rfl, rfl, hch157, (HSub.refl _), rfl⟩
          · refine JC.cond_f (b := (y142 == 1)) rfl hc152 ?_
            refine JC.skip ?_
            obtain rfl := Option.some.inj hF
            exact JQ.join out_137 ⟨vout_137, xsout_137, rfl, rfl, rfl, rfl, rfl, rfl, hout_137, (HSub.refl _), rfl⟩
        · rintro out_149 H150 f bs gs ⟨vout_149, xsout_149, hf1, hf5, hf14, hf15, rfl, rfl, hout_149, hs150, rfl⟩
          have hF := hKr151
          try dsimp only at hF
          refine (JQ.norm (i := 1) hf1 (JQ.norm (i := 5) hf5 (JQ.norm (i := 14) hf14 (JQ.norm (i := 15) hf15 ?_))))
          refine JQ.normal_block ?_
          refine JQ.go ?_
          refine JC.region (by rfl) ?_
          intro hQ
          refine JL.bin rfl rfl rfl .none rfl ?_
          refine JL.move .none rfl ?_
          refine JL.done hQ ?_
          obtain rfl := Option.some.inj hF
          exact JQ.next rfl ⟨vout_149, xsout_149, rfl, rfl, rfl, rfl, rfl, rfl, hout_149, (HSub.trans hs138 hs150)⟩
      · refine JC.cond_f (b := decide (x_136 < (f_.Sections.length : Int))) rfl hc141 ?_
        refine JC.exit ?_
        refine JQ.exit_then ?_
        refine JQ.exit_then ?_
        refine JQ.exit_block ?_
        obtain rfl := Option.some.inj hF
        have ehr139 := hr139 _ rfl
        subst ehr139
        refine JQ.mask [false] [true] ?_
        exact JQ.join out_137 ⟨vout_137, xsout_137, rfl, rfl, rfl, hout_137, hs138, rfl⟩
    · rintro out_93 H94 f bs gs ⟨vout_93, xsout_93, hf5, rfl, rfl, hout_93, hs94, rfl⟩
      have hF := hKr95
      try dsimp only at hF
      refine (JQ.norm (i := 5) hf5 ?_)
      refine JQ.go ?_
      refine JC.seq ?_
      refine JC.region (by rfl) ?_
      intro hQ
      refine JL.move .none rfl ?_
      refine JL.assign .none rfl ?_
      refine JL.assign .none rfl ?_
      refine JL.done hQ ?_
      refine JQ.go ?_
      refine JC.ret ?_
      refine JQ.freezeG 0 (R := RInt) rfl RInt.mono hout_93 rfl ?_
      intro H158 hs158 hg159
      obtain rfl := Option.some.inj hF
      exact JQ.outH rfl (.tmp (.tmp .nil)) ⟨vout_93, rfl, hg159⟩

end Go.Proofs.Ytmgnhaibbeinbaa
