/-
  Printed by a program: functions of the translation as plain functions, and their contracts.
-/
import Derived.Test.YtooankffknoomaaGenK3
namespace Go.Proofs.Ytooankffknoomaa
open Go Go.RowKit Go.Dec
set_option linter.unusedVariables false
-- 13 ferrule/ferrulelaw11.works
def F_law11_works (n : Nat)  : Option Bool :=
  (F_law11_Example n).bind fun y1 => (F_rains_Many n y1).bind fun y5 => (F_rains_Takes n y1 [1, 1, 2]).bind fun y10 => (F_rains_Best n y1).bind fun y12 => (F_rains_Levels n y1 2).bind fun y13 => (if (((((((y5.2 == 0) && (y10.2 == 0)) && (y12.2 == 0)) && (y13.2 == 0)) && (y5.1 == 5)) && ((y10.1.Low == 65) && (y10.1.High == 95))) && (y12.1 == 65)) = true then ((F_law11_sameInts n y13.1 [0, 3]).bind fun y41 => some y41) else (some false) : Option Bool).bind fun p33 => some p33
set_option maxRecDepth 100000 in
set_option maxHeartbeats 40000000 in
theorem c_law11_works (n : Nat) (H : Hp)  (y : Bool) (hF : F_law11_works n = some y) : SC Try.prog 13 [] (.bool y) H := by
  rw [F_law11_works] at hF
  refine SC.of (N := 64) Try.func13 rfl rfl rfl fun w => ?_
  refine JC.seq ?_
  refine JC.region (by rfl) ?_
  intro hQ
  refine JL.assign .none rfl ?_
  refine JL.done hQ ?_
  refine JQ.go ?_
  refine JC.seq ?_
  refine JC.region (by rfl) ?_
  intro hQ
  obtain ⟨y1, hy1, hF⟩ := bind_some hF
  refine JL.callH (c_law11_Example n H y1 hy1) rfl en_45 .none rfl ?_
  rintro H2 vv3 hs2 ⟨y1a_v2, y1a_v4, rfl, hy1a_2, hy1a_4⟩
  refine JL.alloc ze_25 .none rfl ?_
  intro b4
  refine JL.storeOwn 0 (cs := [.int .i64 y1.Days, .int .i64 y1.Step, y1a_v2, .int .i64 y1.Wrong, y1a_v4, .int .i64 y1.Reach, .int .i64 y1.Stock]) az_25 rfl rfl rfl (one_cons rfl (one_cons rfl (one_cons (SL.one hy1a_2) (one_cons rfl (one_cons (SL.one hy1a_4) (one_cons rfl (one_cons rfl one_nil))))))) rfl rfl .none ?_
  refine JL.done hQ ?_
  refine JQ.go ?_
  refine JC.seq ?_
  refine JC.region (by rfl) ?_
  intro hQ
  refine JL.loadOwn 0 az_25 rfl rfl rfl .none rfl ?_
  obtain ⟨y5, hy5, hF⟩ := bind_some hF
  refine JL.callS (c_rains_Many n H2 y1 y1a_v2 hy1a_2 y1a_v4 hy1a_4 y5 hy5) rfl en_29 .none rfl ?_
  refine JL.move .none rfl ?_
  refine JL.extract rfl rfl .none rfl ?_
  refine JL.extract rfl rfl .none rfl ?_
  refine JL.assign .none rfl ?_
  refine JL.assign .none rfl ?_
  refine JL.done hQ ?_
  refine JQ.go ?_
  refine JC.seq ?_
  refine JC.region (by rfl) ?_
  intro hQ
  refine JL.loadOwn 0 az_25 rfl rfl rfl .none rfl ?_
  refine JL.buildSlice (e := 3) (l := [.int .i64 1, .int .i64 1, .int .i64 2]) (by kernel_rfl) .none rfl ?_
  intro b6
  refine JL.freezeC 0 (l := [.int .i64 1, .int .i64 1, .int .i64 2]) rfl ?_
  intro H7 hs7 hc8
  have hg9 : SL H7 1 RInt (.slice (some ⟨b6, 0, none⟩) 3 3) [1, 1, 2] := CH.sl (l := [1, 1, 2]) (CH.cons (cs := [.int .i64 1]) rfl rfl (CH.cons (cs := [.int .i64 1]) rfl rfl (CH.cons (cs := [.int .i64 2]) rfl rfl CH.nil))) hc8 ⟨by simp, by simp⟩
  obtain ⟨y10, hy10, hF⟩ := bind_some hF
  refine JL.callS (c_rains_Takes n H7 y1 y1a_v2 (SL.mono R_Rain_mono hs7 hy1a_2) y1a_v4 (SL.mono R_Fair_mono hs7 hy1a_4) [1, 1, 2] (.slice (some ⟨b6, 0, none⟩) 3 3) hg9 y10 hy10) rfl en_15 .none rfl ?_
  refine JL.move .none rfl ?_
  refine JL.extract rfl rfl .none rfl ?_
  refine JL.extract rfl rfl .none rfl ?_
  refine JL.alloc ze_31 .none rfl ?_
  intro b11
  refine JL.storeOwn 0 (cs := [.int .i64 y10.1.Low, .int .i64 y10.1.High]) az_31 rfl rfl rfl (one_cons rfl (one_cons rfl one_nil)) rfl rfl .none ?_
  refine JL.assign .none rfl ?_
  refine JL.done hQ ?_
  refine JQ.go ?_
  refine JC.fresh (fun f => f 0 = .bool false ∧ f 1 = .pointer (some ⟨b4, 0, none⟩) ∧ f 2 = .int .i64 y5.1 ∧ f 3 = .int .i64 y5.2 ∧ f 4 = .pointer (some ⟨b11, 0, none⟩) ∧ f 5 = .int .i64 y10.2) ⟨rfl, rfl, rfl, rfl, rfl, rfl⟩ ?_
  rintro f ⟨hf0, hf1, hf2, hf3, hf4, hf5⟩
  refine (JC.norm (i := 0) hf0 (JC.norm (i := 1) hf1 (JC.norm (i := 2) hf2 (JC.norm (i := 3) hf3 (JC.norm (i := 4) hf4 (JC.norm (i := 5) hf5 ?_))))))
  refine JC.seq ?_
  refine JC.region (by rfl) ?_
  intro hQ
  refine JL.loadOwn 1 az_25 rfl rfl rfl .none rfl ?_
  obtain ⟨y12, hy12, hF⟩ := bind_some hF
  refine JL.callS (c_rains_Best n H7 y1 y1a_v2 (SL.mono R_Rain_mono hs7 hy1a_2) y1a_v4 (SL.mono R_Fair_mono hs7 hy1a_4) y12 hy12) rfl en_23 .none rfl ?_
  refine JL.move .none rfl ?_
  refine JL.extract rfl rfl .none rfl ?_
  refine JL.extract rfl rfl .none rfl ?_
  refine JL.assign .none rfl ?_
  refine JL.assign .none rfl ?_
  refine JL.done hQ ?_
  refine JQ.go ?_
  refine JC.seq ?_
  refine JC.region (by rfl) ?_
  intro hQ
  refine JL.loadOwn 1 az_25 rfl rfl rfl .none rfl ?_
  obtain ⟨y13, hy13, hF⟩ := bind_some hF
  refine JL.callH (c_rains_Levels n H7 y1 y1a_v2 (SL.mono R_Rain_mono hs7 hy1a_2) y1a_v4 (SL.mono R_Fair_mono hs7 hy1a_4) 2 y13 hy13) rfl en_31 .none rfl ?_
  rintro H14 vv15 hs14 ⟨y13a_v0, rfl, hy13a_0⟩
  refine JL.move .none rfl ?_
  refine JL.extract rfl rfl .none rfl ?_
  refine JL.extract rfl rfl .none rfl ?_
  refine JL.assign .none rfl ?_
  refine JL.assign .none rfl ?_
  refine JL.done hQ ?_
  refine JQ.go ?_
  refine JC.fresh (fun f => f 0 = .bool false ∧ f 2 = .int .i64 y5.1 ∧ f 3 = .int .i64 y5.2 ∧ f 4 = .pointer (some ⟨b11, 0, none⟩) ∧ f 5 = .int .i64 y10.2 ∧ f 6 = .int .i64 y12.1 ∧ f 7 = .int .i64 y12.2 ∧ f 8 = y13a_v0 ∧ f 9 = .int .i64 y13.2) ⟨rfl, rfl, rfl, rfl, rfl, rfl, rfl, rfl, rfl⟩ ?_
  rintro f ⟨hf0, hf2, hf3, hf4, hf5, hf6, hf7, hf8, hf9⟩
  refine (JC.norm (i := 0) hf0 (JC.norm (i := 2) hf2 (JC.norm (i := 3) hf3 (JC.norm (i := 4) hf4 (JC.norm (i := 5) hf5 (JC.norm (i := 6) hf6 (JC.norm (i := 7) hf7 (JC.norm (i := 8) hf8 (JC.norm (i := 9) hf9 ?_)))))))))
  refine JC.seq ?_
  refine JC.region (by rfl) ?_
  intro hQ
  refine JL.move .none rfl ?_
  refine JL.bin rfl rfl rfl .none rfl ?_
  refine JL.move .none rfl ?_
  refine JL.cut 3 (fun f => f 2 = .int .i64 y5.1 ∧ f 4 = .pointer (some ⟨b11, 0, none⟩) ∧ f 6 = .int .i64 y12.1 ∧ f 7 = .int .i64 y12.2 ∧ f 8 = y13a_v0 ∧ f 9 = .int .i64 y13.2 ∧ f 37 = .bool ((y5.2 == 0) && (y10.2 == 0))) ?_ ?_
  · intro hJ16
    rcases bcases (y5.2 == 0) with hc17 | hc17
    · skip
      refine JL.move (.some rfl rfl rfl hc17) rfl ?_
      refine JL.bin rfl rfl rfl (.some rfl rfl rfl hc17) rfl ?_
      refine JL.pick_t (b := (y5.2 == 0)) rfl hc17 .none rfl ?_
      exact hJ16 _ ⟨rfl, rfl, rfl, rfl, rfl, rfl, and_t hc17 rfl⟩
    · skip
      refine JL.skip (.bool rfl rfl rfl hc17) rfl ?_
      refine JL.skip (.bool rfl rfl rfl hc17) rfl ?_
      refine JL.pick_f (b := (y5.2 == 0)) rfl hc17 .none rfl ?_
      exact hJ16 _ ⟨rfl, rfl, rfl, rfl, rfl, rfl, and_f hc17 rfl⟩
  · rintro f ⟨hf2, hf4, hf6, hf7, hf8, hf9, hf37⟩
    refine (JL.norm (i := 2) hf2 (JL.norm (i := 4) hf4 (JL.norm (i := 6) hf6 (JL.norm (i := 7) hf7 (JL.norm (i := 8) hf8 (JL.norm (i := 9) hf9 (JL.norm (i := 37) hf37 ?_)))))))
    refine JL.move .none rfl ?_
    refine JL.cut 3 (fun f => f 2 = .int .i64 y5.1 ∧ f 4 = .pointer (some ⟨b11, 0, none⟩) ∧ f 6 = .int .i64 y12.1 ∧ f 8 = y13a_v0 ∧ f 9 = .int .i64 y13.2 ∧ f 41 = .bool (((y5.2 == 0) && (y10.2 == 0)) && (y12.2 == 0))) ?_ ?_
    · intro hJ18
      rcases bcases ((y5.2 == 0) && (y10.2 == 0)) with hc19 | hc19
      · skip
        refine JL.move (.some rfl rfl rfl hc19) rfl ?_
        refine JL.bin rfl rfl rfl (.some rfl rfl rfl hc19) rfl ?_
        refine JL.pick_t (b := ((y5.2 == 0) && (y10.2 == 0))) rfl hc19 .none rfl ?_
        exact hJ18 _ ⟨rfl, rfl, rfl, rfl, rfl, and_t hc19 rfl⟩
      · skip
        refine JL.skip (.bool rfl rfl rfl hc19) rfl ?_
        refine JL.skip (.bool rfl rfl rfl hc19) rfl ?_
        refine JL.pick_f (b := ((y5.2 == 0) && (y10.2 == 0))) rfl hc19 .none rfl ?_
        exact hJ18 _ ⟨rfl, rfl, rfl, rfl, rfl, and_f hc19 rfl⟩
    · rintro f ⟨hf2, hf4, hf6, hf8, hf9, hf41⟩
      refine (JL.norm (i := 2) hf2 (JL.norm (i := 4) hf4 (JL.norm (i := 6) hf6 (JL.norm (i := 8) hf8 (JL.norm (i := 9) hf9 (JL.norm (i := 41) hf41 ?_))))))
      refine JL.move .none rfl ?_
      refine JL.cut 3 (fun f => f 2 = .int .i64 y5.1 ∧ f 4 = .pointer (some ⟨b11, 0, none⟩) ∧ f 6 = .int .i64 y12.1 ∧ f 8 = y13a_v0 ∧ f 45 = .bool ((((y5.2 == 0) && (y10.2 == 0)) && (y12.2 == 0)) && (y13.2 == 0))) ?_ ?_
      · intro hJ20
        rcases bcases (((y5.2 == 0) && (y10.2 == 0)) && (y12.2 == 0)) with hc21 | hc21
        · skip
          refine JL.move (.some rfl rfl rfl hc21) rfl ?_
          refine JL.bin rfl rfl rfl (.some rfl rfl rfl hc21) rfl ?_
          refine JL.pick_t (b := (((y5.2 == 0) && (y10.2 == 0)) && (y12.2 == 0))) rfl hc21 .none rfl ?_
          exact hJ20 _ ⟨rfl, rfl, rfl, rfl, and_t hc21 rfl⟩
        · skip
          refine JL.skip (.bool rfl rfl rfl hc21) rfl ?_
          refine JL.skip (.bool rfl rfl rfl hc21) rfl ?_
          refine JL.pick_f (b := (((y5.2 == 0) && (y10.2 == 0)) && (y12.2 == 0))) rfl hc21 .none rfl ?_
          exact hJ20 _ ⟨rfl, rfl, rfl, rfl, and_f hc21 rfl⟩
      · rintro f ⟨hf2, hf4, hf6, hf8, hf45⟩
        refine (JL.norm (i := 2) hf2 (JL.norm (i := 4) hf4 (JL.norm (i := 6) hf6 (JL.norm (i := 8) hf8 (JL.norm (i := 45) hf45 ?_)))))
        refine JL.move .none rfl ?_
        refine JL.cut 3 (fun f => f 4 = .pointer (some ⟨b11, 0, none⟩) ∧ f 6 = .int .i64 y12.1 ∧ f 8 = y13a_v0 ∧ f 49 = .bool (((((y5.2 == 0) && (y10.2 == 0)) && (y12.2 == 0)) && (y13.2 == 0)) && (y5.1 == 5))) ?_ ?_
        · intro hJ22
          rcases bcases ((((y5.2 == 0) && (y10.2 == 0)) && (y12.2 == 0)) && (y13.2 == 0)) with hc23 | hc23
          · skip
            refine JL.move (.some rfl rfl rfl hc23) rfl ?_
            refine JL.bin rfl rfl rfl (.some rfl rfl rfl hc23) rfl ?_
            refine JL.pick_t (b := ((((y5.2 == 0) && (y10.2 == 0)) && (y12.2 == 0)) && (y13.2 == 0))) rfl hc23 .none rfl ?_
            exact hJ22 _ ⟨rfl, rfl, rfl, and_t hc23 rfl⟩
          · skip
            refine JL.skip (.bool rfl rfl rfl hc23) rfl ?_
            refine JL.skip (.bool rfl rfl rfl hc23) rfl ?_
            refine JL.pick_f (b := ((((y5.2 == 0) && (y10.2 == 0)) && (y12.2 == 0)) && (y13.2 == 0))) rfl hc23 .none rfl ?_
            exact hJ22 _ ⟨rfl, rfl, rfl, and_f hc23 rfl⟩
        · rintro f ⟨hf4, hf6, hf8, hf49⟩
          refine (JL.norm (i := 4) hf4 (JL.norm (i := 6) hf6 (JL.norm (i := 8) hf8 (JL.norm (i := 49) hf49 ?_))))
          refine JL.move .none rfl ?_
          refine JL.cut 4 (fun f => f 6 = .int .i64 y12.1 ∧ f 8 = y13a_v0 ∧ f 54 = .bool ((((((y5.2 == 0) && (y10.2 == 0)) && (y12.2 == 0)) && (y13.2 == 0)) && (y5.1 == 5)) && ((y10.1.Low == 65) && (y10.1.High == 95)))) ?_ ?_
          · intro hJ24
            rcases bcases (((((y5.2 == 0) && (y10.2 == 0)) && (y12.2 == 0)) && (y13.2 == 0)) && (y5.1 == 5)) with hc25 | hc25
            · skip
              refine JL.loadOwn 0 az_31 rfl rfl rfl (.some rfl rfl rfl hc25) rfl ?_
              refine JL.build (l := [.int .i64 65, .int .i64 95]) (by kernel_rfl) (.some rfl rfl rfl hc25) rfl ?_
              refine JL.eqAgg eqg_31 rfl rfl (fun w => eqa_31 y10.1.Low y10.1.High 65 95 w) (.some rfl rfl rfl hc25) rfl ?_
              refine JL.pick_t (b := (((((y5.2 == 0) && (y10.2 == 0)) && (y12.2 == 0)) && (y13.2 == 0)) && (y5.1 == 5))) rfl hc25 .none rfl ?_
              exact hJ24 _ ⟨rfl, rfl, and_t hc25 rfl⟩
            · skip
              refine JL.skip (.bool rfl rfl rfl hc25) rfl ?_
              refine JL.skip (.bool rfl rfl rfl hc25) rfl ?_
              refine JL.skip (.bool rfl rfl rfl hc25) rfl ?_
              refine JL.pick_f (b := (((((y5.2 == 0) && (y10.2 == 0)) && (y12.2 == 0)) && (y13.2 == 0)) && (y5.1 == 5))) rfl hc25 .none rfl ?_
              exact hJ24 _ ⟨rfl, rfl, and_f hc25 rfl⟩
          · rintro f ⟨hf6, hf8, hf54⟩
            refine (JL.norm (i := 6) hf6 (JL.norm (i := 8) hf8 (JL.norm (i := 54) hf54 ?_)))
            refine JL.move .none rfl ?_
            refine JL.cut 3 (fun f => f 8 = y13a_v0 ∧ f 58 = .bool (((((((y5.2 == 0) && (y10.2 == 0)) && (y12.2 == 0)) && (y13.2 == 0)) && (y5.1 == 5)) && ((y10.1.Low == 65) && (y10.1.High == 95))) && (y12.1 == 65))) ?_ ?_
            · intro hJ26
              rcases bcases ((((((y5.2 == 0) && (y10.2 == 0)) && (y12.2 == 0)) && (y13.2 == 0)) && (y5.1 == 5)) && ((y10.1.Low == 65) && (y10.1.High == 95))) with hc27 | hc27
              · skip
                refine JL.move (.some rfl rfl rfl hc27) rfl ?_
                refine JL.bin rfl rfl rfl (.some rfl rfl rfl hc27) rfl ?_
                refine JL.pick_t (b := ((((((y5.2 == 0) && (y10.2 == 0)) && (y12.2 == 0)) && (y13.2 == 0)) && (y5.1 == 5)) && ((y10.1.Low == 65) && (y10.1.High == 95)))) rfl hc27 .none rfl ?_
                exact hJ26 _ ⟨rfl, and_t hc27 rfl⟩
              · skip
                refine JL.skip (.bool rfl rfl rfl hc27) rfl ?_
                refine JL.skip (.bool rfl rfl rfl hc27) rfl ?_
                refine JL.pick_f (b := ((((((y5.2 == 0) && (y10.2 == 0)) && (y12.2 == 0)) && (y13.2 == 0)) && (y5.1 == 5)) && ((y10.1.Low == 65) && (y10.1.High == 95)))) rfl hc27 .none rfl ?_
                exact hJ26 _ ⟨rfl, and_f hc27 rfl⟩
            · rintro f ⟨hf8, hf58⟩
              refine (JL.norm (i := 8) hf8 (JL.norm (i := 58) hf58 ?_))
              refine JL.move .none rfl ?_
              obtain ⟨p33, hp33, hF⟩ := bind_some hF
              refine JL.cutW 4 (fun H34 f bs gs => f 63 = .bool p33 ∧ bs = [] ∧ gs = [] ∧ HSub H14 H34) ?_ ?_
              · intro hJ35
                rcases ite_some hp33 with ⟨hc36, hF⟩ | ⟨hc36, hF⟩
                · skip
                  refine JL.move (.some rfl rfl rfl hc36) rfl ?_
                  refine JL.buildSlice (e := 3) (l := [.int .i64 0, .int .i64 3]) (by kernel_rfl) (.some rfl rfl rfl hc36) rfl ?_
                  intro b37
                  refine JL.freezeC 0 (l := [.int .i64 0, .int .i64 3]) rfl ?_
                  intro H38 hs38 hc39
                  have hg40 : SL H38 1 RInt (.slice (some ⟨b37, 0, none⟩) 2 2) [0, 3] := CH.sl (l := [0, 3]) (CH.cons (cs := [.int .i64 0]) rfl rfl (CH.cons (cs := [.int .i64 3]) rfl rfl CH.nil)) hc39 ⟨by simp, by simp⟩
                  obtain ⟨y41, hy41, hF⟩ := bind_some hF
                  refine JL.callS (c_law11_sameInts n H38 y13.1 y13a_v0 (SL.mono RInt.mono hs38 hy13a_0) [0, 3] (.slice (some ⟨b37, 0, none⟩) 2 2) hg40 y41 hy41) rfl en_43 (.some rfl rfl rfl hc36) rfl ?_
                  refine JL.pick_t (b := (((((((y5.2 == 0) && (y10.2 == 0)) && (y12.2 == 0)) && (y13.2 == 0)) && (y5.1 == 5)) && ((y10.1.Low == 65) && (y10.1.High == 95))) && (y12.1 == 65))) rfl hc36 .none rfl ?_
                  obtain rfl := Option.some.inj hF
                  refine JL.mask [false, false] [] ?_
                  exact hJ35 _ _ _ _ ⟨rfl, rfl, rfl, hs38⟩
                · skip
                  refine JL.skip (.bool rfl rfl rfl hc36) rfl ?_
                  refine JL.skip (.bool rfl rfl rfl hc36) rfl ?_
                  refine JL.skip (.bool rfl rfl rfl hc36) rfl ?_
                  refine JL.pick_f (b := (((((((y5.2 == 0) && (y10.2 == 0)) && (y12.2 == 0)) && (y13.2 == 0)) && (y5.1 == 5)) && ((y10.1.Low == 65) && (y10.1.High == 95))) && (y12.1 == 65))) rfl hc36 .none rfl ?_
                  obtain rfl := Option.some.inj hF
                  refine JL.mask [false, false] [] ?_
                  exact hJ35 _ _ _ _ ⟨rfl, rfl, rfl, (HSub.refl _)⟩
              · rintro H34 f bs gs ⟨hf63, rfl, rfl, hs34⟩
                refine (JL.norm (i := 63) hf63 ?_)
                refine JL.assign .none rfl ?_
                refine JL.done hQ ?_
                refine JQ.go ?_
                refine JC.ret ?_
                obtain rfl := Option.some.inj hF
                exact JQ.outS rfl (.tmp .nil) rfl

-- 14 ferrule/ferruleref11.Copy
def F_ref11_Copy_s1 (n : Nat) (t : Tour) : Int × List Fair → Option ((Int × List Fair) ⊕ (List Fair))
  | (i_624, out_625) => if decide (i_624 < (t.Fairs.length : Int)) = true then ((geti t.Fairs i_624).bind fun y635 => (geti t.Fairs i_624).bind fun y642 => (lim (([] : List Int) ++ y642.Sells)).bind fun l647 => (lim (out_625 ++ [(Fair.mk y635.Price l647)])).bind fun l656 => some (Sum.inl ((w64 (i_624 + 1)), l656))) else (some (Sum.inr out_625))
def F_ref11_Copy (n : Nat) (t : Tour) : Option Tour :=
  (lim (([] : List Rain) ++ t.Rains)).bind fun l6 => (loopO n (F_ref11_Copy_s1 n t) (0, ([] : List Fair))).bind fun out_419 => some (Tour.mk t.Days t.Step l6 t.Wrong out_419 t.Reach t.Stock)
set_option maxRecDepth 100000 in
set_option maxHeartbeats 40000000 in
theorem c_ref11_Copy (n : Nat) (H : Hp) (t : Tour) (t_v2 : Value) (ht_2 : SL H 3 R_Rain t_v2 t.Rains) (t_v4 : Value) (ht_4 : SL H 2 R_Fair t_v4 t.Fairs) (y : Tour) (hF : F_ref11_Copy n t = some y) : HC Try.prog 14 [.agg [.int .i64 t.Days, .int .i64 t.Step, t_v2, .int .i64 t.Wrong, t_v4, .int .i64 t.Reach, .int .i64 t.Stock].toArray] H (fun H' v => ∃ ra_v2 ra_v4 : Value, v = .agg [.int .i64 y.Days, .int .i64 y.Step, ra_v2, .int .i64 y.Wrong, ra_v4, .int .i64 y.Reach, .int .i64 y.Stock].toArray ∧ SL H' 3 R_Rain ra_v2 y.Rains ∧ SL H' 2 R_Fair ra_v4 y.Fairs) := by
  rw [F_ref11_Copy] at hF
  refine HC.of (N := 40) Try.func14 rfl rfl rfl fun w => ?_
  refine JC.seq ?_
  refine JC.region (by rfl) ?_
  intro hQ
  refine JL.box (cs := [.int .i64 t.Days, .int .i64 t.Step, t_v2, .int .i64 t.Wrong, t_v4, .int .i64 t.Reach, .int .i64 t.Stock]) rfl .none rfl ?_
  intro b1
  refine JL.alloc ze_25 .none rfl ?_
  intro b2
  refine JL.done hQ ?_
  refine JQ.go ?_
  refine JC.seq ?_
  refine JC.region (by rfl) ?_
  intro hQ
  refine JL.loadOwn 1 az_25 rfl rfl rfl .none rfl ?_
  refine JL.alloc ze_25 .none rfl ?_
  intro b3
  refine JL.storeOwn 0 (cs := [.int .i64 t.Days, .int .i64 t.Step, t_v2, .int .i64 t.Wrong, t_v4, .int .i64 t.Reach, .int .i64 t.Stock]) az_25 rfl rfl rfl (one_cons rfl (one_cons rfl (one_cons (SL.one ht_2) (one_cons rfl (one_cons (SL.one ht_4) (one_cons rfl (one_cons rfl one_nil))))))) rfl rfl .none ?_
  refine JL.done hQ ?_
  refine JQ.go ?_
  refine JC.seq ?_
  refine JC.region (by rfl) ?_
  intro hQ
  refine JL.emptySlice ap_22 .none rfl ?_
  intro v4
  refine JL.fieldAddr fo_25_2 rfl .none rfl ?_
  refine JL.loadOwn 2 az_22 rfl rfl rfl .none rfl ?_
  obtain ⟨l6, hl6, hF⟩ := bind_some hF
  refine JL.appD (R := R_Rain) 0 (l := ([] : List Rain)) (m := t.Rains) ap_22 rfl ⟨rfl, rfl⟩ rfl CH.nil rfl ht_2 (R_Rain_one _) hl6 .none rfl ?_
  intro v7 xs8 hch9
  refine JL.fieldAddr fo_25_2 rfl .none rfl ?_
  refine JL.oneG 0 rfl (fun ho10 => ?_)
  refine JL.storeOwn 0 (cs := [v7]) az_22 rfl ho10.2 rfl (one_cons ho10.1 one_nil) rfl rfl .none ?_
  refine JL.done hQ ?_
  refine JQ.go ?_
  refine JC.seq ?_
  refine JC.region (by rfl) ?_
  intro hQ
  refine JL.fieldAddr fo_25_4 rfl .none rfl ?_
  refine JL.storeOwn 0 (cs := [.slice none 0 0]) az_23 rfl rfl rfl (one_cons rfl one_nil) rfl rfl .none ?_
  refine JL.done hQ ?_
  refine JQ.go ?_
  refine JC.seq ?_
  refine JC.seq ?_
  refine JC.region (by rfl) ?_
  intro hQ
  refine JL.assign .none rfl ?_
  refine JL.done hQ ?_
  refine JQ.go ?_
  refine JC.newNil (e := 41) (sz := 2) ?_
  obtain ⟨r421, hlr421, hKr421⟩ := bind_some hF
  refine JC.join (fun (out_419 : List Fair) H420 f bs gs => ∃ (vout_419 : Value) (xsout_419 : List Value), f 2 = .pointer (some ⟨b2, 0, none⟩) ∧ f 3 = .pointer (some ⟨b3, 0, none⟩) ∧ bs = [(b3, .cells [.int .i64 t.Days, .int .i64 t.Step, v7, .int .i64 t.Wrong, vout_419, .int .i64 t.Reach, .int .i64 t.Stock].toArray 25), (b2, .cells [.int .i64 0, .int .i64 0, .slice none 0 0, .int .i64 0, .slice none 0 0, .int .i64 0, .int .i64 0].toArray 25)] ∧ gs = [⟨vout_419, 41, 2, out_419.length, xsout_419⟩, ⟨v7, 37, 3, l6.length, xs8⟩] ∧ CH H420 2 R_Fair xsout_419 out_419 ∧ HSub H H420 ∧ out_419 = r421) ?_ ?_
  · skip
    refine JC.block ?_
    refine JC.loop hlr421 (fun (x : Int × List Fair) H626 f bs gs => match x with | (i_624, out_625) => ∃ (vout_625 : Value) (xsout_625 : List Value), f 1 = .pointer (some ⟨b1, 0, none⟩) ∧ f 2 = .pointer (some ⟨b2, 0, none⟩) ∧ f 3 = .pointer (some ⟨b3, 0, none⟩) ∧ f 4 = .int .i64 i_624 ∧ bs = [(b3, .cells [.int .i64 t.Days, .int .i64 t.Step, v7, .int .i64 t.Wrong, vout_625, .int .i64 t.Reach, .int .i64 t.Stock].toArray 25), (b2, .cells [.int .i64 0, .int .i64 0, .slice none 0 0, .int .i64 0, .slice none 0 0, .int .i64 0, .int .i64 0].toArray 25), (b1, .cells [.int .i64 t.Days, .int .i64 t.Step, t_v2, .int .i64 t.Wrong, t_v4, .int .i64 t.Reach, .int .i64 t.Stock].toArray 25)] ∧ gs = [⟨vout_625, 41, 2, out_625.length, xsout_625⟩, ⟨v7, 37, 3, l6.length, xs8⟩] ∧ CH H626 2 R_Fair xsout_625 out_625 ∧ HSub H H626) ⟨(.slice none 0 0), [], rfl, rfl, rfl, rfl, rfl, rfl, CH.nil, (HSub.refl _)⟩ ?_
    rintro ⟨i_624, out_625⟩ x628 H626 f bs gs ⟨vout_625, xsout_625, hf1, hf2, hf3, hf4, rfl, rfl, hout_625, hs626⟩ hF hr627
    rw [F_ref11_Copy_s1] at hF
    refine (JC.norm (i := 1) hf1 (JC.norm (i := 2) hf2 (JC.norm (i := 3) hf3 (JC.norm (i := 4) hf4 ?_))))
    refine JC.seq ?_
    refine JC.seq ?_
    refine JC.region (by rfl) ?_
    intro hQ
    refine JL.move .none rfl ?_
    refine JL.fieldAddr fo_25_4 rfl .none rfl ?_
    refine JL.loadOwn 2 az_23 rfl rfl rfl .none rfl ?_
    refine JL.lenSL (R := R_Fair) ul_23 (SL.mono R_Fair_mono hs626 ht_4) .none rfl ?_
    refine JL.bin rfl rfl rfl .none rfl ?_
    refine JL.done hQ ?_
    refine JQ.go ?_
    rcases ite_some hF with ⟨hc629, hF⟩ | ⟨hc629, hF⟩
    · refine JC.cond_t (b := decide (i_624 < (t.Fairs.length : Int))) rfl hc629 ?_
      refine JC.skip ?_
      refine JQ.go ?_
      refine JC.seq ?_
      refine JC.block ?_
      obtain ⟨y635, hy635, hF⟩ := bind_some hF
      obtain ⟨y642, hy642, hF⟩ := bind_some hF
      obtain ⟨l647, hl647, hF⟩ := bind_some hF
      obtain ⟨l656, hl656, hF⟩ := bind_some hF
      refine JC.mixed 20 21 #[false, false, false, false, false, false, false, false, false, false, false, false, false, false, false, false, false, false, false, false, false] [(b3, .cells [.int .i64 t.Days, .int .i64 t.Step, v7, .int .i64 t.Wrong, vout_625, .int .i64 t.Reach, .int .i64 t.Stock].toArray 25), (b2, .cells [.int .i64 0, .int .i64 0, .slice none 0 0, .int .i64 0, .slice none 0 0, .int .i64 0, .int .i64 0].toArray 25), (b1, .cells [.int .i64 t.Days, .int .i64 t.Step, t_v2, .int .i64 t.Wrong, t_v4, .int .i64 t.Reach, .int .i64 t.Stock].toArray 25)] (by rfl) mo_ (by kernel_rfl) (by kernel_rfl) ?_
      intro hQ hE
      refine JA.take 0 (listed' := #[true, false, false, false, false, false, false, false, false, false, false, false, false, false, false, false, false, false, false, false, false]) hQ rfl (by kernel_rfl) (by kernel_rfl) (by kernel_rfl) (by kernel_rfl) (by kernel_rfl) hE (HSub.refl _) (.cons_cons _ (.cons_cons _ (.cons_cons _ (List.nil_sublist _)))) ?_
      refine JL.fieldAddr fo_25_4 rfl .none rfl ?_
      refine JA.cont ?_
      refine JA.take 1 (listed' := #[true, true, false, false, false, false, false, false, false, false, false, false, false, false, false, false, false, false, false, false, false]) hQ rfl (by kernel_rfl) (by kernel_rfl) (by kernel_rfl) (by kernel_rfl) (by kernel_rfl) hE (HSub.refl _) (.cons_cons _ (.cons_cons _ (.cons_cons _ (List.nil_sublist _)))) ?_
      refine JL.loadOwn 0 az_23 rfl rfl rfl .none rfl ?_
      refine JA.cont ?_
      refine JA.take 2 (listed' := #[true, true, true, false, false, false, false, false, false, false, false, false, false, false, false, false, false, false, false, false, false]) hQ rfl (by kernel_rfl) (by kernel_rfl) (by kernel_rfl) (by kernel_rfl) (by kernel_rfl) hE (HSub.refl _) (.cons_cons _ (.cons_cons _ (.cons_cons _ (List.nil_sublist _)))) ?_
      refine JL.fieldAddr fo_25_4 rfl .none rfl ?_
      refine JA.cont ?_
      refine JA.take 3 (listed' := #[true, true, true, true, false, false, false, false, false, false, false, false, false, false, false, false, false, false, false, false, false]) hQ rfl (by kernel_rfl) (by kernel_rfl) (by kernel_rfl) (by kernel_rfl) (by kernel_rfl) hE (HSub.refl _) (.cons_cons _ (.cons_cons _ (.cons_cons _ (List.nil_sublist _)))) ?_
      refine JL.loadOwn 2 az_23 rfl rfl rfl .none rfl ?_
      refine JA.cont ?_
      refine JA.take 4 (listed' := #[true, true, true, true, true, false, false, false, false, false, false, false, false, false, false, false, false, false, false, false, false]) hQ rfl (by kernel_rfl) (by kernel_rfl) (by kernel_rfl) (by kernel_rfl) (by kernel_rfl) hE (HSub.refl _) (.cons_cons _ (.cons_cons _ (.cons_cons _ (List.nil_sublist _)))) ?_
      refine JL.move .none rfl ?_
      refine JA.cont ?_
      refine JA.take 5 (listed' := #[true, true, true, true, true, true, false, false, false, false, false, false, false, false, false, false, false, false, false, false, false]) hQ rfl (by kernel_rfl) (by kernel_rfl) (by kernel_rfl) (by kernel_rfl) (by kernel_rfl) hE (HSub.refl _) (.cons_cons _ (.cons_cons _ (.cons_cons _ (List.nil_sublist _)))) ?_
      refine JL.indexSL (R := R_Fair) sl_23 (SL.mono R_Fair_mono hs626 ht_4) rfl hy635 .none rfl ?_
      rintro b699 o700 cs701 hc702 - ⟨y635_v1, rfl, hy635_1⟩
      refine JA.cont ?_
      refine JA.take 6 (listed' := #[true, true, true, true, true, true, true, false, false, false, false, false, false, false, false, false, false, false, false, false, false]) hQ rfl (by kernel_rfl) (by kernel_rfl) (by kernel_rfl) (by kernel_rfl) (by kernel_rfl) hE (HSub.refl _) (.cons_cons _ (.cons_cons _ (.cons_cons _ (List.nil_sublist _)))) ?_
      refine JL.fieldAddr fo_41_0 rfl .none rfl ?_
      refine JA.cont ?_
      refine JA.take 7 (listed' := #[true, true, true, true, true, true, true, true, false, false, false, false, false, false, false, false, false, false, false, false, false]) hQ rfl (by kernel_rfl) (by kernel_rfl) (by kernel_rfl) (by kernel_rfl) (by kernel_rfl) hE (HSub.refl _) (.cons_cons _ (.cons_cons _ (.cons_cons _ (List.nil_sublist _)))) ?_
      refine JL.loadH 0 az_3 rfl hc702 rfl .none rfl ?_
      refine JA.cont ?_
      refine JA.take 9 (listed' := #[true, true, true, true, true, true, true, true, false, true, false, false, false, false, false, false, false, false, false, false, false]) hQ rfl (by kernel_rfl) (by kernel_rfl) (by kernel_rfl) (by kernel_rfl) (by kernel_rfl) hE (HSub.refl _) (.cons_cons _ (.cons_cons _ (.cons_cons _ (List.nil_sublist _)))) ?_
      refine JL.fieldAddr fo_25_4 rfl .none rfl ?_
      refine JA.cont ?_
      refine JA.take 10 (listed' := #[true, true, true, true, true, true, true, true, false, true, true, false, false, false, false, false, false, false, false, false, false]) hQ rfl (by kernel_rfl) (by kernel_rfl) (by kernel_rfl) (by kernel_rfl) (by kernel_rfl) hE (HSub.refl _) (.cons_cons _ (.cons_cons _ (.cons_cons _ (List.nil_sublist _)))) ?_
      refine JL.loadOwn 2 az_23 rfl rfl rfl .none rfl ?_
      refine JA.cont ?_
      refine JA.take 11 (listed' := #[true, true, true, true, true, true, true, true, false, true, true, true, false, false, false, false, false, false, false, false, false]) hQ rfl (by kernel_rfl) (by kernel_rfl) (by kernel_rfl) (by kernel_rfl) (by kernel_rfl) hE (HSub.refl _) (.cons_cons _ (.cons_cons _ (.cons_cons _ (List.nil_sublist _)))) ?_
      refine JL.move .none rfl ?_
      refine JA.cont ?_
      refine JA.take 12 (listed' := #[true, true, true, true, true, true, true, true, false, true, true, true, true, false, false, false, false, false, false, false, false]) hQ rfl (by kernel_rfl) (by kernel_rfl) (by kernel_rfl) (by kernel_rfl) (by kernel_rfl) hE (HSub.refl _) (.cons_cons _ (.cons_cons _ (.cons_cons _ (List.nil_sublist _)))) ?_
      refine JL.indexSL (R := R_Fair) sl_23 (SL.mono R_Fair_mono hs626 ht_4) rfl hy642 .none rfl ?_
      rintro b707 o708 cs709 hc710 - ⟨y642_v1, rfl, hy642_1⟩
      refine JA.cont ?_
      refine JA.take 13 (listed' := #[true, true, true, true, true, true, true, true, false, true, true, true, true, true, false, false, false, false, false, false, false]) hQ rfl (by kernel_rfl) (by kernel_rfl) (by kernel_rfl) (by kernel_rfl) (by kernel_rfl) hE (HSub.refl _) (.cons_cons _ (.cons_cons _ (.cons_cons _ (List.nil_sublist _)))) ?_
      refine JL.fieldAddr fo_41_1 rfl .none rfl ?_
      refine JA.cont ?_
      refine JA.take 14 (listed' := #[true, true, true, true, true, true, true, true, false, true, true, true, true, true, true, false, false, false, false, false, false]) hQ rfl (by kernel_rfl) (by kernel_rfl) (by kernel_rfl) (by kernel_rfl) (by kernel_rfl) hE (HSub.refl _) (.cons_cons _ (.cons_cons _ (.cons_cons _ (List.nil_sublist _)))) ?_
      refine JL.loadH 1 az_26 rfl hc710 rfl .none rfl ?_
      refine JA.cont ?_
      refine JA.many [8] (by kernel_rfl) (by simp) (all_one ⟨_, #[true, true, true, true, true, true, true, true, true, true, true, true, true, true, true, false, false, false, false, false, false], rfl, (by kernel_rfl), ?_⟩)
      refine JL.emptySlice ap_26 .none rfl ?_
      intro v711
      refine JA.after hE (HSub.refl _) (.cons_cons _ (.cons_cons _ (.cons_cons _ (List.nil_sublist _)))) ?_
      refine JA.many [15] (by kernel_rfl) (by simp) (all_one ⟨_, #[true, true, true, true, true, true, true, true, true, true, true, true, true, true, true, true, false, false, false, false, false], rfl, (by kernel_rfl), ?_⟩)
      refine JL.appD (R := RInt) 0 (l := ([] : List Int)) (m := y642.Sells) ap_26 rfl ⟨rfl, rfl⟩ rfl CH.nil rfl hy642_1 (RInt.one _) hl647 .none rfl ?_
      intro v713 xs714 hch715
      refine JA.after hE (HSub.refl _) (.cons_cons _ (.cons_cons _ (.cons_cons _ (List.nil_sublist _)))) ?_
      refine JA.many [16] (by kernel_rfl) (by simp) (all_one ⟨_, #[true, true, true, true, true, true, true, true, true, true, true, true, true, true, true, true, true, false, false, false, false], rfl, (by kernel_rfl), ?_⟩)
      refine JL.formG 0 rfl (fun a716 n717 c718 hh719 => ?_)
      dsimp only at hh719
      subst hh719
      refine JL.build (l := [.int .i64 y635.Price, (.slice a716 n717 c718)]) (by kernel_rfl) .none rfl ?_
      refine JA.after hE (HSub.refl _) (.cons_cons _ (.cons_cons _ (.cons_cons _ (List.nil_sublist _)))) ?_
      refine JA.many [17] (by kernel_rfl) (by simp) (all_one ⟨_, #[true, true, true, true, true, true, true, true, true, true, true, true, true, true, true, true, true, true, false, false, false], rfl, (by kernel_rfl), ?_⟩)
      refine JL.buildSlice (e := 41) (l := [.int .i64 y635.Price, (.slice a716 n717 c718)]) (by kernel_rfl) .none rfl ?_
      intro b720
      refine JA.after hE (HSub.refl _) (.cons _ (.cons_cons _ (.cons_cons _ (.cons_cons _ (List.nil_sublist _))))) ?_
      refine JA.many [18] (by kernel_rfl) (by simp) (all_one ⟨_, #[true, true, true, true, true, true, true, true, true, true, true, true, true, true, true, true, true, true, true, false, false], rfl, (by kernel_rfl), ?_⟩)
      refine JL.freezeG 0 (R := RInt) rfl RInt.mono hch715 rfl ?_
      intro H721 hs721 hg722
      refine JL.appO (R := R_Fair) 0 0 (l := out_625) (m := [(Fair.mk y635.Price l647)]) ap_23 rfl ⟨rfl, rfl⟩ rfl (CH.mono R_Fair_mono hs721 hout_625) rfl rfl rfl (CH.cons (cs := [.int .i64 y635.Price, (.slice a716 n717 c718)]) rfl ⟨(.slice a716 n717 c718), rfl, hg722⟩ CH.nil) rfl (one_cons rfl (one_cons (SL.one hg722) one_nil)) hl656 .none rfl ?_
      intro v723 xs724 hch725
      refine JA.after hE hs721 (.cons _ (.cons_cons _ (.cons_cons _ (.cons_cons _ (List.nil_sublist _))))) ?_
      refine JA.take 19 (listed' := #[true, true, true, true, true, true, true, true, true, true, true, true, true, true, true, true, true, true, true, true, false]) hQ rfl (by kernel_rfl) (by kernel_rfl) (by kernel_rfl) (by kernel_rfl) (by kernel_rfl) hE hs721 (.cons _ (.cons_cons _ (.cons_cons _ (.cons_cons _ (List.nil_sublist _))))) ?_
      refine JL.fieldAddr fo_25_4 rfl .none rfl ?_
      refine JA.cont ?_
      refine JA.many [20] (by kernel_rfl) (by simp) (all_one ⟨_, #[true, true, true, true, true, true, true, true, true, true, true, true, true, true, true, true, true, true, true, true, true], rfl, (by kernel_rfl), ?_⟩)
      refine JL.oneG 0 rfl (fun ho726 => ?_)
      refine JL.storeOwn 1 (cs := [v723]) az_23 rfl ho726.2 rfl (one_cons ho726.1 one_nil) rfl rfl .none ?_
      refine JA.sink (by kernel_rfl) ?_
      refine JA.done hQ (by kernel_rfl) ?_
      refine JQ.normal_block ?_
      refine JQ.go ?_
      refine JC.fresh (fun f => f 1 = .pointer (some ⟨b1, 0, none⟩) ∧ f 2 = .pointer (some ⟨b2, 0, none⟩) ∧ f 3 = .pointer (some ⟨b3, 0, none⟩) ∧ f 4 = .int .i64 i_624) ⟨rfl, rfl, rfl, rfl⟩ ?_
      rintro f ⟨hf1, hf2, hf3, hf4⟩
      refine (JC.norm (i := 1) hf1 (JC.norm (i := 2) hf2 (JC.norm (i := 3) hf3 (JC.norm (i := 4) hf4 ?_))))
      refine JC.region (by rfl) ?_
      intro hQ
      refine JL.move .none rfl ?_
      refine JL.bin rfl rfl rfl .none rfl ?_
      refine JL.assign .none rfl ?_
      refine JL.done hQ ?_
      obtain rfl := Option.some.inj hF
      refine JQ.mask [false, true, true, true] [true, true] ?_
      exact JQ.next rfl ⟨v723, xs724, rfl, rfl, rfl, rfl, rfl, rfl, hch725, (HSub.trans hs626 hs721)⟩
    · refine JC.cond_f (b := decide (i_624 < (t.Fairs.length : Int))) rfl hc629 ?_
      refine JC.exit ?_
      refine JQ.exit_then ?_
      refine JQ.exit_then ?_
      refine JQ.exit_block ?_
      obtain rfl := Option.some.inj hF
      have ehr627 := hr627 _ rfl
      subst ehr627
      refine JQ.mask [true, true, false] [true, true] ?_
      exact JQ.join out_625 ⟨vout_625, xsout_625, rfl, rfl, rfl, rfl, hout_625, hs626, rfl⟩
  · rintro out_419 H420 f bs gs ⟨vout_419, xsout_419, hf2, hf3, rfl, rfl, hout_419, hs420, rfl⟩
    have hF := hKr421
    try dsimp only at hF
    refine (JQ.norm (i := 2) hf2 (JQ.norm (i := 3) hf3 ?_))
    refine JQ.go ?_
    refine JC.seq ?_
    refine JC.region (by rfl) ?_
    intro hQ
    refine JL.loadOwn 0 az_25 rfl rfl rfl .none rfl ?_
    refine JL.oneG 1 rfl (fun ho727 => ?_)
    refine JL.oneG 0 rfl (fun ho728 => ?_)
    refine JL.storeOwn 1 (cs := [.int .i64 t.Days, .int .i64 t.Step, v7, .int .i64 t.Wrong, vout_419, .int .i64 t.Reach, .int .i64 t.Stock]) az_25 rfl rfl rfl (one_cons rfl (one_cons rfl (one_cons ho727.1 (one_cons rfl (one_cons ho728.1 (one_cons rfl (one_cons rfl one_nil))))))) rfl rfl .none ?_
    refine JL.done hQ ?_
    refine JQ.go ?_
    refine JC.ret ?_
    refine JQ.freezeG 1 (R := R_Rain) rfl R_Rain_mono (CH.mono R_Rain_mono hs420 hch9) rfl ?_
    intro H729 hs729 hg730
    refine JQ.freezeG 0 (R := R_Fair) rfl R_Fair_mono (CH.mono R_Fair_mono hs729 hout_419) rfl ?_
    intro H731 hs731 hg732
    obtain rfl := Option.some.inj hF
    exact JQ.outH rfl (.cell 1 az_25 rfl rfl rfl .nil) ⟨v7, vout_419, rfl, (SL.mono R_Rain_mono hs731 hg730), hg732⟩

-- 52 ferrule/ferruleref11.isRow
def F_ref11_isRow_s1 (n : Nat) (l : List Int) (most : Int) (step : Int) : Int → Option (Int ⊕ (Bool ⊕ Unit))
  | i_615 => if decide (i_615 < (l.length : Int)) = true then ((geti l i_615).bind fun y679 => (F_ref11_within n y679 0 most).bind fun y684 => (if (!y684) = true then (some true) else ((if decide (0 < i_615) = true then ((geti l i_615).bind fun y727 => (geti l (w64 (i_615 - 1))).bind fun y732 => (F_ref11_within n (w64 (y727 - y732)) (w64 (-step)) step).bind fun y737 => some (!y737)) else (some false) : Option Bool).bind fun p724 => some p724) : Option Bool).bind fun p710 => if p710 = true then (some (Sum.inr (Sum.inl false))) else (some (Sum.inl (w64 (i_615 + 1))))) else (some (Sum.inr (Sum.inr ())))
def F_ref11_isRow (n : Nat) (l : List Int) (many : Int) (most : Int) (step : Int) : Option Bool :=
  (loopO n (F_ref11_isRow_s1 n l most step) 0).bind fun r370 => match r370 with | .inl o => some o | .inr _ => some ((l.length : Int) == many)
set_option maxRecDepth 100000 in
set_option maxHeartbeats 40000000 in
theorem c_ref11_isRow (n : Nat) (H : Hp) (l : List Int) (l_v0 : Value) (hl_0 : SL H 1 RInt l_v0 l) (many : Int) (most : Int) (step : Int) (y : Bool) (hF : F_ref11_isRow n l many most step = some y) : SC Try.prog 52 [l_v0, .int .i64 many, .int .i64 most, .int .i64 step] (.bool y) H := by
  rw [F_ref11_isRow] at hF
  refine SC.of (N := 48) Try.func52 rfl rfl rfl fun w => ?_
  refine JC.seq ?_
  refine JC.region (by rfl) ?_
  intro hQ
  refine JL.assign .none rfl ?_
  refine JL.done hQ ?_
  refine JQ.go ?_
  refine JC.seq ?_
  refine JC.seq ?_
  refine JC.region (by rfl) ?_
  intro hQ
  refine JL.assign .none rfl ?_
  refine JL.done hQ ?_
  refine JQ.go ?_
  obtain ⟨r370, hlr370, hKr370⟩ := bind_some hF
  refine JC.join (fun (_ : Unit) H369 f bs gs => f 0 = l_v0 ∧ f 1 = .int .i64 many ∧ bs = [] ∧ gs = [] ∧ HSub H H369 ∧ Sum.inr () = r370) ?_ ?_
  · skip
    refine JC.block ?_
    refine JC.loop hlr370 (fun (i_615 : Int) H616 f bs gs => f 0 = l_v0 ∧ f 1 = .int .i64 many ∧ f 2 = .int .i64 most ∧ f 3 = .int .i64 step ∧ f 9 = .int .i64 i_615 ∧ bs = [] ∧ gs = [] ∧ HSub H H616) ⟨rfl, rfl, rfl, rfl, rfl, rfl, rfl, (HSub.refl _)⟩ ?_
    rintro i_615 x618 H616 f bs gs ⟨hf0, hf1, hf2, hf3, hf9, rfl, rfl, hs616⟩ hF hr617
    rw [F_ref11_isRow_s1] at hF
    refine (JC.norm (i := 0) hf0 (JC.norm (i := 1) hf1 (JC.norm (i := 2) hf2 (JC.norm (i := 3) hf3 (JC.norm (i := 9) hf9 ?_)))))
    refine JC.seq ?_
    refine JC.seq ?_
    refine JC.region (by rfl) ?_
    intro hQ
    refine JL.move .none rfl ?_
    refine JL.move .none rfl ?_
    refine JL.lenSL (R := RInt) ul_26 (SL.mono RInt.mono hs616 hl_0) .none rfl ?_
    refine JL.bin rfl rfl rfl .none rfl ?_
    refine JL.done hQ ?_
    refine JQ.go ?_
    rcases ite_some hF with ⟨hc619, hF⟩ | ⟨hc619, hF⟩
    · refine JC.cond_t (b := decide (i_615 < (l.length : Int))) rfl hc619 ?_
      refine JC.skip ?_
      refine JQ.go ?_
      refine JC.seq ?_
      refine JC.block ?_
      refine JC.seq ?_
      refine JC.draw (by rfl) mo_ (by kernel_rfl) ?_
      intro hQ
      refine JL.move .none rfl ?_
      refine JL.move .none rfl ?_
      obtain ⟨y679, hy679, hF⟩ := bind_some hF
      refine JL.indexSL (R := RInt) sl_26 (SL.mono RInt.mono hs616 hl_0) rfl hy679 .none rfl ?_
      rintro b680 o681 cs682 hc683 - rfl
      refine JL.loadH 0 az_3 rfl hc683 rfl .none rfl ?_
      refine JL.move .none rfl ?_
      obtain ⟨y684, hy684, hF⟩ := bind_some hF
      refine JL.callS (c_ref11_within n H616 y679 0 most y684 hy684) rfl en_65 .none rfl ?_
      refine JL.not rfl .none rfl ?_
      refine JL.move .none rfl ?_
      obtain ⟨p710, hp710, hF⟩ := bind_some hF
      refine JL.cut 20 (fun f => f 0 = l_v0 ∧ f 1 = .int .i64 many ∧ f 2 = .int .i64 most ∧ f 3 = .int .i64 step ∧ f 9 = .int .i64 i_615 ∧ f 43 = .bool p710) ?_ ?_
      · intro hJ711
        rcases ite_some hp710 with ⟨hc712, hF⟩ | ⟨hc712, hF⟩
        · skip
          refine JL.skip (.bool rfl rfl rfl hc712) rfl ?_
          refine JL.skip (.bool rfl rfl rfl hc712) rfl ?_
          refine JL.skip (.bool rfl rfl rfl hc712) rfl ?_
          refine JL.skip (.no rfl rfl rfl) rfl ?_
          refine JL.skip (.no rfl rfl rfl) rfl ?_
          refine JL.skip (.no rfl rfl rfl) rfl ?_
          refine JL.skip (.no rfl rfl rfl) rfl ?_
          refine JL.skip (.no rfl rfl rfl) rfl ?_
          refine JL.skip (.no rfl rfl rfl) rfl ?_
          refine JL.skip (.no rfl rfl rfl) rfl ?_
          refine JL.skip (.no rfl rfl rfl) rfl ?_
          refine JL.skip (.no rfl rfl rfl) rfl ?_
          refine JL.skip (.no rfl rfl rfl) rfl ?_
          refine JL.skip (.no rfl rfl rfl) rfl ?_
          refine JL.skip (.no rfl rfl rfl) rfl ?_
          refine JL.skip (.no rfl rfl rfl) rfl ?_
          refine JL.skip (.no rfl rfl rfl) rfl ?_
          refine JL.skip (.no rfl rfl rfl) rfl ?_
          refine JL.skip (.bool rfl rfl rfl hc712) rfl ?_
          refine JL.pick_t (b := (!y684)) rfl hc712 .none rfl ?_
          obtain rfl := Option.some.inj hF
          exact hJ711 _ ⟨rfl, rfl, rfl, rfl, rfl, rfl⟩
        · skip
          refine JL.move (.some rfl rfl rfl hc712) rfl ?_
          refine JL.bin rfl rfl rfl (.some rfl rfl rfl hc712) rfl ?_
          refine JL.move (.some rfl rfl rfl hc712) rfl ?_
          obtain ⟨p724, hp724, hF⟩ := bind_some hF
          refine JL.cut 16 (fun f => f 0 = l_v0 ∧ f 1 = .int .i64 many ∧ f 2 = .int .i64 most ∧ f 3 = .int .i64 step ∧ f 9 = .int .i64 i_615 ∧ f 23 = .bool (!y684) ∧ f 24 = .int .i64 i_615 ∧ f 25 = .bool (decide (0 < i_615)) ∧ f 26 = .bool (decide (0 < i_615)) ∧ f 42 = .bool p724) ?_ ?_
          · intro hJ725
            rcases ite_some hp724 with ⟨hc726, hF⟩ | ⟨hc726, hF⟩
            · skip
              refine JL.move (.some rfl rfl rfl hc726) rfl ?_
              refine JL.move (.some rfl rfl rfl hc726) rfl ?_
              obtain ⟨y727, hy727, hF⟩ := bind_some hF
              refine JL.indexSL (R := RInt) sl_26 (SL.mono RInt.mono hs616 hl_0) rfl hy727 (.some rfl rfl rfl hc726) rfl ?_
              rintro b728 o729 cs730 hc731 - rfl
              refine JL.loadH 0 az_3 rfl hc731 rfl (.some rfl rfl rfl hc726) rfl ?_
              refine JL.move (.some rfl rfl rfl hc726) rfl ?_
              refine JL.move (.some rfl rfl rfl hc726) rfl ?_
              refine JL.bin rfl rfl rfl (.some rfl rfl rfl hc726) rfl ?_
              obtain ⟨y732, hy732, hF⟩ := bind_some hF
              refine JL.indexSL (R := RInt) sl_26 (SL.mono RInt.mono hs616 hl_0) rfl hy732 (.some rfl rfl rfl hc726) rfl ?_
              rintro b733 o734 cs735 hc736 - rfl
              refine JL.loadH 0 az_3 rfl hc736 rfl (.some rfl rfl rfl hc726) rfl ?_
              refine JL.bin rfl rfl rfl (.some rfl rfl rfl hc726) rfl ?_
              refine JL.move (.some rfl rfl rfl hc726) rfl ?_
              refine JL.neg rfl (.some rfl rfl rfl hc726) rfl ?_
              refine JL.move (.some rfl rfl rfl hc726) rfl ?_
              obtain ⟨y737, hy737, hF⟩ := bind_some hF
              refine JL.callS (c_ref11_within n H616 (w64 (y727 - y732)) (w64 (-step)) step y737 hy737) rfl en_65 (.some rfl rfl rfl hc726) rfl ?_
              refine JL.not rfl (.some rfl rfl rfl hc726) rfl ?_
              refine JL.pick_t (b := decide (0 < i_615)) rfl hc726 (.some rfl rfl rfl hc712) rfl ?_
              obtain rfl := Option.some.inj hF
              exact hJ725 _ ⟨rfl, rfl, rfl, rfl, rfl, rfl, rfl, rfl, rfl, rfl⟩
            · skip
              refine JL.skip (.bool rfl rfl rfl hc726) rfl ?_
              refine JL.skip (.bool rfl rfl rfl hc726) rfl ?_
              refine JL.skip (.bool rfl rfl rfl hc726) rfl ?_
              refine JL.skip (.bool rfl rfl rfl hc726) rfl ?_
              refine JL.skip (.bool rfl rfl rfl hc726) rfl ?_
              refine JL.skip (.bool rfl rfl rfl hc726) rfl ?_
              refine JL.skip (.bool rfl rfl rfl hc726) rfl ?_
              refine JL.skip (.bool rfl rfl rfl hc726) rfl ?_
              refine JL.skip (.bool rfl rfl rfl hc726) rfl ?_
              refine JL.skip (.bool rfl rfl rfl hc726) rfl ?_
              refine JL.skip (.bool rfl rfl rfl hc726) rfl ?_
              refine JL.skip (.bool rfl rfl rfl hc726) rfl ?_
              refine JL.skip (.bool rfl rfl rfl hc726) rfl ?_
              refine JL.skip (.bool rfl rfl rfl hc726) rfl ?_
              refine JL.skip (.bool rfl rfl rfl hc726) rfl ?_
              refine JL.pick_f (b := decide (0 < i_615)) rfl hc726 (.some rfl rfl rfl hc712) rfl ?_
              obtain rfl := Option.some.inj hF
              exact hJ725 _ ⟨rfl, rfl, rfl, rfl, rfl, rfl, rfl, rfl, rfl, rfl⟩
          · rintro f ⟨hf0, hf1, hf2, hf3, hf9, hf23, hf24, hf25, hf26, hf42⟩
            refine (JL.norm (i := 0) hf0 (JL.norm (i := 1) hf1 (JL.norm (i := 2) hf2 (JL.norm (i := 3) hf3 (JL.norm (i := 9) hf9 (JL.norm (i := 23) hf23 (JL.norm (i := 24) hf24 (JL.norm (i := 25) hf25 (JL.norm (i := 26) hf26 (JL.norm (i := 42) hf42 ?_))))))))))
            refine JL.pick_f (b := (!y684)) rfl hc712 .none rfl ?_
            obtain rfl := Option.some.inj hF
            exact hJ711 _ ⟨rfl, rfl, rfl, rfl, rfl, rfl⟩
      · rintro f ⟨hf0, hf1, hf2, hf3, hf9, hf43⟩
        refine (JL.norm (i := 0) hf0 (JL.norm (i := 1) hf1 (JL.norm (i := 2) hf2 (JL.norm (i := 3) hf3 (JL.norm (i := 9) hf9 (JL.norm (i := 43) hf43 ?_))))))
        refine JL.doneQ hQ ?_
        refine JQ.go ?_
        rcases ite_some hF with ⟨hc738, hF⟩ | ⟨hc738, hF⟩
        · refine JC.cond_t (b := p710) rfl hc738 ?_
          refine JC.seq ?_
          refine JC.region (by rfl) ?_
          intro hQ
          refine JL.assign .none rfl ?_
          refine JL.done hQ ?_
          refine JQ.go ?_
          refine JC.ret ?_
          refine JQ.ret_block ?_
          refine JQ.ret_then ?_
          refine JQ.ret_then ?_
          refine JQ.ret_block ?_
          refine JQ.ret_join ?_
          refine JQ.ret_then ?_
          obtain rfl := Option.some.inj hF
          have ehr617 := hr617 _ rfl
          subst ehr617
          have hF := hKr370
          try dsimp only at hF
          obtain rfl := Option.some.inj hF
          exact JQ.outS rfl (.tmp .nil) rfl
        · refine JC.cond_f (b := p710) rfl hc738 ?_
          refine JC.skip ?_
          refine JQ.normal_block ?_
          refine JQ.go ?_
          refine JC.region (by rfl) ?_
          intro hQ
          refine JL.move .none rfl ?_
          refine JL.bin rfl rfl rfl .none rfl ?_
          refine JL.assign .none rfl ?_
          refine JL.done hQ ?_
          obtain rfl := Option.some.inj hF
          exact JQ.next rfl ⟨rfl, rfl, rfl, rfl, rfl, rfl, rfl, hs616⟩
    · refine JC.cond_f (b := decide (i_615 < (l.length : Int))) rfl hc619 ?_
      refine JC.exit ?_
      refine JQ.exit_then ?_
      refine JQ.exit_then ?_
      refine JQ.exit_block ?_
      obtain rfl := Option.some.inj hF
      have ehr617 := hr617 _ rfl
      subst ehr617
      exact JQ.join () ⟨rfl, rfl, rfl, rfl, hs616, rfl⟩
  · rintro _ H369 f bs gs ⟨hf0, hf1, rfl, rfl, hs369, rfl⟩
    have hF := hKr370
    try dsimp only at hF
    refine (JQ.norm (i := 0) hf0 (JQ.norm (i := 1) hf1 ?_))
    refine JQ.go ?_
    refine JC.seq ?_
    refine JC.region (by rfl) ?_
    intro hQ
    refine JL.move .none rfl ?_
    refine JL.lenSL (R := RInt) ul_26 (SL.mono RInt.mono hs369 hl_0) .none rfl ?_
    refine JL.move .none rfl ?_
    refine JL.bin rfl rfl rfl .none rfl ?_
    refine JL.assign .none rfl ?_
    refine JL.done hQ ?_
    refine JQ.go ?_
    refine JC.ret ?_
    obtain rfl := Option.some.inj hF
    exact JQ.outS rfl (.tmp .nil) rfl

-- 20 ferrule/ferruleref11.IsRoute
def F_ref11_IsRoute (n : Nat) (t : Tour) (route : List Int) : Option Bool :=
  (F_ref11_isRow n route t.Days (w64 ((t.Fairs.length : Int) - 1)) t.Reach).bind fun y2 => some y2
set_option maxRecDepth 100000 in
set_option maxHeartbeats 40000000 in
theorem c_ref11_IsRoute (n : Nat) (H : Hp) (t : Tour) (t_v2 : Value) (ht_2 : SL H 3 R_Rain t_v2 t.Rains) (t_v4 : Value) (ht_4 : SL H 2 R_Fair t_v4 t.Fairs) (route : List Int) (route_v0 : Value) (hroute_0 : SL H 1 RInt route_v0 route) (y : Bool) (hF : F_ref11_IsRoute n t route = some y) : SC Try.prog 20 [.agg [.int .i64 t.Days, .int .i64 t.Step, t_v2, .int .i64 t.Wrong, t_v4, .int .i64 t.Reach, .int .i64 t.Stock].toArray, route_v0] (.bool y) H := by
  rw [F_ref11_IsRoute] at hF
  refine SC.of (N := 15) Try.func20 rfl rfl rfl fun w => ?_
  refine JC.seq ?_
  refine JC.region (by rfl) ?_
  intro hQ
  refine JL.box (cs := [.int .i64 t.Days, .int .i64 t.Step, t_v2, .int .i64 t.Wrong, t_v4, .int .i64 t.Reach, .int .i64 t.Stock]) rfl .none rfl ?_
  intro b1
  refine JL.assign .none rfl ?_
  refine JL.done hQ ?_
  refine JQ.go ?_
  refine JC.seq ?_
  refine JC.region (by rfl) ?_
  intro hQ
  refine JL.move .none rfl ?_
  refine JL.fieldAddr fo_25_0 rfl .none rfl ?_
  refine JL.loadOwn 0 az_3 rfl rfl rfl .none rfl ?_
  refine JL.fieldAddr fo_25_4 rfl .none rfl ?_
  refine JL.loadOwn 0 az_23 rfl rfl rfl .none rfl ?_
  refine JL.lenSL (R := R_Fair) ul_23 ht_4 .none rfl ?_
  refine JL.bin rfl rfl rfl .none rfl ?_
  refine JL.fieldAddr fo_25_5 rfl .none rfl ?_
  refine JL.loadOwn 0 az_3 rfl rfl rfl .none rfl ?_
  obtain ⟨y2, hy2, hF⟩ := bind_some hF
  refine JL.callS (c_ref11_isRow n H route route_v0 hroute_0 t.Days (w64 ((t.Fairs.length : Int) - 1)) t.Reach y2 hy2) rfl en_52 .none rfl ?_
  refine JL.assign .none rfl ?_
  refine JL.done hQ ?_
  refine JQ.go ?_
  refine JC.fresh (fun f => f 4 = .bool y2) rfl ?_
  rintro f hf4
  refine (JC.norm (i := 4) hf4 ?_)
  refine JC.ret ?_
  obtain rfl := Option.some.inj hF
  exact JQ.outS rfl (.tmp .nil) rfl

end Go.Proofs.Ytooankffknoomaa
