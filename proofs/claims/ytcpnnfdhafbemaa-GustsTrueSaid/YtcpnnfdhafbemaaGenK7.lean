/-
  Printed by a program: functions of the translation as plain functions, and their contracts.
-/
import Derived.Test.YtcpnnfdhafbemaaGenK6
namespace Go.Proofs.Ytcpnnfdhafbemaa
open Go Go.RowKit Go.Dec
set_option linter.unusedVariables false
-- 12 ferrule/ferrulelaw05.works
def F_law05_works (n : Nat)  : Option Bool :=
  (F_law05_Example n).bind fun y1 => (F_gusts_Lift n y1).bind fun y5 => (F_gusts_Goes n y1 (Gust.mk 14 0)).bind fun y7 => (F_gusts_Most n y1 0).bind fun y10 => (F_gusts_Weak n y1 [(Gust.mk 12 0), (Gust.mk 14 0)]).bind fun y15 => (if (((((y5.2 == 0) && (y7.2.2 == 0)) && (y10.2 == 0)) && (y15.2 == 0)) && ((y5.1.Low == 65) && (y5.1.High == 76))) = true then ((F_law05_sameInts n y7.2.1 [0, 1, 2, 3, 4, 5]).bind fun y39 => some y39) else (some false) : Option Bool).bind fun p31 => (if (p31 && (y10.1 == 13)) = true then ((F_law05_sameInts n y15.1 [0, 1, 5]).bind fun y55 => some y55) else (some false) : Option Bool).bind fun p47 => some p47
set_option maxRecDepth 100000 in
set_option maxHeartbeats 40000000 in
theorem c_law05_works (n : Nat) (H : Hp)  (y : Bool) (hF : F_law05_works n = some y) : SC Try.prog 12 [] (.bool y) H := by
  rw [F_law05_works] at hF
  refine SC.of (N := 70) Try.func12 rfl rfl rfl fun w => ?_
  refine JC.seq ?_
  refine JC.region (by rfl) ?_
  intro hQ
  refine JL.assign .none rfl ?_
  refine JL.done hQ ?_
  refine JQ.go ?_
  refine JC.seq ?_
  refine JC.region (by rfl) ?_
  intro hQ
  obtain ⟨y1, hy1, hF⟩ := bind_some hF
  refine JL.callH (c_law05_Example n H y1 hy1) rfl en_42 .none rfl ?_
  rintro H2 vv3 hs2 ⟨y1a_v0, y1a_v7, y1a_v8, rfl, hy1a_0, hy1a_7, hy1a_8⟩
  refine JL.alloc ze_30 .none rfl ?_
  intro b4
  refine JL.storeOwn 0 (cs := [y1a_v0, .int .i64 y1.Frame.Low, .int .i64 y1.Frame.High, .int .i64 y1.Frame.Ease.Num, .int .i64 y1.Frame.Ease.Den, .int .i64 y1.Frame.Rod, .int .i64 y1.Frame.Case, y1a_v7, y1a_v8]) az_30 rfl rfl rfl (one_cons (SL.one hy1a_0) (one_cons rfl (one_cons rfl (one_cons rfl (one_cons rfl (one_cons rfl (one_cons rfl (one_cons (SL.one hy1a_7) (one_cons (SL.one hy1a_8) one_nil))))))))) rfl rfl .none ?_
  refine JL.done hQ ?_
  refine JQ.go ?_
  refine JC.seq ?_
  refine JC.region (by rfl) ?_
  intro hQ
  refine JL.loadOwn 0 az_30 rfl rfl rfl .none rfl ?_
  obtain ⟨y5, hy5, hF⟩ := bind_some hF
  refine JL.callS (c_gusts_Lift n H2 y1 y1a_v0 hy1a_0 y1a_v7 hy1a_7 y1a_v8 hy1a_8 y5 hy5) rfl en_19 .none rfl ?_
  refine JL.move .none rfl ?_
  refine JL.extract rfl rfl .none rfl ?_
  refine JL.extract rfl rfl .none rfl ?_
  refine JL.alloc ze_38 .none rfl ?_
  intro b6
  refine JL.storeOwn 0 (cs := [.int .i64 y5.1.Low, .int .i64 y5.1.High]) az_38 rfl rfl rfl (one_cons rfl (one_cons rfl one_nil)) rfl rfl .none ?_
  refine JL.assign .none rfl ?_
  refine JL.done hQ ?_
  refine JQ.go ?_
  refine JC.seq ?_
  refine JC.region (by rfl) ?_
  intro hQ
  refine JL.loadOwn 1 az_30 rfl rfl rfl .none rfl ?_
  refine JL.build (l := [.int .i64 14, .int .i64 0]) (by kernel_rfl) .none rfl ?_
  obtain ⟨y7, hy7, hF⟩ := bind_some hF
  refine JL.callH (c_gusts_Goes n H2 y1 y1a_v0 hy1a_0 y1a_v7 hy1a_7 y1a_v8 hy1a_8 (Gust.mk 14 0) y7 hy7) rfl en_14 .none rfl ?_
  rintro H8 vv9 hs8 ⟨y7a_v0, y7b_v0, rfl, hy7a_0, hy7b_0⟩
  refine JL.move .none rfl ?_
  refine JL.extract rfl rfl .none rfl ?_
  refine JL.extract rfl rfl .none rfl ?_
  refine JL.extract rfl rfl .none rfl ?_
  refine JL.assign .none rfl ?_
  refine JL.assign .none rfl ?_
  refine JL.assign .none rfl ?_
  refine JL.done hQ ?_
  refine JQ.go ?_
  refine JC.fresh (fun f => f 0 = .bool false ∧ f 1 = .pointer (some ⟨b4, 0, none⟩) ∧ f 2 = .pointer (some ⟨b6, 0, none⟩) ∧ f 3 = .int .i64 y5.2 ∧ f 5 = y7b_v0 ∧ f 6 = .int .i64 y7.2.2) ⟨rfl, rfl, rfl, rfl, rfl, rfl⟩ ?_
  rintro f ⟨hf0, hf1, hf2, hf3, hf5, hf6⟩
  refine (JC.norm (i := 0) hf0 (JC.norm (i := 1) hf1 (JC.norm (i := 2) hf2 (JC.norm (i := 3) hf3 (JC.norm (i := 5) hf5 (JC.norm (i := 6) hf6 ?_))))))
  refine JC.seq ?_
  refine JC.region (by rfl) ?_
  intro hQ
  refine JL.loadOwn 1 az_30 rfl rfl rfl .none rfl ?_
  obtain ⟨y10, hy10, hF⟩ := bind_some hF
  refine JL.callS (c_gusts_Most n H8 y1 y1a_v0 (SL.mono R_Section_mono hs8 hy1a_0) y1a_v7 (SL.mono R_Span_mono hs8 hy1a_7) y1a_v8 (SL.mono RInt.mono hs8 hy1a_8) 0 y10 hy10) rfl en_30 .none rfl ?_
  refine JL.move .none rfl ?_
  refine JL.extract rfl rfl .none rfl ?_
  refine JL.extract rfl rfl .none rfl ?_
  refine JL.assign .none rfl ?_
  refine JL.assign .none rfl ?_
  refine JL.done hQ ?_
  refine JQ.go ?_
  refine JC.seq ?_
  refine JC.region (by rfl) ?_
  intro hQ
  refine JL.loadOwn 1 az_30 rfl rfl rfl .none rfl ?_
  refine JL.build (l := [.int .i64 12, .int .i64 0]) (by kernel_rfl) .none rfl ?_
  refine JL.build (l := [.int .i64 14, .int .i64 0]) (by kernel_rfl) .none rfl ?_
  refine JL.buildSlice (e := 32) (l := [.int .i64 12, .int .i64 0, .int .i64 14, .int .i64 0]) (by kernel_rfl) .none rfl ?_
  intro b11
  refine JL.freezeC 0 (l := [.int .i64 12, .int .i64 0, .int .i64 14, .int .i64 0]) rfl ?_
  intro H12 hs12 hc13
  have hg14 : SL H12 2 R_Gust (.slice (some ⟨b11, 0, none⟩) 2 2) [(Gust.mk 12 0), (Gust.mk 14 0)] := CH.sl (l := [(Gust.mk 12 0), (Gust.mk 14 0)]) (CH.cons (cs := [.int .i64 12, .int .i64 0]) rfl rfl (CH.cons (cs := [.int .i64 14, .int .i64 0]) rfl rfl CH.nil)) hc13 ⟨by simp, by simp⟩
  obtain ⟨y15, hy15, hF⟩ := bind_some hF
  refine JL.callH (c_gusts_Weak n H12 y1 y1a_v0 (SL.mono R_Section_mono (HSub.trans hs8 hs12) hy1a_0) y1a_v7 (SL.mono R_Span_mono (HSub.trans hs8 hs12) hy1a_7) y1a_v8 (SL.mono RInt.mono (HSub.trans hs8 hs12) hy1a_8) [(Gust.mk 12 0), (Gust.mk 14 0)] (.slice (some ⟨b11, 0, none⟩) 2 2) hg14 y15 hy15) rfl en_31 .none rfl ?_
  rintro H16 vv17 hs16 ⟨y15a_v0, rfl, hy15a_0⟩
  refine JL.move .none rfl ?_
  refine JL.extract rfl rfl .none rfl ?_
  refine JL.extract rfl rfl .none rfl ?_
  refine JL.assign .none rfl ?_
  refine JL.assign .none rfl ?_
  refine JL.done hQ ?_
  refine JQ.go ?_
  refine JC.fresh (fun f => f 0 = .bool false ∧ f 2 = .pointer (some ⟨b6, 0, none⟩) ∧ f 3 = .int .i64 y5.2 ∧ f 5 = y7b_v0 ∧ f 6 = .int .i64 y7.2.2 ∧ f 7 = .int .i64 y10.1 ∧ f 8 = .int .i64 y10.2 ∧ f 9 = y15a_v0 ∧ f 10 = .int .i64 y15.2) ⟨rfl, rfl, rfl, rfl, rfl, rfl, rfl, rfl, rfl⟩ ?_
  rintro f ⟨hf0, hf2, hf3, hf5, hf6, hf7, hf8, hf9, hf10⟩
  refine (JC.norm (i := 0) hf0 (JC.norm (i := 2) hf2 (JC.norm (i := 3) hf3 (JC.norm (i := 5) hf5 (JC.norm (i := 6) hf6 (JC.norm (i := 7) hf7 (JC.norm (i := 8) hf8 (JC.norm (i := 9) hf9 (JC.norm (i := 10) hf10 ?_)))))))))
  refine JC.seq ?_
  refine JC.region (by rfl) ?_
  intro hQ
  refine JL.move .none rfl ?_
  refine JL.bin rfl rfl rfl .none rfl ?_
  refine JL.move .none rfl ?_
  refine JL.cut 3 (fun f => f 2 = .pointer (some ⟨b6, 0, none⟩) ∧ f 5 = y7b_v0 ∧ f 7 = .int .i64 y10.1 ∧ f 8 = .int .i64 y10.2 ∧ f 9 = y15a_v0 ∧ f 10 = .int .i64 y15.2 ∧ f 42 = .bool ((y5.2 == 0) && (y7.2.2 == 0))) ?_ ?_
  · intro hJ18
    rcases bcases (y5.2 == 0) with hc19 | hc19
    · skip
      refine JL.move (.some rfl rfl rfl hc19) rfl ?_
      refine JL.bin rfl rfl rfl (.some rfl rfl rfl hc19) rfl ?_
      refine JL.pick_t (b := (y5.2 == 0)) rfl hc19 .none rfl ?_
      exact hJ18 _ ⟨rfl, rfl, rfl, rfl, rfl, rfl, and_t hc19 rfl⟩
    · skip
      refine JL.skip (.bool rfl rfl rfl hc19) rfl ?_
      refine JL.skip (.bool rfl rfl rfl hc19) rfl ?_
      refine JL.pick_f (b := (y5.2 == 0)) rfl hc19 .none rfl ?_
      exact hJ18 _ ⟨rfl, rfl, rfl, rfl, rfl, rfl, and_f hc19 rfl⟩
  · rintro f ⟨hf2, hf5, hf7, hf8, hf9, hf10, hf42⟩
    refine (JL.norm (i := 2) hf2 (JL.norm (i := 5) hf5 (JL.norm (i := 7) hf7 (JL.norm (i := 8) hf8 (JL.norm (i := 9) hf9 (JL.norm (i := 10) hf10 (JL.norm (i := 42) hf42 ?_)))))))
    refine JL.move .none rfl ?_
    refine JL.cut 3 (fun f => f 2 = .pointer (some ⟨b6, 0, none⟩) ∧ f 5 = y7b_v0 ∧ f 7 = .int .i64 y10.1 ∧ f 9 = y15a_v0 ∧ f 10 = .int .i64 y15.2 ∧ f 46 = .bool (((y5.2 == 0) && (y7.2.2 == 0)) && (y10.2 == 0))) ?_ ?_
    · intro hJ20
      rcases bcases ((y5.2 == 0) && (y7.2.2 == 0)) with hc21 | hc21
      · skip
        refine JL.move (.some rfl rfl rfl hc21) rfl ?_
        refine JL.bin rfl rfl rfl (.some rfl rfl rfl hc21) rfl ?_
        refine JL.pick_t (b := ((y5.2 == 0) && (y7.2.2 == 0))) rfl hc21 .none rfl ?_
        exact hJ20 _ ⟨rfl, rfl, rfl, rfl, rfl, and_t hc21 rfl⟩
      · skip
        refine JL.skip (.bool rfl rfl rfl hc21) rfl ?_
        refine JL.skip (.bool rfl rfl rfl hc21) rfl ?_
        refine JL.pick_f (b := ((y5.2 == 0) && (y7.2.2 == 0))) rfl hc21 .none rfl ?_
        exact hJ20 _ ⟨rfl, rfl, rfl, rfl, rfl, and_f hc21 rfl⟩
    · rintro f ⟨hf2, hf5, hf7, hf9, hf10, hf46⟩
      refine (JL.norm (i := 2) hf2 (JL.norm (i := 5) hf5 (JL.norm (i := 7) hf7 (JL.norm (i := 9) hf9 (JL.norm (i := 10) hf10 (JL.norm (i := 46) hf46 ?_))))))
      refine JL.move .none rfl ?_
      refine JL.cut 3 (fun f => f 2 = .pointer (some ⟨b6, 0, none⟩) ∧ f 5 = y7b_v0 ∧ f 7 = .int .i64 y10.1 ∧ f 9 = y15a_v0 ∧ f 50 = .bool ((((y5.2 == 0) && (y7.2.2 == 0)) && (y10.2 == 0)) && (y15.2 == 0))) ?_ ?_
      · intro hJ22
        rcases bcases (((y5.2 == 0) && (y7.2.2 == 0)) && (y10.2 == 0)) with hc23 | hc23
        · skip
          refine JL.move (.some rfl rfl rfl hc23) rfl ?_
          refine JL.bin rfl rfl rfl (.some rfl rfl rfl hc23) rfl ?_
          refine JL.pick_t (b := (((y5.2 == 0) && (y7.2.2 == 0)) && (y10.2 == 0))) rfl hc23 .none rfl ?_
          exact hJ22 _ ⟨rfl, rfl, rfl, rfl, and_t hc23 rfl⟩
        · skip
          refine JL.skip (.bool rfl rfl rfl hc23) rfl ?_
          refine JL.skip (.bool rfl rfl rfl hc23) rfl ?_
          refine JL.pick_f (b := (((y5.2 == 0) && (y7.2.2 == 0)) && (y10.2 == 0))) rfl hc23 .none rfl ?_
          exact hJ22 _ ⟨rfl, rfl, rfl, rfl, and_f hc23 rfl⟩
      · rintro f ⟨hf2, hf5, hf7, hf9, hf50⟩
        refine (JL.norm (i := 2) hf2 (JL.norm (i := 5) hf5 (JL.norm (i := 7) hf7 (JL.norm (i := 9) hf9 (JL.norm (i := 50) hf50 ?_)))))
        refine JL.move .none rfl ?_
        refine JL.cut 4 (fun f => f 5 = y7b_v0 ∧ f 7 = .int .i64 y10.1 ∧ f 9 = y15a_v0 ∧ f 55 = .bool (((((y5.2 == 0) && (y7.2.2 == 0)) && (y10.2 == 0)) && (y15.2 == 0)) && ((y5.1.Low == 65) && (y5.1.High == 76)))) ?_ ?_
        · intro hJ24
          rcases bcases ((((y5.2 == 0) && (y7.2.2 == 0)) && (y10.2 == 0)) && (y15.2 == 0)) with hc25 | hc25
          · skip
            refine JL.loadOwn 0 az_38 rfl rfl rfl (.some rfl rfl rfl hc25) rfl ?_
            refine JL.build (l := [.int .i64 65, .int .i64 76]) (by kernel_rfl) (.some rfl rfl rfl hc25) rfl ?_
            refine JL.eqAgg eqg_38 rfl rfl (fun w => eqa_38 y5.1.Low y5.1.High 65 76 w) (.some rfl rfl rfl hc25) rfl ?_
            refine JL.pick_t (b := ((((y5.2 == 0) && (y7.2.2 == 0)) && (y10.2 == 0)) && (y15.2 == 0))) rfl hc25 .none rfl ?_
            exact hJ24 _ ⟨rfl, rfl, rfl, and_t hc25 rfl⟩
          · skip
            refine JL.skip (.bool rfl rfl rfl hc25) rfl ?_
            refine JL.skip (.bool rfl rfl rfl hc25) rfl ?_
            refine JL.skip (.bool rfl rfl rfl hc25) rfl ?_
            refine JL.pick_f (b := ((((y5.2 == 0) && (y7.2.2 == 0)) && (y10.2 == 0)) && (y15.2 == 0))) rfl hc25 .none rfl ?_
            exact hJ24 _ ⟨rfl, rfl, rfl, and_f hc25 rfl⟩
        · rintro f ⟨hf5, hf7, hf9, hf55⟩
          refine (JL.norm (i := 5) hf5 (JL.norm (i := 7) hf7 (JL.norm (i := 9) hf9 (JL.norm (i := 55) hf55 ?_))))
          refine JL.move .none rfl ?_
          obtain ⟨p31, hp31, hF⟩ := bind_some hF
          refine JL.cutW 4 (fun H32 f bs gs => f 7 = .int .i64 y10.1 ∧ f 9 = y15a_v0 ∧ f 60 = .bool p31 ∧ bs = [] ∧ gs = [] ∧ HSub H16 H32) ?_ ?_
          · intro hJ33
            rcases ite_some hp31 with ⟨hc34, hF⟩ | ⟨hc34, hF⟩
            · skip
              refine JL.move (.some rfl rfl rfl hc34) rfl ?_
              refine JL.buildSlice (e := 3) (l := [.int .i64 0, .int .i64 1, .int .i64 2, .int .i64 3, .int .i64 4, .int .i64 5]) (by kernel_rfl) (.some rfl rfl rfl hc34) rfl ?_
              intro b35
              refine JL.freezeC 0 (l := [.int .i64 0, .int .i64 1, .int .i64 2, .int .i64 3, .int .i64 4, .int .i64 5]) rfl ?_
              intro H36 hs36 hc37
              have hg38 : SL H36 1 RInt (.slice (some ⟨b35, 0, none⟩) 6 6) [0, 1, 2, 3, 4, 5] := CH.sl (l := [0, 1, 2, 3, 4, 5]) (CH.cons (cs := [.int .i64 0]) rfl rfl (CH.cons (cs := [.int .i64 1]) rfl rfl (CH.cons (cs := [.int .i64 2]) rfl rfl (CH.cons (cs := [.int .i64 3]) rfl rfl (CH.cons (cs := [.int .i64 4]) rfl rfl (CH.cons (cs := [.int .i64 5]) rfl rfl CH.nil)))))) hc37 ⟨by simp, by simp⟩
              obtain ⟨y39, hy39, hF⟩ := bind_some hF
              refine JL.callS (c_law05_sameInts n H36 y7.2.1 y7b_v0 (SL.mono RInt.mono (HSub.trans hs12 (HSub.trans hs16 hs36)) hy7b_0) [0, 1, 2, 3, 4, 5] (.slice (some ⟨b35, 0, none⟩) 6 6) hg38 y39 hy39) rfl en_25 (.some rfl rfl rfl hc34) rfl ?_
              refine JL.pick_t (b := (((((y5.2 == 0) && (y7.2.2 == 0)) && (y10.2 == 0)) && (y15.2 == 0)) && ((y5.1.Low == 65) && (y5.1.High == 76)))) rfl hc34 .none rfl ?_
              obtain rfl := Option.some.inj hF
              refine JL.mask [false, false] [] ?_
              exact hJ33 _ _ _ _ ⟨rfl, rfl, rfl, rfl, rfl, hs36⟩
            · skip
              refine JL.skip (.bool rfl rfl rfl hc34) rfl ?_
              refine JL.skip (.bool rfl rfl rfl hc34) rfl ?_
              refine JL.skip (.bool rfl rfl rfl hc34) rfl ?_
              refine JL.pick_f (b := (((((y5.2 == 0) && (y7.2.2 == 0)) && (y10.2 == 0)) && (y15.2 == 0)) && ((y5.1.Low == 65) && (y5.1.High == 76)))) rfl hc34 .none rfl ?_
              obtain rfl := Option.some.inj hF
              refine JL.mask [false, false] [] ?_
              exact hJ33 _ _ _ _ ⟨rfl, rfl, rfl, rfl, rfl, (HSub.refl _)⟩
          · rintro H32 f bs gs ⟨hf7, hf9, hf60, rfl, rfl, hs32⟩
            refine (JL.norm (i := 7) hf7 (JL.norm (i := 9) hf9 (JL.norm (i := 60) hf60 ?_)))
            refine JL.move .none rfl ?_
            refine JL.cut 3 (fun f => f 9 = y15a_v0 ∧ f 64 = .bool (p31 && (y10.1 == 13))) ?_ ?_
            · intro hJ40
              rcases bcases p31 with hc41 | hc41
              · skip
                refine JL.move (.some rfl rfl rfl hc41) rfl ?_
                refine JL.bin rfl rfl rfl (.some rfl rfl rfl hc41) rfl ?_
                refine JL.pick_t (b := p31) rfl hc41 .none rfl ?_
                exact hJ40 _ ⟨rfl, and_t hc41 rfl⟩
              · skip
                refine JL.skip (.bool rfl rfl rfl hc41) rfl ?_
                refine JL.skip (.bool rfl rfl rfl hc41) rfl ?_
                refine JL.pick_f (b := p31) rfl hc41 .none rfl ?_
                exact hJ40 _ ⟨rfl, and_f hc41 rfl⟩
            · rintro f ⟨hf9, hf64⟩
              refine (JL.norm (i := 9) hf9 (JL.norm (i := 64) hf64 ?_))
              refine JL.move .none rfl ?_
              obtain ⟨p47, hp47, hF⟩ := bind_some hF
              refine JL.cutW 4 (fun H48 f bs gs => f 69 = .bool p47 ∧ bs = [] ∧ gs = [] ∧ HSub H32 H48) ?_ ?_
              · intro hJ49
                rcases ite_some hp47 with ⟨hc50, hF⟩ | ⟨hc50, hF⟩
                · skip
                  refine JL.move (.some rfl rfl rfl hc50) rfl ?_
                  refine JL.buildSlice (e := 3) (l := [.int .i64 0, .int .i64 1, .int .i64 5]) (by kernel_rfl) (.some rfl rfl rfl hc50) rfl ?_
                  intro b51
                  refine JL.freezeC 0 (l := [.int .i64 0, .int .i64 1, .int .i64 5]) rfl ?_
                  intro H52 hs52 hc53
                  have hg54 : SL H52 1 RInt (.slice (some ⟨b51, 0, none⟩) 3 3) [0, 1, 5] := CH.sl (l := [0, 1, 5]) (CH.cons (cs := [.int .i64 0]) rfl rfl (CH.cons (cs := [.int .i64 1]) rfl rfl (CH.cons (cs := [.int .i64 5]) rfl rfl CH.nil))) hc53 ⟨by simp, by simp⟩
                  obtain ⟨y55, hy55, hF⟩ := bind_some hF
                  refine JL.callS (c_law05_sameInts n H52 y15.1 y15a_v0 (SL.mono RInt.mono (HSub.trans hs32 hs52) hy15a_0) [0, 1, 5] (.slice (some ⟨b51, 0, none⟩) 3 3) hg54 y55 hy55) rfl en_25 (.some rfl rfl rfl hc50) rfl ?_
                  refine JL.pick_t (b := (p31 && (y10.1 == 13))) rfl hc50 .none rfl ?_
                  obtain rfl := Option.some.inj hF
                  refine JL.mask [] [] ?_
                  exact hJ49 _ _ _ _ ⟨rfl, rfl, rfl, hs52⟩
                · skip
                  refine JL.skip (.bool rfl rfl rfl hc50) rfl ?_
                  refine JL.skip (.bool rfl rfl rfl hc50) rfl ?_
                  refine JL.skip (.bool rfl rfl rfl hc50) rfl ?_
                  refine JL.pick_f (b := (p31 && (y10.1 == 13))) rfl hc50 .none rfl ?_
                  obtain rfl := Option.some.inj hF
                  refine JL.mask [] [] ?_
                  exact hJ49 _ _ _ _ ⟨rfl, rfl, rfl, (HSub.refl _)⟩
              · rintro H48 f bs gs ⟨hf69, rfl, rfl, hs48⟩
                refine (JL.norm (i := 69) hf69 ?_)
                refine JL.assign .none rfl ?_
                refine JL.done hQ ?_
                refine JQ.go ?_
                refine JC.ret ?_
                obtain rfl := Option.some.inj hF
                exact JQ.outS rfl (.tmp .nil) rfl

-- 43 ferrule/ferruleref01.Copy
def F_ref01_Copy (n : Nat) (f_ : Frame) : Option Frame :=
  (lim (([] : List Section) ++ f_.Sections)).bind fun l5 => some (Frame.mk l5 f_.Low f_.High f_.Ease f_.Rod f_.Case)
set_option maxRecDepth 100000 in
set_option maxHeartbeats 40000000 in
theorem c_ref01_Copy (n : Nat) (H : Hp) (f_ : Frame) (f__v0 : Value) (hf__0 : SL H 7 R_Section f__v0 f_.Sections) (y : Frame) (hF : F_ref01_Copy n f_ = some y) : HC Try.prog 43 [.agg [f__v0, .int .i64 f_.Low, .int .i64 f_.High, .int .i64 f_.Ease.Num, .int .i64 f_.Ease.Den, .int .i64 f_.Rod, .int .i64 f_.Case].toArray] H (fun H' v => ∃ ra_v0 : Value, v = .agg [ra_v0, .int .i64 y.Low, .int .i64 y.High, .int .i64 y.Ease.Num, .int .i64 y.Ease.Den, .int .i64 y.Rod, .int .i64 y.Case].toArray ∧ SL H' 7 R_Section ra_v0 y.Sections) := by
  rw [F_ref01_Copy] at hF
  refine HC.of (N := 9) Try.func43 rfl rfl rfl fun w => ?_
  refine JC.seq ?_
  refine JC.region (by rfl) ?_
  intro hQ
  refine JL.box (cs := [f__v0, .int .i64 f_.Low, .int .i64 f_.High, .int .i64 f_.Ease.Num, .int .i64 f_.Ease.Den, .int .i64 f_.Rod, .int .i64 f_.Case]) rfl .none rfl ?_
  intro b1
  refine JL.alloc ze_26 .none rfl ?_
  intro b2
  refine JL.done hQ ?_
  refine JQ.go ?_
  refine JC.seq ?_
  refine JC.region (by rfl) ?_
  intro hQ
  refine JL.emptySlice ap_22 .none rfl ?_
  intro v3
  refine JL.fieldAddr fo_26_0 rfl .none rfl ?_
  refine JL.loadOwn 1 az_22 rfl rfl rfl .none rfl ?_
  obtain ⟨l5, hl5, hF⟩ := bind_some hF
  refine JL.appD (R := R_Section) 0 (l := ([] : List Section)) (m := f_.Sections) ap_22 rfl ⟨rfl, rfl⟩ rfl CH.nil rfl hf__0 (R_Section_one _) hl5 .none rfl ?_
  intro v6 xs7 hch8
  refine JL.fieldAddr fo_26_0 rfl .none rfl ?_
  refine JL.oneG 0 rfl (fun ho9 => ?_)
  refine JL.storeOwn 1 (cs := [v6]) az_22 rfl ho9.2 rfl (one_cons ho9.1 one_nil) rfl rfl .none ?_
  refine JL.done hQ ?_
  refine JQ.go ?_
  refine JC.seq ?_
  refine JC.region (by rfl) ?_
  intro hQ
  refine JL.loadOwn 1 az_26 rfl rfl rfl .none rfl ?_
  refine JL.oneG 0 rfl (fun ho10 => ?_)
  refine JL.storeOwn 0 (cs := [v6, .int .i64 f_.Low, .int .i64 f_.High, .int .i64 f_.Ease.Num, .int .i64 f_.Ease.Den, .int .i64 f_.Rod, .int .i64 f_.Case]) az_26 rfl rfl rfl (one_cons ho10.1 (one_cons rfl (one_cons rfl (one_cons rfl (one_cons rfl (one_cons rfl (one_cons rfl one_nil))))))) rfl rfl .none ?_
  refine JL.done hQ ?_
  refine JQ.go ?_
  refine JC.ret ?_
  refine JQ.freezeG 0 (R := R_Section) rfl R_Section_mono hch8 rfl ?_
  intro H11 hs11 hg12
  obtain rfl := Option.some.inj hF
  exact JQ.outH rfl (.cell 0 az_26 rfl rfl rfl .nil) ⟨v6, rfl, hg12⟩
set_option maxRecDepth 100000 in
set_option maxHeartbeats 40000000 in
theorem x_ref01_Copy (n : Nat) (H : Hp) (f_ : Frame) (f__v0 : Value) (hf__0 : SL H 7 R_Section f__v0 f_.Sections) (y : Frame) (hF : F_ref01_Copy n f_ = some y) : XC Try.prog 43 [.agg [f__v0, .int .i64 f_.Low, .int .i64 f_.High, .int .i64 f_.Ease.Num, .int .i64 f_.Ease.Den, .int .i64 f_.Rod, .int .i64 f_.Case].toArray] H (fun H' v gs' => ∃ (y_v0 : Value) (y_xs0 : List Value), v = .agg [y_v0, .int .i64 y.Low, .int .i64 y.High, .int .i64 y.Ease.Num, .int .i64 y.Ease.Den, .int .i64 y.Rod, .int .i64 y.Case].toArray ∧ gs' = [⟨y_v0, 118, 7, y.Sections.length, y_xs0⟩] ∧ CH H' 7 R_Section y_xs0 y.Sections) := by
  rw [F_ref01_Copy] at hF
  refine XC.of (N := 9) Try.func43 rfl rfl rfl fun w => ?_
  refine JC.seq ?_
  refine JC.region (by rfl) ?_
  intro hQ
  refine JL.box (cs := [f__v0, .int .i64 f_.Low, .int .i64 f_.High, .int .i64 f_.Ease.Num, .int .i64 f_.Ease.Den, .int .i64 f_.Rod, .int .i64 f_.Case]) rfl .none rfl ?_
  intro b1
  refine JL.alloc ze_26 .none rfl ?_
  intro b2
  refine JL.done hQ ?_
  refine JQ.go ?_
  refine JC.seq ?_
  refine JC.region (by rfl) ?_
  intro hQ
  refine JL.emptySlice ap_22 .none rfl ?_
  intro v3
  refine JL.fieldAddr fo_26_0 rfl .none rfl ?_
  refine JL.loadOwn 1 az_22 rfl rfl rfl .none rfl ?_
  obtain ⟨l5, hl5, hF⟩ := bind_some hF
  refine JL.appD (R := R_Section) 0 (l := ([] : List Section)) (m := f_.Sections) ap_22 rfl ⟨rfl, rfl⟩ rfl CH.nil rfl hf__0 (R_Section_one _) hl5 .none rfl ?_
  intro v6 xs7 hch8
  refine JL.fieldAddr fo_26_0 rfl .none rfl ?_
  refine JL.oneG 0 rfl (fun ho9 => ?_)
  refine JL.storeOwn 1 (cs := [v6]) az_22 rfl ho9.2 rfl (one_cons ho9.1 one_nil) rfl rfl .none ?_
  refine JL.done hQ ?_
  refine JQ.go ?_
  refine JC.seq ?_
  refine JC.region (by rfl) ?_
  intro hQ
  refine JL.loadOwn 1 az_26 rfl rfl rfl .none rfl ?_
  refine JL.oneG 0 rfl (fun ho10 => ?_)
  refine JL.storeOwn 0 (cs := [v6, .int .i64 f_.Low, .int .i64 f_.High, .int .i64 f_.Ease.Num, .int .i64 f_.Ease.Den, .int .i64 f_.Rod, .int .i64 f_.Case]) az_26 rfl rfl rfl (one_cons ho10.1 (one_cons rfl (one_cons rfl (one_cons rfl (one_cons rfl (one_cons rfl (one_cons rfl one_nil))))))) rfl rfl .none ?_
  refine JL.done hQ ?_
  refine JQ.go ?_
  refine JC.ret ?_
  obtain rfl := Option.some.inj hF
  exact JQ.outX rfl (.cell 0 az_26 rfl rfl rfl .nil) ⟨v6, xs7, rfl, rfl, hch8⟩

-- 13 ferrule/ferruleref05.Copy
def F_ref05_Copy (n : Nat) (d : Canopy) : Option Canopy :=
  (F_ref01_Copy n d.Frame).bind fun y4 => (lim (([] : List Span) ++ d.Ribs)).bind fun l9 => (lim (([] : List Int) ++ d.Shares)).bind fun l15 => some (Canopy.mk y4 l9 l15)
set_option maxRecDepth 100000 in
set_option maxHeartbeats 40000000 in
theorem c_ref05_Copy (n : Nat) (H : Hp) (d : Canopy) (d_v0 : Value) (hd_0 : SL H 7 R_Section d_v0 d.Frame.Sections) (d_v7 : Value) (hd_7 : SL H 2 R_Span d_v7 d.Ribs) (d_v8 : Value) (hd_8 : SL H 1 RInt d_v8 d.Shares) (y : Canopy) (hF : F_ref05_Copy n d = some y) : HC Try.prog 13 [.agg [d_v0, .int .i64 d.Frame.Low, .int .i64 d.Frame.High, .int .i64 d.Frame.Ease.Num, .int .i64 d.Frame.Ease.Den, .int .i64 d.Frame.Rod, .int .i64 d.Frame.Case, d_v7, d_v8].toArray] H (fun H' v => ∃ ra_v0 ra_v7 ra_v8 : Value, v = .agg [ra_v0, .int .i64 y.Frame.Low, .int .i64 y.Frame.High, .int .i64 y.Frame.Ease.Num, .int .i64 y.Frame.Ease.Den, .int .i64 y.Frame.Rod, .int .i64 y.Frame.Case, ra_v7, ra_v8].toArray ∧ SL H' 7 R_Section ra_v0 y.Frame.Sections ∧ SL H' 2 R_Span ra_v7 y.Ribs ∧ SL H' 1 RInt ra_v8 y.Shares) := by
  rw [F_ref05_Copy] at hF
  refine HC.of (N := 20) Try.func13 rfl rfl rfl fun w => ?_
  refine JC.seq ?_
  refine JC.region (by rfl) ?_
  intro hQ
  refine JL.box (cs := [d_v0, .int .i64 d.Frame.Low, .int .i64 d.Frame.High, .int .i64 d.Frame.Ease.Num, .int .i64 d.Frame.Ease.Den, .int .i64 d.Frame.Rod, .int .i64 d.Frame.Case, d_v7, d_v8]) rfl .none rfl ?_
  intro b1
  refine JL.alloc ze_30 .none rfl ?_
  intro b2
  refine JL.done hQ ?_
  refine JQ.go ?_
  refine JC.seq ?_
  refine JC.region (by rfl) ?_
  intro hQ
  refine JL.loadOwn 1 az_30 rfl rfl rfl .none rfl ?_
  refine JL.alloc ze_30 .none rfl ?_
  intro b3
  refine JL.storeOwn 0 (cs := [d_v0, .int .i64 d.Frame.Low, .int .i64 d.Frame.High, .int .i64 d.Frame.Ease.Num, .int .i64 d.Frame.Ease.Den, .int .i64 d.Frame.Rod, .int .i64 d.Frame.Case, d_v7, d_v8]) az_30 rfl rfl rfl (one_cons (SL.one hd_0) (one_cons rfl (one_cons rfl (one_cons rfl (one_cons rfl (one_cons rfl (one_cons rfl (one_cons (SL.one hd_7) (one_cons (SL.one hd_8) one_nil))))))))) rfl rfl .none ?_
  refine JL.done hQ ?_
  refine JQ.go ?_
  refine JC.seq ?_
  refine JC.region (by rfl) ?_
  intro hQ
  refine JL.fieldAddr fo_30_0 rfl .none rfl ?_
  refine JL.loadOwn 2 az_26 rfl rfl rfl .none rfl ?_
  obtain ⟨y4, hy4, hF⟩ := bind_some hF
  refine JL.callH (c_ref01_Copy n H d.Frame d_v0 hd_0 y4 hy4) rfl en_43 .none rfl ?_
  rintro H5 vv6 hs5 ⟨y4a_v0, rfl, hy4a_0⟩
  refine JL.fieldAddr fo_30_0 rfl .none rfl ?_
  refine JL.storeOwn 0 (cs := [y4a_v0, .int .i64 y4.Low, .int .i64 y4.High, .int .i64 y4.Ease.Num, .int .i64 y4.Ease.Den, .int .i64 y4.Rod, .int .i64 y4.Case]) az_26 rfl rfl rfl (one_cons (SL.one hy4a_0) (one_cons rfl (one_cons rfl (one_cons rfl (one_cons rfl (one_cons rfl (one_cons rfl one_nil))))))) rfl rfl .none ?_
  refine JL.done hQ ?_
  refine JQ.go ?_
  refine JC.seq ?_
  obtain ⟨l9, hl9, hF⟩ := bind_some hF
  obtain ⟨l15, hl15, hF⟩ := bind_some hF
  refine JC.mixed 12 12 #[false, false, false, false, false, false, false, false, false, false, false, false] [(b2, .cells [.slice none 0 0, .int .i64 0, .int .i64 0, .int .i64 0, .int .i64 0, .int .i64 0, .int .i64 0, .slice none 0 0, .slice none 0 0].toArray 30), (b1, .cells [d_v0, .int .i64 d.Frame.Low, .int .i64 d.Frame.High, .int .i64 d.Frame.Ease.Num, .int .i64 d.Frame.Ease.Den, .int .i64 d.Frame.Rod, .int .i64 d.Frame.Case, d_v7, d_v8].toArray 30)] (by rfl) mo_ (by kernel_rfl) (by kernel_rfl) ?_
  intro hQ hE
  refine JA.cut 4 #[true, true, true, true, true, true, true, false, true, false, false, false] (fun H116 f bs gs => ∃ (v106 : Value) (v99 : Value) (xs100 : List Value), f 2 = .pointer (some ⟨b2, 0, none⟩) ∧ f 3 = .pointer (some ⟨b3, 0, none⟩) ∧ f 12 = v99 ∧ f 13 = v106 ∧ f 15 = d_v8 ∧ f 17 = .pointer (some ⟨b3, 7, none⟩) ∧ bs = [(b3, .cells [y4a_v0, .int .i64 y4.Low, .int .i64 y4.High, .int .i64 y4.Ease.Num, .int .i64 y4.Ease.Den, .int .i64 y4.Rod, .int .i64 y4.Case, d_v7, d_v8].toArray 30), (b2, .cells [.slice none 0 0, .int .i64 0, .int .i64 0, .int .i64 0, .int .i64 0, .int .i64 0, .int .i64 0, .slice none 0 0, .slice none 0 0].toArray 30), (b1, .cells [d_v0, .int .i64 d.Frame.Low, .int .i64 d.Frame.High, .int .i64 d.Frame.Ease.Num, .int .i64 d.Frame.Ease.Den, .int .i64 d.Frame.Rod, .int .i64 d.Frame.Case, d_v7, d_v8].toArray 30)] ∧ gs = [⟨v106, 3, 1, 0, []⟩, ⟨v99, 38, 2, l9.length, xs100⟩] ∧ CH H116 2 R_Span xs100 l9 ∧ HSub H5 H116) ?_ ?_
  · rintro H116 f bs gs ⟨v106, v99, xs100, hf2, hf3, hf12, hf13, hf15, hf17, rfl, rfl, hm117, hs116⟩
    refine (JA.norm (i := 2) hf2 (JA.norm (i := 3) hf3 (JA.norm (i := 12) hf12 (JA.norm (i := 13) hf13 (JA.norm (i := 15) hf15 (JA.norm (i := 17) hf17 ?_))))))
    refine JA.many [7] (by kernel_rfl) (by simp) (all_one ⟨_, #[true, true, true, true, true, true, true, true, true, false, false, false], rfl, (by kernel_rfl), ?_⟩)
    refine JL.appD (R := RInt) 0 (l := ([] : List Int)) (m := d.Shares) ap_28 rfl ⟨rfl, rfl⟩ rfl CH.nil rfl (SL.mono RInt.mono (HSub.trans hs5 hs116) hd_8) (RInt.one _) hl15 .none rfl ?_
    intro v118 xs119 hch120
    refine JA.after hE hs116 (.cons _ (.cons_cons _ (.cons_cons _ (List.nil_sublist _)))) ?_
    refine JA.many [9] (by kernel_rfl) (by simp) (all_one ⟨_, #[true, true, true, true, true, true, true, true, true, true, false, false], rfl, (by kernel_rfl), ?_⟩)
    refine JL.oneG 1 rfl (fun ho121 => ?_)
    refine JL.storeOwn 0 (cs := [v99]) az_27 rfl ho121.2 rfl (one_cons ho121.1 one_nil) rfl rfl .none ?_
    refine JA.after hE hs116 (.cons _ (.cons_cons _ (.cons_cons _ (List.nil_sublist _)))) ?_
    refine JA.take 10 (listed' := #[true, true, true, true, true, true, true, true, true, true, true, false]) hQ rfl (by kernel_rfl) (by kernel_rfl) (by kernel_rfl) (by kernel_rfl) (by kernel_rfl) hE hs116 (.cons _ (.cons_cons _ (.cons_cons _ (List.nil_sublist _)))) ?_
    refine JL.fieldAddr fo_30_2 rfl .none rfl ?_
    refine JA.cont ?_
    refine JA.many [11] (by kernel_rfl) (by simp) (all_one ⟨_, #[true, true, true, true, true, true, true, true, true, true, true, true], rfl, (by kernel_rfl), ?_⟩)
    refine JL.oneG 0 rfl (fun ho122 => ?_)
    refine JL.storeOwn 0 (cs := [v118]) az_28 rfl ho122.2 rfl (one_cons ho122.1 one_nil) rfl rfl .none ?_
    refine JA.after hE hs116 (.cons _ (.cons_cons _ (.cons_cons _ (List.nil_sublist _)))) ?_
    refine JA.done hQ (by kernel_rfl) ?_
    refine JQ.go ?_
    refine JC.seq ?_
    refine JC.region (by rfl) ?_
    intro hQ
    refine JL.loadOwn 0 az_30 rfl rfl rfl .none rfl ?_
    refine JL.oneG 1 rfl (fun ho123 => ?_)
    refine JL.oneG 0 rfl (fun ho124 => ?_)
    refine JL.storeOwn 1 (cs := [y4a_v0, .int .i64 y4.Low, .int .i64 y4.High, .int .i64 y4.Ease.Num, .int .i64 y4.Ease.Den, .int .i64 y4.Rod, .int .i64 y4.Case, v99, v118]) az_30 rfl rfl rfl (one_cons (SL.one (SL.mono R_Section_mono hs116 hy4a_0)) (one_cons rfl (one_cons rfl (one_cons rfl (one_cons rfl (one_cons rfl (one_cons rfl (one_cons ho123.1 (one_cons ho124.1 one_nil))))))))) rfl rfl .none ?_
    refine JL.done hQ ?_
    refine JQ.go ?_
    refine JC.ret ?_
    refine JQ.freezeG 1 (R := R_Span) rfl R_Span_mono hm117 rfl ?_
    intro H125 hs125 hg126
    refine JQ.freezeG 0 (R := RInt) rfl RInt.mono (CH.mono RInt.mono hs125 hch120) rfl ?_
    intro H127 hs127 hg128
    obtain rfl := Option.some.inj hF
    exact JQ.outH rfl (.cell 1 az_30 rfl rfl rfl .nil) ⟨y4a_v0, v99, v118, rfl, (SL.mono R_Section_mono (HSub.trans hs116 (HSub.trans hs125 hs127)) hy4a_0), (SL.mono R_Span_mono hs127 hg126), hg128⟩
  intro nd115_0
  refine JA.cut 6 #[true, true, true, false, true, true, true, false, false, false, false, false] (fun H129 f bs gs => ∃ (v102 : Value) (v95 : Value), f 2 = .pointer (some ⟨b2, 0, none⟩) ∧ f 3 = .pointer (some ⟨b3, 0, none⟩) ∧ f 9 = v95 ∧ f 11 = d_v7 ∧ f 13 = v102 ∧ f 15 = d_v8 ∧ bs = [(b3, .cells [y4a_v0, .int .i64 y4.Low, .int .i64 y4.High, .int .i64 y4.Ease.Num, .int .i64 y4.Ease.Den, .int .i64 y4.Rod, .int .i64 y4.Case, d_v7, d_v8].toArray 30), (b2, .cells [.slice none 0 0, .int .i64 0, .int .i64 0, .int .i64 0, .int .i64 0, .int .i64 0, .int .i64 0, .slice none 0 0, .slice none 0 0].toArray 30), (b1, .cells [d_v0, .int .i64 d.Frame.Low, .int .i64 d.Frame.High, .int .i64 d.Frame.Ease.Num, .int .i64 d.Frame.Ease.Den, .int .i64 d.Frame.Rod, .int .i64 d.Frame.Case, d_v7, d_v8].toArray 30)] ∧ gs = [⟨v102, 3, 1, 0, []⟩, ⟨v95, 38, 2, 0, []⟩] ∧ HSub H5 H129) ?_ ?_
  · rintro H129 f bs gs ⟨v102, v95, hf2, hf3, hf9, hf11, hf13, hf15, rfl, rfl, hs129⟩
    refine (JA.norm (i := 2) hf2 (JA.norm (i := 3) hf3 (JA.norm (i := 9) hf9 (JA.norm (i := 11) hf11 (JA.norm (i := 13) hf13 (JA.norm (i := 15) hf15 ?_))))))
    refine JA.many [3] (by kernel_rfl) (by simp) (all_one ⟨_, #[true, true, true, true, true, true, true, false, false, false, false, false], rfl, (by kernel_rfl), ?_⟩)
    refine JL.appD (R := R_Span) 1 (l := ([] : List Span)) (m := d.Ribs) ap_27 rfl ⟨rfl, rfl⟩ rfl CH.nil rfl (SL.mono R_Span_mono (HSub.trans hs5 hs129) hd_7) (R_Span_one _) hl9 .none rfl ?_
    intro v130 xs131 hch132
    refine JA.after hE hs129 (.cons _ (.cons_cons _ (.cons_cons _ (List.nil_sublist _)))) ?_
    refine JA.take 8 (listed' := #[true, true, true, true, true, true, true, false, true, false, false, false]) hQ rfl (by kernel_rfl) (by kernel_rfl) (by kernel_rfl) (by kernel_rfl) (by kernel_rfl) hE hs129 (.cons _ (.cons_cons _ (.cons_cons _ (List.nil_sublist _)))) ?_
    refine JL.fieldAddr fo_30_1 rfl .none rfl ?_
    refine JA.cont ?_
    exact nd115_0 _ _ _ _ ⟨v102, v130, xs131, rfl, rfl, rfl, rfl, rfl, rfl, rfl, rfl, hch132, hs129⟩
  intro nd115_1
  refine JA.take 1 (listed' := #[false, true, false, false, false, false, false, false, false, false, false, false]) hQ rfl (by kernel_rfl) (by kernel_rfl) (by kernel_rfl) (by kernel_rfl) (by kernel_rfl) hE (HSub.refl _) (.cons _ (.cons_cons _ (.cons_cons _ (List.nil_sublist _)))) ?_
  refine JL.fieldAddr fo_30_1 rfl .none rfl ?_
  refine JA.cont ?_
  refine JA.take 2 (listed' := #[false, true, true, false, false, false, false, false, false, false, false, false]) hQ rfl (by kernel_rfl) (by kernel_rfl) (by kernel_rfl) (by kernel_rfl) (by kernel_rfl) hE (HSub.refl _) (.cons _ (.cons_cons _ (.cons_cons _ (List.nil_sublist _)))) ?_
  refine JL.loadOwn 1 az_27 rfl rfl rfl .none rfl ?_
  refine JA.cont ?_
  refine JA.take 5 (listed' := #[false, true, true, false, false, true, false, false, false, false, false, false]) hQ rfl (by kernel_rfl) (by kernel_rfl) (by kernel_rfl) (by kernel_rfl) (by kernel_rfl) hE (HSub.refl _) (.cons _ (.cons_cons _ (.cons_cons _ (List.nil_sublist _)))) ?_
  refine JL.fieldAddr fo_30_2 rfl .none rfl ?_
  refine JA.cont ?_
  refine JA.take 6 (listed' := #[false, true, true, false, false, true, true, false, false, false, false, false]) hQ rfl (by kernel_rfl) (by kernel_rfl) (by kernel_rfl) (by kernel_rfl) (by kernel_rfl) hE (HSub.refl _) (.cons _ (.cons_cons _ (.cons_cons _ (List.nil_sublist _)))) ?_
  refine JL.loadOwn 1 az_28 rfl rfl rfl .none rfl ?_
  refine JA.cont ?_
  refine JA.many [0, 4] (by kernel_rfl) (by simp) (all_cons ⟨_, #[true, true, true, false, false, true, true, false, false, false, false, false], rfl, (by kernel_rfl), ?_⟩ (all_one ⟨_, #[false, true, true, false, true, true, true, false, false, false, false, false], rfl, (by kernel_rfl), ?_⟩))
  · skip
    refine JL.emptySlice ap_27 .none rfl ?_
    intro v133
    refine JA.after hE (HSub.refl _) (.cons _ (.cons_cons _ (.cons_cons _ (List.nil_sublist _)))) ?_
    refine JA.many [3, 4] (by kernel_rfl) (by simp) (all_cons ⟨_, #[true, true, true, true, false, true, true, false, false, false, false, false], rfl, (by kernel_rfl), ?_⟩ (all_one ⟨_, #[true, true, true, false, true, true, true, false, false, false, false, false], rfl, (by kernel_rfl), ?_⟩))
    · skip
      refine JL.appD (R := R_Span) 0 (l := ([] : List Span)) (m := d.Ribs) ap_27 rfl ⟨rfl, rfl⟩ rfl CH.nil rfl (SL.mono R_Span_mono hs5 hd_7) (R_Span_one _) hl9 .none rfl ?_
      intro v135 xs136 hch137
      refine JA.after hE (HSub.refl _) (.cons _ (.cons_cons _ (.cons_cons _ (List.nil_sublist _)))) ?_
      refine JA.take 8 (listed' := #[true, true, true, true, false, true, true, false, true, false, false, false]) hQ rfl (by kernel_rfl) (by kernel_rfl) (by kernel_rfl) (by kernel_rfl) (by kernel_rfl) hE (HSub.refl _) (.cons _ (.cons_cons _ (.cons_cons _ (List.nil_sublist _)))) ?_
      refine JL.fieldAddr fo_30_1 rfl .none rfl ?_
      refine JA.cont ?_
      refine JA.many [4] (by kernel_rfl) (by simp) (all_one ⟨_, #[true, true, true, true, true, true, true, false, true, false, false, false], rfl, (by kernel_rfl), ?_⟩)
      refine JL.emptySlice ap_28 .none rfl ?_
      intro v138
      refine JA.after hE (HSub.refl _) (.cons _ (.cons_cons _ (.cons_cons _ (List.nil_sublist _)))) ?_
      exact nd115_0 _ _ _ _ ⟨v138, v135, xs136, rfl, rfl, rfl, rfl, rfl, rfl, rfl, rfl, hch137, (HSub.refl _)⟩
    · skip
      refine JL.emptySlice ap_28 .none rfl ?_
      intro v140
      refine JA.after hE (HSub.refl _) (.cons _ (.cons_cons _ (.cons_cons _ (List.nil_sublist _)))) ?_
      exact nd115_1 _ _ _ _ ⟨v140, v133, rfl, rfl, rfl, rfl, rfl, rfl, rfl, rfl, (HSub.refl _)⟩
  · skip
    refine JL.emptySlice ap_28 .none rfl ?_
    intro v142
    refine JA.after hE (HSub.refl _) (.cons _ (.cons_cons _ (.cons_cons _ (List.nil_sublist _)))) ?_
    refine JA.many [0] (by kernel_rfl) (by simp) (all_one ⟨_, #[true, true, true, false, true, true, true, false, false, false, false, false], rfl, (by kernel_rfl), ?_⟩)
    refine JL.emptySlice ap_27 .none rfl ?_
    intro v144
    refine JA.after hE (HSub.refl _) (.cons _ (.cons_cons _ (.cons_cons _ (List.nil_sublist _)))) ?_
    refine JA.permG (swapAt_perm 0 _) ?_
    exact nd115_1 _ _ _ _ ⟨v142, v144, rfl, rfl, rfl, rfl, rfl, rfl, rfl, rfl, (HSub.refl _)⟩
set_option maxRecDepth 100000 in
set_option maxHeartbeats 40000000 in
theorem x_ref05_Copy (n : Nat) (H : Hp) (d : Canopy) (d_v0 : Value) (hd_0 : SL H 7 R_Section d_v0 d.Frame.Sections) (d_v7 : Value) (hd_7 : SL H 2 R_Span d_v7 d.Ribs) (d_v8 : Value) (hd_8 : SL H 1 RInt d_v8 d.Shares) (y : Canopy) (hF : F_ref05_Copy n d = some y) : XC Try.prog 13 [.agg [d_v0, .int .i64 d.Frame.Low, .int .i64 d.Frame.High, .int .i64 d.Frame.Ease.Num, .int .i64 d.Frame.Ease.Den, .int .i64 d.Frame.Rod, .int .i64 d.Frame.Case, d_v7, d_v8].toArray] H (fun H' v gs' => ∃ (y_v0 : Value) (y_v1 : Value) (y_xs1 : List Value) (y_v2 : Value) (y_xs2 : List Value), v = .agg [y_v0, .int .i64 y.Frame.Low, .int .i64 y.Frame.High, .int .i64 y.Frame.Ease.Num, .int .i64 y.Frame.Ease.Den, .int .i64 y.Frame.Rod, .int .i64 y.Frame.Case, y_v1, y_v2].toArray ∧ gs' = [⟨y_v2, 3, 1, y.Shares.length, y_xs2⟩, ⟨y_v1, 38, 2, y.Ribs.length, y_xs1⟩] ∧ SL H' 7 R_Section y_v0 y.Frame.Sections ∧ CH H' 2 R_Span y_xs1 y.Ribs ∧ CH H' 1 RInt y_xs2 y.Shares) := by
  rw [F_ref05_Copy] at hF
  refine XC.of (N := 20) Try.func13 rfl rfl rfl fun w => ?_
  refine JC.seq ?_
  refine JC.region (by rfl) ?_
  intro hQ
  refine JL.box (cs := [d_v0, .int .i64 d.Frame.Low, .int .i64 d.Frame.High, .int .i64 d.Frame.Ease.Num, .int .i64 d.Frame.Ease.Den, .int .i64 d.Frame.Rod, .int .i64 d.Frame.Case, d_v7, d_v8]) rfl .none rfl ?_
  intro b1
  refine JL.alloc ze_30 .none rfl ?_
  intro b2
  refine JL.done hQ ?_
  refine JQ.go ?_
  refine JC.seq ?_
  refine JC.region (by rfl) ?_
  intro hQ
  refine JL.loadOwn 1 az_30 rfl rfl rfl .none rfl ?_
  refine JL.alloc ze_30 .none rfl ?_
  intro b3
  refine JL.storeOwn 0 (cs := [d_v0, .int .i64 d.Frame.Low, .int .i64 d.Frame.High, .int .i64 d.Frame.Ease.Num, .int .i64 d.Frame.Ease.Den, .int .i64 d.Frame.Rod, .int .i64 d.Frame.Case, d_v7, d_v8]) az_30 rfl rfl rfl (one_cons (SL.one hd_0) (one_cons rfl (one_cons rfl (one_cons rfl (one_cons rfl (one_cons rfl (one_cons rfl (one_cons (SL.one hd_7) (one_cons (SL.one hd_8) one_nil))))))))) rfl rfl .none ?_
  refine JL.done hQ ?_
  refine JQ.go ?_
  refine JC.seq ?_
  refine JC.region (by rfl) ?_
  intro hQ
  refine JL.fieldAddr fo_30_0 rfl .none rfl ?_
  refine JL.loadOwn 2 az_26 rfl rfl rfl .none rfl ?_
  obtain ⟨y4, hy4, hF⟩ := bind_some hF
  refine JL.callH (c_ref01_Copy n H d.Frame d_v0 hd_0 y4 hy4) rfl en_43 .none rfl ?_
  rintro H5 vv6 hs5 ⟨y4a_v0, rfl, hy4a_0⟩
  refine JL.fieldAddr fo_30_0 rfl .none rfl ?_
  refine JL.storeOwn 0 (cs := [y4a_v0, .int .i64 y4.Low, .int .i64 y4.High, .int .i64 y4.Ease.Num, .int .i64 y4.Ease.Den, .int .i64 y4.Rod, .int .i64 y4.Case]) az_26 rfl rfl rfl (one_cons (SL.one hy4a_0) (one_cons rfl (one_cons rfl (one_cons rfl (one_cons rfl (one_cons rfl (one_cons rfl one_nil))))))) rfl rfl .none ?_
  refine JL.done hQ ?_
  refine JQ.go ?_
  refine JC.seq ?_
  obtain ⟨l9, hl9, hF⟩ := bind_some hF
  obtain ⟨l15, hl15, hF⟩ := bind_some hF
  refine JC.mixed 12 12 #[false, false, false, false, false, false, false, false, false, false, false, false] [(b2, .cells [.slice none 0 0, .int .i64 0, .int .i64 0, .int .i64 0, .int .i64 0, .int .i64 0, .int .i64 0, .slice none 0 0, .slice none 0 0].toArray 30), (b1, .cells [d_v0, .int .i64 d.Frame.Low, .int .i64 d.Frame.High, .int .i64 d.Frame.Ease.Num, .int .i64 d.Frame.Ease.Den, .int .i64 d.Frame.Rod, .int .i64 d.Frame.Case, d_v7, d_v8].toArray 30)] (by rfl) mo_ (by kernel_rfl) (by kernel_rfl) ?_
  intro hQ hE
  refine JA.cut 4 #[true, true, true, true, true, true, true, false, true, false, false, false] (fun H116 f bs gs => ∃ (v106 : Value) (v99 : Value) (xs100 : List Value), f 2 = .pointer (some ⟨b2, 0, none⟩) ∧ f 3 = .pointer (some ⟨b3, 0, none⟩) ∧ f 12 = v99 ∧ f 13 = v106 ∧ f 15 = d_v8 ∧ f 17 = .pointer (some ⟨b3, 7, none⟩) ∧ bs = [(b3, .cells [y4a_v0, .int .i64 y4.Low, .int .i64 y4.High, .int .i64 y4.Ease.Num, .int .i64 y4.Ease.Den, .int .i64 y4.Rod, .int .i64 y4.Case, d_v7, d_v8].toArray 30), (b2, .cells [.slice none 0 0, .int .i64 0, .int .i64 0, .int .i64 0, .int .i64 0, .int .i64 0, .int .i64 0, .slice none 0 0, .slice none 0 0].toArray 30), (b1, .cells [d_v0, .int .i64 d.Frame.Low, .int .i64 d.Frame.High, .int .i64 d.Frame.Ease.Num, .int .i64 d.Frame.Ease.Den, .int .i64 d.Frame.Rod, .int .i64 d.Frame.Case, d_v7, d_v8].toArray 30)] ∧ gs = [⟨v106, 3, 1, 0, []⟩, ⟨v99, 38, 2, l9.length, xs100⟩] ∧ CH H116 2 R_Span xs100 l9 ∧ HSub H5 H116) ?_ ?_
  · rintro H116 f bs gs ⟨v106, v99, xs100, hf2, hf3, hf12, hf13, hf15, hf17, rfl, rfl, hm117, hs116⟩
    refine (JA.norm (i := 2) hf2 (JA.norm (i := 3) hf3 (JA.norm (i := 12) hf12 (JA.norm (i := 13) hf13 (JA.norm (i := 15) hf15 (JA.norm (i := 17) hf17 ?_))))))
    refine JA.many [7] (by kernel_rfl) (by simp) (all_one ⟨_, #[true, true, true, true, true, true, true, true, true, false, false, false], rfl, (by kernel_rfl), ?_⟩)
    refine JL.appD (R := RInt) 0 (l := ([] : List Int)) (m := d.Shares) ap_28 rfl ⟨rfl, rfl⟩ rfl CH.nil rfl (SL.mono RInt.mono (HSub.trans hs5 hs116) hd_8) (RInt.one _) hl15 .none rfl ?_
    intro v118 xs119 hch120
    refine JA.after hE hs116 (.cons _ (.cons_cons _ (.cons_cons _ (List.nil_sublist _)))) ?_
    refine JA.many [9] (by kernel_rfl) (by simp) (all_one ⟨_, #[true, true, true, true, true, true, true, true, true, true, false, false], rfl, (by kernel_rfl), ?_⟩)
    refine JL.oneG 1 rfl (fun ho121 => ?_)
    refine JL.storeOwn 0 (cs := [v99]) az_27 rfl ho121.2 rfl (one_cons ho121.1 one_nil) rfl rfl .none ?_
    refine JA.after hE hs116 (.cons _ (.cons_cons _ (.cons_cons _ (List.nil_sublist _)))) ?_
    refine JA.take 10 (listed' := #[true, true, true, true, true, true, true, true, true, true, true, false]) hQ rfl (by kernel_rfl) (by kernel_rfl) (by kernel_rfl) (by kernel_rfl) (by kernel_rfl) hE hs116 (.cons _ (.cons_cons _ (.cons_cons _ (List.nil_sublist _)))) ?_
    refine JL.fieldAddr fo_30_2 rfl .none rfl ?_
    refine JA.cont ?_
    refine JA.many [11] (by kernel_rfl) (by simp) (all_one ⟨_, #[true, true, true, true, true, true, true, true, true, true, true, true], rfl, (by kernel_rfl), ?_⟩)
    refine JL.oneG 0 rfl (fun ho122 => ?_)
    refine JL.storeOwn 0 (cs := [v118]) az_28 rfl ho122.2 rfl (one_cons ho122.1 one_nil) rfl rfl .none ?_
    refine JA.after hE hs116 (.cons _ (.cons_cons _ (.cons_cons _ (List.nil_sublist _)))) ?_
    refine JA.done hQ (by kernel_rfl) ?_
    refine JQ.go ?_
    refine JC.seq ?_
    refine JC.region (by rfl) ?_
    intro hQ
    refine JL.loadOwn 0 az_30 rfl rfl rfl .none rfl ?_
    refine JL.oneG 1 rfl (fun ho123 => ?_)
    refine JL.oneG 0 rfl (fun ho124 => ?_)
    refine JL.storeOwn 1 (cs := [y4a_v0, .int .i64 y4.Low, .int .i64 y4.High, .int .i64 y4.Ease.Num, .int .i64 y4.Ease.Den, .int .i64 y4.Rod, .int .i64 y4.Case, v99, v118]) az_30 rfl rfl rfl (one_cons (SL.one (SL.mono R_Section_mono hs116 hy4a_0)) (one_cons rfl (one_cons rfl (one_cons rfl (one_cons rfl (one_cons rfl (one_cons rfl (one_cons ho123.1 (one_cons ho124.1 one_nil))))))))) rfl rfl .none ?_
    refine JL.done hQ ?_
    refine JQ.go ?_
    refine JC.ret ?_
    obtain rfl := Option.some.inj hF
    exact JQ.outX rfl (.cell 1 az_30 rfl rfl rfl .nil) ⟨y4a_v0, v99, xs100, v118, xs119, rfl, rfl, (SL.mono R_Section_mono hs116 hy4a_0), hm117, hch120⟩
  intro nd115_0
  refine JA.cut 6 #[true, true, true, false, true, true, true, false, false, false, false, false] (fun H125 f bs gs => ∃ (v102 : Value) (v95 : Value), f 2 = .pointer (some ⟨b2, 0, none⟩) ∧ f 3 = .pointer (some ⟨b3, 0, none⟩) ∧ f 9 = v95 ∧ f 11 = d_v7 ∧ f 13 = v102 ∧ f 15 = d_v8 ∧ bs = [(b3, .cells [y4a_v0, .int .i64 y4.Low, .int .i64 y4.High, .int .i64 y4.Ease.Num, .int .i64 y4.Ease.Den, .int .i64 y4.Rod, .int .i64 y4.Case, d_v7, d_v8].toArray 30), (b2, .cells [.slice none 0 0, .int .i64 0, .int .i64 0, .int .i64 0, .int .i64 0, .int .i64 0, .int .i64 0, .slice none 0 0, .slice none 0 0].toArray 30), (b1, .cells [d_v0, .int .i64 d.Frame.Low, .int .i64 d.Frame.High, .int .i64 d.Frame.Ease.Num, .int .i64 d.Frame.Ease.Den, .int .i64 d.Frame.Rod, .int .i64 d.Frame.Case, d_v7, d_v8].toArray 30)] ∧ gs = [⟨v102, 3, 1, 0, []⟩, ⟨v95, 38, 2, 0, []⟩] ∧ HSub H5 H125) ?_ ?_
  · rintro H125 f bs gs ⟨v102, v95, hf2, hf3, hf9, hf11, hf13, hf15, rfl, rfl, hs125⟩
    refine (JA.norm (i := 2) hf2 (JA.norm (i := 3) hf3 (JA.norm (i := 9) hf9 (JA.norm (i := 11) hf11 (JA.norm (i := 13) hf13 (JA.norm (i := 15) hf15 ?_))))))
    refine JA.many [3] (by kernel_rfl) (by simp) (all_one ⟨_, #[true, true, true, true, true, true, true, false, false, false, false, false], rfl, (by kernel_rfl), ?_⟩)
    refine JL.appD (R := R_Span) 1 (l := ([] : List Span)) (m := d.Ribs) ap_27 rfl ⟨rfl, rfl⟩ rfl CH.nil rfl (SL.mono R_Span_mono (HSub.trans hs5 hs125) hd_7) (R_Span_one _) hl9 .none rfl ?_
    intro v126 xs127 hch128
    refine JA.after hE hs125 (.cons _ (.cons_cons _ (.cons_cons _ (List.nil_sublist _)))) ?_
    refine JA.take 8 (listed' := #[true, true, true, true, true, true, true, false, true, false, false, false]) hQ rfl (by kernel_rfl) (by kernel_rfl) (by kernel_rfl) (by kernel_rfl) (by kernel_rfl) hE hs125 (.cons _ (.cons_cons _ (.cons_cons _ (List.nil_sublist _)))) ?_
    refine JL.fieldAddr fo_30_1 rfl .none rfl ?_
    refine JA.cont ?_
    exact nd115_0 _ _ _ _ ⟨v102, v126, xs127, rfl, rfl, rfl, rfl, rfl, rfl, rfl, rfl, hch128, hs125⟩
  intro nd115_1
  refine JA.take 1 (listed' := #[false, true, false, false, false, false, false, false, false, false, false, false]) hQ rfl (by kernel_rfl) (by kernel_rfl) (by kernel_rfl) (by kernel_rfl) (by kernel_rfl) hE (HSub.refl _) (.cons _ (.cons_cons _ (.cons_cons _ (List.nil_sublist _)))) ?_
  refine JL.fieldAddr fo_30_1 rfl .none rfl ?_
  refine JA.cont ?_
  refine JA.take 2 (listed' := #[false, true, true, false, false, false, false, false, false, false, false, false]) hQ rfl (by kernel_rfl) (by kernel_rfl) (by kernel_rfl) (by kernel_rfl) (by kernel_rfl) hE (HSub.refl _) (.cons _ (.cons_cons _ (.cons_cons _ (List.nil_sublist _)))) ?_
  refine JL.loadOwn 1 az_27 rfl rfl rfl .none rfl ?_
  refine JA.cont ?_
  refine JA.take 5 (listed' := #[false, true, true, false, false, true, false, false, false, false, false, false]) hQ rfl (by kernel_rfl) (by kernel_rfl) (by kernel_rfl) (by kernel_rfl) (by kernel_rfl) hE (HSub.refl _) (.cons _ (.cons_cons _ (.cons_cons _ (List.nil_sublist _)))) ?_
  refine JL.fieldAddr fo_30_2 rfl .none rfl ?_
  refine JA.cont ?_
  refine JA.take 6 (listed' := #[false, true, true, false, false, true, true, false, false, false, false, false]) hQ rfl (by kernel_rfl) (by kernel_rfl) (by kernel_rfl) (by kernel_rfl) (by kernel_rfl) hE (HSub.refl _) (.cons _ (.cons_cons _ (.cons_cons _ (List.nil_sublist _)))) ?_
  refine JL.loadOwn 1 az_28 rfl rfl rfl .none rfl ?_
  refine JA.cont ?_
  refine JA.many [0, 4] (by kernel_rfl) (by simp) (all_cons ⟨_, #[true, true, true, false, false, true, true, false, false, false, false, false], rfl, (by kernel_rfl), ?_⟩ (all_one ⟨_, #[false, true, true, false, true, true, true, false, false, false, false, false], rfl, (by kernel_rfl), ?_⟩))
  · skip
    refine JL.emptySlice ap_27 .none rfl ?_
    intro v129
    refine JA.after hE (HSub.refl _) (.cons _ (.cons_cons _ (.cons_cons _ (List.nil_sublist _)))) ?_
    refine JA.many [3, 4] (by kernel_rfl) (by simp) (all_cons ⟨_, #[true, true, true, true, false, true, true, false, false, false, false, false], rfl, (by kernel_rfl), ?_⟩ (all_one ⟨_, #[true, true, true, false, true, true, true, false, false, false, false, false], rfl, (by kernel_rfl), ?_⟩))
    · skip
      refine JL.appD (R := R_Span) 0 (l := ([] : List Span)) (m := d.Ribs) ap_27 rfl ⟨rfl, rfl⟩ rfl CH.nil rfl (SL.mono R_Span_mono hs5 hd_7) (R_Span_one _) hl9 .none rfl ?_
      intro v131 xs132 hch133
      refine JA.after hE (HSub.refl _) (.cons _ (.cons_cons _ (.cons_cons _ (List.nil_sublist _)))) ?_
      refine JA.take 8 (listed' := #[true, true, true, true, false, true, true, false, true, false, false, false]) hQ rfl (by kernel_rfl) (by kernel_rfl) (by kernel_rfl) (by kernel_rfl) (by kernel_rfl) hE (HSub.refl _) (.cons _ (.cons_cons _ (.cons_cons _ (List.nil_sublist _)))) ?_
      refine JL.fieldAddr fo_30_1 rfl .none rfl ?_
      refine JA.cont ?_
      refine JA.many [4] (by kernel_rfl) (by simp) (all_one ⟨_, #[true, true, true, true, true, true, true, false, true, false, false, false], rfl, (by kernel_rfl), ?_⟩)
      refine JL.emptySlice ap_28 .none rfl ?_
      intro v134
      refine JA.after hE (HSub.refl _) (.cons _ (.cons_cons _ (.cons_cons _ (List.nil_sublist _)))) ?_
      exact nd115_0 _ _ _ _ ⟨v134, v131, xs132, rfl, rfl, rfl, rfl, rfl, rfl, rfl, rfl, hch133, (HSub.refl _)⟩
    · skip
      refine JL.emptySlice ap_28 .none rfl ?_
      intro v136
      refine JA.after hE (HSub.refl _) (.cons _ (.cons_cons _ (.cons_cons _ (List.nil_sublist _)))) ?_
      exact nd115_1 _ _ _ _ ⟨v136, v129, rfl, rfl, rfl, rfl, rfl, rfl, rfl, rfl, (HSub.refl _)⟩
  · skip
    refine JL.emptySlice ap_28 .none rfl ?_
    intro v138
    refine JA.after hE (HSub.refl _) (.cons _ (.cons_cons _ (.cons_cons _ (List.nil_sublist _)))) ?_
    refine JA.many [0] (by kernel_rfl) (by simp) (all_one ⟨_, #[true, true, true, false, true, true, true, false, false, false, false, false], rfl, (by kernel_rfl), ?_⟩)
    refine JL.emptySlice ap_27 .none rfl ?_
    intro v140
    refine JA.after hE (HSub.refl _) (.cons _ (.cons_cons _ (.cons_cons _ (List.nil_sublist _)))) ?_
    refine JA.permG (swapAt_perm 0 _) ?_
    exact nd115_1 _ _ _ _ ⟨v138, v140, rfl, rfl, rfl, rfl, rfl, rfl, rfl, rfl, (HSub.refl _)⟩

-- 15 ferrule/ferrulelaw05.in
def F_law05_in_s1 (n : Nat) (l : List Int) (n_ : Int) : Int → Option (Int ⊕ (Bool ⊕ Unit))
  | i_50 => if decide (i_50 < (l.length : Int)) = true then ((geti l i_50).bind fun y55 => if (y55 == n_) = true then (some (Sum.inr (Sum.inl true))) else (some (Sum.inl (w64 (i_50 + 1))))) else (some (Sum.inr (Sum.inr ())))
def F_law05_in (n : Nat) (l : List Int) (n_ : Int) : Option Bool :=
  (loopO n (F_law05_in_s1 n l n_) 0).bind fun r31 => match r31 with | .inl o => some o | .inr _ => some false
set_option maxRecDepth 100000 in
set_option maxHeartbeats 40000000 in
theorem c_law05_in (n : Nat) (H : Hp) (l : List Int) (l_v0 : Value) (hl_0 : SL H 1 RInt l_v0 l) (n_ : Int) (y : Bool) (hF : F_law05_in n l n_ = some y) : SC Try.prog 15 [l_v0, .int .i64 n_] (.bool y) H := by
  rw [F_law05_in] at hF
  refine SC.of (N := 18) Try.func15 rfl rfl rfl fun w => ?_
  refine JC.seq ?_
  refine JC.region (by rfl) ?_
  intro hQ
  refine JL.assign .none rfl ?_
  refine JL.done hQ ?_
  refine JQ.go ?_
  refine JC.seq ?_
  refine JC.seq ?_
  refine JC.region (by rfl) ?_
  intro hQ
  refine JL.assign .none rfl ?_
  refine JL.done hQ ?_
  refine JQ.go ?_
  obtain ⟨r31, hlr31, hKr31⟩ := bind_some hF
  refine JC.join (fun (_ : Unit) H30 f bs gs => bs = [] ∧ gs = [] ∧ HSub H H30 ∧ Sum.inr () = r31) ?_ ?_
  · skip
    refine JC.block ?_
    refine JC.loop hlr31 (fun (i_50 : Int) H51 f bs gs => f 0 = l_v0 ∧ f 1 = .int .i64 n_ ∧ f 5 = .int .i64 i_50 ∧ bs = [] ∧ gs = [] ∧ HSub H H51) ⟨rfl, rfl, rfl, rfl, rfl, (HSub.refl _)⟩ ?_
    rintro i_50 x53 H51 f bs gs ⟨hf0, hf1, hf5, rfl, rfl, hs51⟩ hF hr52
    rw [F_law05_in_s1] at hF
    refine (JC.norm (i := 0) hf0 (JC.norm (i := 1) hf1 (JC.norm (i := 5) hf5 ?_)))
    refine JC.seq ?_
    refine JC.seq ?_
    refine JC.region (by rfl) ?_
    intro hQ
    refine JL.move .none rfl ?_
    refine JL.move .none rfl ?_
    refine JL.lenSL (R := RInt) ul_28 (SL.mono RInt.mono hs51 hl_0) .none rfl ?_
    refine JL.bin rfl rfl rfl .none rfl ?_
    refine JL.done hQ ?_
    refine JQ.go ?_
    rcases ite_some hF with ⟨hc54, hF⟩ | ⟨hc54, hF⟩
    · refine JC.cond_t (b := decide (i_50 < (l.length : Int))) rfl hc54 ?_
      refine JC.skip ?_
      refine JQ.go ?_
      refine JC.seq ?_
      refine JC.block ?_
      refine JC.seq ?_
      refine JC.region (by rfl) ?_
      intro hQ
      refine JL.move .none rfl ?_
      refine JL.move .none rfl ?_
      obtain ⟨y55, hy55, hF⟩ := bind_some hF
      refine JL.indexSL (R := RInt) sl_28 (SL.mono RInt.mono hs51 hl_0) rfl hy55 .none rfl ?_
      rintro b56 o57 cs58 hc59 - rfl
      refine JL.loadH 0 az_3 rfl hc59 rfl .none rfl ?_
      refine JL.move .none rfl ?_
      refine JL.bin rfl rfl rfl .none rfl ?_
      refine JL.done hQ ?_
      refine JQ.go ?_
      rcases ite_some hF with ⟨hc60, hF⟩ | ⟨hc60, hF⟩
      · refine JC.cond_t (b := (y55 == n_)) rfl hc60 ?_
        refine JC.seq ?_
        refine JC.region (by rfl) ?_
        intro hQ
        refine JL.assign .none rfl ?_
        refine JL.done hQ ?_
        refine JQ.go ?_
        refine JC.fresh (fun f => f 4 = .bool true) rfl ?_
        rintro f hf4
        refine (JC.norm (i := 4) hf4 ?_)
        refine JC.ret ?_
        refine JQ.ret_block ?_
        refine JQ.ret_then ?_
        refine JQ.ret_then ?_
        refine JQ.ret_block ?_
        refine JQ.ret_join ?_
        refine JQ.ret_then ?_
        obtain rfl := Option.some.inj hF
        have ehr52 := hr52 _ rfl
        subst ehr52
        have hF := hKr31
        try dsimp only at hF
        obtain rfl := Option.some.inj hF
        exact JQ.outS rfl (.tmp .nil) rfl
      · refine JC.cond_f (b := (y55 == n_)) rfl hc60 ?_
        refine JC.skip ?_
        refine JQ.normal_block ?_
        refine JQ.go ?_
        refine JC.region (by rfl) ?_
        intro hQ
        refine JL.move .none rfl ?_
        refine JL.bin rfl rfl rfl .none rfl ?_
        refine JL.assign .none rfl ?_
        refine JL.done hQ ?_
        obtain rfl := Option.some.inj hF
        exact JQ.next rfl ⟨rfl, rfl, rfl, rfl, rfl, hs51⟩
    · refine JC.cond_f (b := decide (i_50 < (l.length : Int))) rfl hc54 ?_
      refine JC.exit ?_
      refine JQ.exit_then ?_
      refine JQ.exit_then ?_
      refine JQ.exit_block ?_
      obtain rfl := Option.some.inj hF
      have ehr52 := hr52 _ rfl
      subst ehr52
      exact JQ.join () ⟨rfl, rfl, hs51, rfl⟩
  · rintro _ H30 f bs gs ⟨rfl, rfl, hs30, rfl⟩
    have hF := hKr31
    try dsimp only at hF
    refine JQ.go ?_
    refine JC.seq ?_
    refine JC.region (by rfl) ?_
    intro hQ
    refine JL.assign .none rfl ?_
    refine JL.done hQ ?_
    refine JQ.go ?_
    refine JC.ret ?_
    obtain rfl := Option.some.inj hF
    exact JQ.outS rfl (.tmp .nil) rfl

end Go.Proofs.Ytcpnnfdhafbemaa
