/-
  Printed by a program: functions of the translation as plain functions, and their contracts.
-/
import Derived.Test.YtmgnhaibbeinbaaGenK4
namespace Go.Proofs.Ytmgnhaibbeinbaa
open Go Go.RowKit Go.Dec
set_option linter.unusedVariables false
-- 19 ferrule/ferruleref01.Cosine
def F_ref01_Cosine_s1 (n : Nat) (f_ : Frame) (section_ : Int) (r : Int) (y19 : (List ref01_Pair)) : Int × Int × Int × Int × Int → Option ((Int × Int × Int × Int × Int) ⊕ ((Frac × Frac × Int) ⊕ (Int × Int × Int × Int)))
  | (i_374, z_375, z_376, z_377, z_378) => if decide (i_374 < (y19.length : Int)) = true then ((F_ref01_distance n f_ section_ r).bind fun y390 => (geti y19 i_374).bind fun y391 => (F_ref01_CosineOf n y390 y391).bind fun y396 => if (!y396.2) = true then (some (Sum.inr (Sum.inl ((Frac.mk 0 0), (Frac.mk 0 0), 3)))) else ((if (i_374 == 0) = true then (some true) else ((F_ref01_Less n y396.1 (Frac.mk z_377 z_378)).bind fun y415 => some y415) : Option Bool).bind fun p412 => (if p412 = true then (some (y396.1.Num, y396.1.Den)) else (some (z_377, z_378))).bind fun r420 => match r420 with | (z_417, z_418) => (if (i_374 == 0) = true then (some true) else ((F_ref01_Less n (Frac.mk z_375 z_376) y396.1).bind fun y426 => some y426) : Option Bool).bind fun p423 => (if p423 = true then (some (y396.1.Num, y396.1.Den)) else (some (z_375, z_376))).bind fun r431 => match r431 with | (z_428, z_429) => some (Sum.inl ((w64 (i_374 + 1)), z_428, z_429, z_417, z_418)))) else (some (Sum.inr (Sum.inr (z_375, z_376, z_377, z_378))))
def F_ref01_Cosine (n : Nat) (f_ : Frame) (section_ : Int) (r : Int) : Option (Frac × Frac × Int) :=
  (F_ref01_IsSection n f_ section_).bind fun y11 => (if y11 = true then ((F_ref01_IsPosition n f_ r).bind fun y16 => some y16) else (some false) : Option Bool).bind fun p13 => (F_ref01_check n f_ p13).bind fun y17 => if (y17 != 0) = true then (some ((Frac.mk 0 0), (Frac.mk 0 0), y17)) else ((F_ref01_Pairs n f_ section_).bind fun y19 => (loopO n (F_ref01_Cosine_s1 n f_ section_ r y19) (0, 0, 0, 0, 0)).bind fun r235 => match r235 with | .inl o => some o | .inr (z_230, z_231, z_232, z_233) => some ((Frac.mk z_232 z_233), (Frac.mk z_230 z_231), 0))
set_option maxRecDepth 100000 in
set_option maxHeartbeats 40000000 in
theorem c_ref01_Cosine (n : Nat) (H : Hp) (f_ : Frame) (f__v0 : Value) (hf__0 : SL H 7 R_Section f__v0 f_.Sections) (section_ : Int) (r : Int) (y : Frac × Frac × Int) (hF : F_ref01_Cosine n f_ section_ r = some y) : SC Try.prog 19 [.agg [f__v0, .int .i64 f_.Low, .int .i64 f_.High, .int .i64 f_.Ease.Num, .int .i64 f_.Ease.Den, .int .i64 f_.Rod, .int .i64 f_.Case].toArray, .int .i64 section_, .int .i64 r] (.tuple [.agg [.int .i64 y.1.Num, .int .i64 y.1.Den].toArray, .agg [.int .i64 y.2.1.Num, .int .i64 y.2.1.Den].toArray, .int .i64 y.2.2].toArray) H := by
  rw [F_ref01_Cosine] at hF
  refine SC.of (N := 72) Try.func19 rfl rfl rfl fun w => ?_
  refine JC.seq ?_
  refine JC.region (by rfl) ?_
  intro hQ
  refine JL.box (cs := [f__v0, .int .i64 f_.Low, .int .i64 f_.High, .int .i64 f_.Ease.Num, .int .i64 f_.Ease.Den, .int .i64 f_.Rod, .int .i64 f_.Case]) rfl .none rfl ?_
  intro b1
  refine JL.alloc ze_24 .none rfl ?_
  intro b2
  refine JL.alloc ze_24 .none rfl ?_
  intro b3
  refine JL.assign .none rfl ?_
  refine JL.done hQ ?_
  refine JQ.go ?_
  refine JC.seq ?_
  refine JC.seq ?_
  refine JC.draw (by rfl) mo_ (by kernel_rfl) ?_
  intro hQ
  refine JL.loadOwn 2 az_26 rfl rfl rfl .none rfl ?_
  refine JL.loadOwn 2 az_26 rfl rfl rfl .none rfl ?_
  refine JL.move .none rfl ?_
  obtain ⟨y11, hy11, hF⟩ := bind_some hF
  refine JL.callS (c_ref01_IsSection n H f_ f__v0 hf__0 section_ y11 hy11) rfl en_40 .none rfl ?_
  refine JL.move .none rfl ?_
  obtain ⟨p13, hp13, hF⟩ := bind_some hF
  refine JL.cut 4 (fun f => f 1 = .int .i64 section_ ∧ f 2 = .int .i64 r ∧ f 3 = .pointer (some ⟨b1, 0, none⟩) ∧ f 6 = .pointer (some ⟨b2, 0, none⟩) ∧ f 7 = .pointer (some ⟨b3, 0, none⟩) ∧ f 14 = .agg [f__v0, .int .i64 f_.Low, .int .i64 f_.High, .int .i64 f_.Ease.Num, .int .i64 f_.Ease.Den, .int .i64 f_.Rod, .int .i64 f_.Case].toArray ∧ f 22 = .bool p13) ?_ ?_
  · intro hJ14
    rcases ite_some hp13 with ⟨hc15, hF⟩ | ⟨hc15, hF⟩
    · skip
      refine JL.loadOwn 2 az_26 rfl rfl rfl (.some rfl rfl rfl hc15) rfl ?_
      refine JL.move (.some rfl rfl rfl hc15) rfl ?_
      obtain ⟨y16, hy16, hF⟩ := bind_some hF
      refine JL.callS (c_ref01_IsPosition n H f_ f__v0 hf__0 r y16 hy16) rfl en_59 (.some rfl rfl rfl hc15) rfl ?_
      refine JL.pick_t (b := y11) rfl hc15 .none rfl ?_
      obtain rfl := Option.some.inj hF
      exact hJ14 _ ⟨rfl, rfl, rfl, rfl, rfl, rfl, rfl⟩
    · skip
      refine JL.skip (.bool rfl rfl rfl hc15) rfl ?_
      refine JL.skip (.bool rfl rfl rfl hc15) rfl ?_
      refine JL.skip (.bool rfl rfl rfl hc15) rfl ?_
      refine JL.pick_f (b := y11) rfl hc15 .none rfl ?_
      obtain rfl := Option.some.inj hF
      exact hJ14 _ ⟨rfl, rfl, rfl, rfl, rfl, rfl, rfl⟩
  · rintro f ⟨hf1, hf2, hf3, hf6, hf7, hf14, hf22⟩
    refine (JL.norm (i := 1) hf1 (JL.norm (i := 2) hf2 (JL.norm (i := 3) hf3 (JL.norm (i := 6) hf6 (JL.norm (i := 7) hf7 (JL.norm (i := 14) hf14 (JL.norm (i := 22) hf22 ?_)))))))
    obtain ⟨y17, hy17, hF⟩ := bind_some hF
    refine JL.callS (c_ref01_check n H f_ f__v0 hf__0 p13 y17 hy17) rfl en_58 .none rfl ?_
    refine JL.assign .none rfl ?_
    refine JL.doneQ hQ ?_
    refine JQ.go ?_
    refine JC.seq ?_
    refine JC.region (by rfl) ?_
    intro hQ
    refine JL.move .none rfl ?_
    refine JL.bin rfl rfl rfl .none rfl ?_
    refine JL.done hQ ?_
    refine JQ.go ?_
    rcases ite_some hF with ⟨hc18, hF⟩ | ⟨hc18, hF⟩
    · refine JC.cond_t (b := (y17 != 0)) rfl hc18 ?_
      refine JC.seq ?_
      refine JC.region (by rfl) ?_
      intro hQ
      refine JL.build (l := [.int .i64 0, .int .i64 0]) (by kernel_rfl) .none rfl ?_
      refine JL.build (l := [.int .i64 0, .int .i64 0]) (by kernel_rfl) .none rfl ?_
      refine JL.move .none rfl ?_
      refine JL.storeOwn 1 (cs := [.int .i64 0, .int .i64 0]) az_24 rfl rfl rfl (one_cons rfl (one_cons rfl one_nil)) rfl rfl .none ?_
      refine JL.storeOwn 0 (cs := [.int .i64 0, .int .i64 0]) az_24 rfl rfl rfl (one_cons rfl (one_cons rfl one_nil)) rfl rfl .none ?_
      refine JL.assign .none rfl ?_
      refine JL.done hQ ?_
      refine JQ.go ?_
      refine JC.fresh (fun f => f 6 = .pointer (some ⟨b2, 0, none⟩) ∧ f 7 = .pointer (some ⟨b3, 0, none⟩) ∧ f 8 = .int .i64 y17) ⟨rfl, rfl, rfl⟩ ?_
      rintro f ⟨hf6, hf7, hf8⟩
      refine (JC.norm (i := 6) hf6 (JC.norm (i := 7) hf7 (JC.norm (i := 8) hf8 ?_)))
      refine JC.ret ?_
      refine JQ.ret_then ?_
      obtain rfl := Option.some.inj hF
      exact JQ.outS rfl (.cell 1 az_24 rfl rfl rfl (.cell 0 az_24 rfl rfl rfl (.tmp .nil))) rfl
    · refine JC.cond_f (b := (y17 != 0)) rfl hc18 ?_
      refine JC.skip ?_
      refine JQ.go ?_
      refine JC.seq ?_
      refine JC.region (by rfl) ?_
      intro hQ
      refine JL.loadOwn 2 az_26 rfl rfl rfl .none rfl ?_
      refine JL.move .none rfl ?_
      obtain ⟨y19, hy19, hF⟩ := bind_some hF
      refine JL.callH (c_ref01_Pairs n H f_ f__v0 hf__0 section_ y19 hy19) rfl en_25 .none rfl ?_
      intro H20 y19a_v0 hs20 hy19a_0
      refine JL.assign .none rfl ?_
      refine JL.done hQ ?_
      refine JQ.go ?_
      refine JC.fresh (fun f => f 1 = .int .i64 section_ ∧ f 2 = .int .i64 r ∧ f 3 = .pointer (some ⟨b1, 0, none⟩) ∧ f 6 = .pointer (some ⟨b2, 0, none⟩) ∧ f 7 = .pointer (some ⟨b3, 0, none⟩) ∧ f 10 = y19a_v0) ⟨rfl, rfl, rfl, rfl, rfl, rfl⟩ ?_
      rintro f ⟨hf1, hf2, hf3, hf6, hf7, hf10⟩
      refine (JC.norm (i := 1) hf1 (JC.norm (i := 2) hf2 (JC.norm (i := 3) hf3 (JC.norm (i := 6) hf6 (JC.norm (i := 7) hf7 (JC.norm (i := 10) hf10 ?_))))))
      refine JC.seq ?_
      refine JC.seq ?_
      refine JC.region (by rfl) ?_
      intro hQ
      refine JL.assign .none rfl ?_
      refine JL.done hQ ?_
      refine JQ.go ?_
      obtain ⟨r235, hlr235, hKr235⟩ := bind_some hF
      refine JC.join (fun (x : Int × Int × Int × Int) H234 f bs gs => match x with | (z_230, z_231, z_232, z_233) => f 6 = .pointer (some ⟨b2, 0, none⟩) ∧ f 7 = .pointer (some ⟨b3, 0, none⟩) ∧ bs = [(b3, .cells [.int .i64 z_230, .int .i64 z_231].toArray 24), (b2, .cells [.int .i64 z_232, .int .i64 z_233].toArray 24)] ∧ gs = [] ∧ HSub H20 H234 ∧ Sum.inr (z_230, z_231, z_232, z_233) = r235) ?_ ?_
      · skip
        refine JC.block ?_
        refine JC.loop hlr235 (fun (x : Int × Int × Int × Int × Int) H379 f bs gs => match x with | (i_374, z_375, z_376, z_377, z_378) => f 1 = .int .i64 section_ ∧ f 2 = .int .i64 r ∧ f 3 = .pointer (some ⟨b1, 0, none⟩) ∧ f 6 = .pointer (some ⟨b2, 0, none⟩) ∧ f 7 = .pointer (some ⟨b3, 0, none⟩) ∧ f 10 = y19a_v0 ∧ f 11 = .int .i64 i_374 ∧ bs = [(b3, .cells [.int .i64 z_375, .int .i64 z_376].toArray 24), (b2, .cells [.int .i64 z_377, .int .i64 z_378].toArray 24), (b1, .cells [f__v0, .int .i64 f_.Low, .int .i64 f_.High, .int .i64 f_.Ease.Num, .int .i64 f_.Ease.Den, .int .i64 f_.Rod, .int .i64 f_.Case].toArray 26)] ∧ gs = [] ∧ HSub H20 H379) ⟨rfl, rfl, rfl, rfl, rfl, rfl, rfl, rfl, rfl, (HSub.refl _)⟩ ?_
        rintro ⟨i_374, z_375, z_376, z_377, z_378⟩ x381 H379 f bs gs ⟨hf1, hf2, hf3, hf6, hf7, hf10, hf11, rfl, rfl, hs379⟩ hF hr380
        rw [F_ref01_Cosine_s1] at hF
        refine (JC.norm (i := 1) hf1 (JC.norm (i := 2) hf2 (JC.norm (i := 3) hf3 (JC.norm (i := 6) hf6 (JC.norm (i := 7) hf7 (JC.norm (i := 10) hf10 (JC.norm (i := 11) hf11 ?_)))))))
        refine JC.seq ?_
        refine JC.seq ?_
        refine JC.region (by rfl) ?_
        intro hQ
        refine JL.move .none rfl ?_
        refine JL.move .none rfl ?_
        refine JL.lenSL (R := R_ref01_Pair) ul_40 (SL.mono R_ref01_Pair_mono hs379 hy19a_0) .none rfl ?_
        refine JL.bin rfl rfl rfl .none rfl ?_
        refine JL.done hQ ?_
        refine JQ.go ?_
        rcases ite_some hF with ⟨hc382, hF⟩ | ⟨hc382, hF⟩
        · refine JC.cond_t (b := decide (i_374 < (y19.length : Int))) rfl hc382 ?_
          refine JC.skip ?_
          refine JQ.go ?_
          refine JC.seq ?_
          refine JC.block ?_
          refine JC.seq ?_
          obtain ⟨y390, hy390, hF⟩ := bind_some hF
          obtain ⟨y391, hy391, hF⟩ := bind_some hF
          obtain ⟨y396, hy396, hF⟩ := bind_some hF
          refine JC.mixed 15 15 #[false, false, false, false, false, false, false, false, false, false, false, false, false, false, false] [(b3, .cells [.int .i64 z_375, .int .i64 z_376].toArray 24), (b2, .cells [.int .i64 z_377, .int .i64 z_378].toArray 24), (b1, .cells [f__v0, .int .i64 f_.Low, .int .i64 f_.High, .int .i64 f_.Ease.Num, .int .i64 f_.Ease.Den, .int .i64 f_.Rod, .int .i64 f_.Case].toArray 26)] (by rfl) mo_ (by kernel_rfl) (by kernel_rfl) ?_
          intro hQ hE
          refine JA.cut 2 #[true, true, true, true, true, true, true, true, true, true, true, true, true, false, false] (fun H409 f bs gs => ∃ (b408 : Nat), f 1 = .int .i64 section_ ∧ f 2 = .int .i64 r ∧ f 3 = .pointer (some ⟨b1, 0, none⟩) ∧ f 6 = .pointer (some ⟨b2, 0, none⟩) ∧ f 7 = .pointer (some ⟨b3, 0, none⟩) ∧ f 10 = y19a_v0 ∧ f 11 = .int .i64 i_374 ∧ f 12 = .pointer (some ⟨b408, 0, none⟩) ∧ f 48 = .agg [.int .i64 y396.1.Num, .int .i64 y396.1.Den].toArray ∧ f 49 = .bool y396.2 ∧ bs = [(b408, .cells [.int .i64 0, .int .i64 0].toArray 24), (b3, .cells [.int .i64 z_375, .int .i64 z_376].toArray 24), (b2, .cells [.int .i64 z_377, .int .i64 z_378].toArray 24), (b1, .cells [f__v0, .int .i64 f_.Low, .int .i64 f_.High, .int .i64 f_.Ease.Num, .int .i64 f_.Ease.Den, .int .i64 f_.Rod, .int .i64 f_.Case].toArray 26)] ∧ gs = [] ∧ HSub H379 H409) ?_ ?_
          · rintro H409 f bs gs ⟨b408, hf1, hf2, hf3, hf6, hf7, hf10, hf11, hf12, hf48, hf49, rfl, rfl, hs409⟩
            refine (JA.norm (i := 1) hf1 (JA.norm (i := 2) hf2 (JA.norm (i := 3) hf3 (JA.norm (i := 6) hf6 (JA.norm (i := 7) hf7 (JA.norm (i := 10) hf10 (JA.norm (i := 11) hf11 (JA.norm (i := 12) hf12 (JA.norm (i := 48) hf48 (JA.norm (i := 49) hf49 ?_))))))))))
            refine JA.many [13] (by kernel_rfl) (by simp) (all_one ⟨_, #[true, true, true, true, true, true, true, true, true, true, true, true, true, true, false], rfl, (by kernel_rfl), ?_⟩)
            refine JL.storeOwn 0 (cs := [.int .i64 y396.1.Num, .int .i64 y396.1.Den]) az_24 rfl rfl rfl (one_cons rfl (one_cons rfl one_nil)) rfl rfl .none ?_
            refine JA.after hE hs409 (.cons _ (.cons_cons _ (.cons_cons _ (.cons_cons _ (List.nil_sublist _))))) ?_
            refine JA.take 14 (listed' := #[true, true, true, true, true, true, true, true, true, true, true, true, true, true, true]) hQ rfl (by kernel_rfl) (by kernel_rfl) (by kernel_rfl) (by kernel_rfl) (by kernel_rfl) hE hs409 (.cons _ (.cons_cons _ (.cons_cons _ (.cons_cons _ (List.nil_sublist _))))) ?_
            refine JL.assign .none rfl ?_
            refine JA.cont ?_
            refine JA.done hQ (by kernel_rfl) ?_
            refine JQ.go ?_
            refine JC.seq ?_
            refine JC.seq ?_
            refine JC.region (by rfl) ?_
            intro hQ
            refine JL.move .none rfl ?_
            refine JL.not rfl .none rfl ?_
            refine JL.done hQ ?_
            refine JQ.go ?_
            rcases ite_some hF with ⟨hc410, hF⟩ | ⟨hc410, hF⟩
            · refine JC.cond_t (b := (!y396.2)) rfl hc410 ?_
              refine JC.seq ?_
              refine JC.region (by rfl) ?_
              intro hQ
              refine JL.build (l := [.int .i64 0, .int .i64 0]) (by kernel_rfl) .none rfl ?_
              refine JL.build (l := [.int .i64 0, .int .i64 0]) (by kernel_rfl) .none rfl ?_
              refine JL.storeOwn 2 (cs := [.int .i64 0, .int .i64 0]) az_24 rfl rfl rfl (one_cons rfl (one_cons rfl one_nil)) rfl rfl .none ?_
              refine JL.storeOwn 1 (cs := [.int .i64 0, .int .i64 0]) az_24 rfl rfl rfl (one_cons rfl (one_cons rfl one_nil)) rfl rfl .none ?_
              refine JL.assign .none rfl ?_
              refine JL.done hQ ?_
              refine JQ.go ?_
              refine JC.fresh (fun f => f 6 = .pointer (some ⟨b2, 0, none⟩) ∧ f 7 = .pointer (some ⟨b3, 0, none⟩) ∧ f 8 = .int .i64 3) ⟨rfl, rfl, rfl⟩ ?_
              rintro f ⟨hf6, hf7, hf8⟩
              refine (JC.norm (i := 6) hf6 (JC.norm (i := 7) hf7 (JC.norm (i := 8) hf8 ?_)))
              refine JC.ret ?_
              refine JQ.ret_then ?_
              refine JQ.ret_block ?_
              refine JQ.ret_then ?_
              refine JQ.ret_then ?_
              refine JQ.ret_block ?_
              refine JQ.ret_join ?_
              refine JQ.ret_then ?_
              obtain rfl := Option.some.inj hF
              have ehr380 := hr380 _ rfl
              subst ehr380
              have hF := hKr235
              try dsimp only at hF
              obtain rfl := Option.some.inj hF
              exact JQ.outS rfl (.cell 2 az_24 rfl rfl rfl (.cell 1 az_24 rfl rfl rfl (.tmp .nil))) rfl
            · refine JC.cond_f (b := (!y396.2)) rfl hc410 ?_
              refine JC.skip ?_
              refine JQ.go ?_
              refine JC.seq ?_
              refine JC.seq ?_
              refine JC.region (by rfl) ?_
              intro hQ
              refine JL.move .none rfl ?_
              refine JL.bin rfl rfl rfl .none rfl ?_
              refine JL.move .none rfl ?_
              obtain ⟨p412, hp412, hF⟩ := bind_some hF
              refine JL.cut 4 (fun f => f 1 = .int .i64 section_ ∧ f 2 = .int .i64 r ∧ f 3 = .pointer (some ⟨b1, 0, none⟩) ∧ f 6 = .pointer (some ⟨b2, 0, none⟩) ∧ f 7 = .pointer (some ⟨b3, 0, none⟩) ∧ f 10 = y19a_v0 ∧ f 11 = .int .i64 i_374 ∧ f 12 = .pointer (some ⟨b408, 0, none⟩) ∧ f 60 = .bool p412) ?_ ?_
              · intro hJ413
                rcases ite_some hp412 with ⟨hc414, hF⟩ | ⟨hc414, hF⟩
                · skip
                  refine JL.skip (.bool rfl rfl rfl hc414) rfl ?_
                  refine JL.skip (.bool rfl rfl rfl hc414) rfl ?_
                  refine JL.skip (.bool rfl rfl rfl hc414) rfl ?_
                  refine JL.pick_t (b := (i_374 == 0)) rfl hc414 .none rfl ?_
                  obtain rfl := Option.some.inj hF
                  exact hJ413 _ ⟨rfl, rfl, rfl, rfl, rfl, rfl, rfl, rfl, rfl⟩
                · skip
                  refine JL.loadOwn 0 az_24 rfl rfl rfl (.some rfl rfl rfl hc414) rfl ?_
                  refine JL.loadOwn 2 az_24 rfl rfl rfl (.some rfl rfl rfl hc414) rfl ?_
                  obtain ⟨y415, hy415, hF⟩ := bind_some hF
                  refine JL.callS (c_ref01_Less n H409 y396.1 (Frac.mk z_377 z_378) y415 hy415) rfl en_29 (.some rfl rfl rfl hc414) rfl ?_
                  refine JL.pick_f (b := (i_374 == 0)) rfl hc414 .none rfl ?_
                  obtain rfl := Option.some.inj hF
                  exact hJ413 _ ⟨rfl, rfl, rfl, rfl, rfl, rfl, rfl, rfl, rfl⟩
              · rintro f ⟨hf1, hf2, hf3, hf6, hf7, hf10, hf11, hf12, hf60⟩
                refine (JL.norm (i := 1) hf1 (JL.norm (i := 2) hf2 (JL.norm (i := 3) hf3 (JL.norm (i := 6) hf6 (JL.norm (i := 7) hf7 (JL.norm (i := 10) hf10 (JL.norm (i := 11) hf11 (JL.norm (i := 12) hf12 (JL.norm (i := 60) hf60 ?_)))))))))
                refine JL.done hQ ?_
                refine JQ.go ?_
                obtain ⟨r420, hlr420, hKr420⟩ := bind_some hF
                refine JC.join (fun (x : Int × Int) H419 f bs gs => match x with | (z_417, z_418) => f 1 = .int .i64 section_ ∧ f 2 = .int .i64 r ∧ f 3 = .pointer (some ⟨b1, 0, none⟩) ∧ f 6 = .pointer (some ⟨b2, 0, none⟩) ∧ f 7 = .pointer (some ⟨b3, 0, none⟩) ∧ f 10 = y19a_v0 ∧ f 11 = .int .i64 i_374 ∧ f 12 = .pointer (some ⟨b408, 0, none⟩) ∧ bs = [(b408, .cells [.int .i64 y396.1.Num, .int .i64 y396.1.Den].toArray 24), (b3, .cells [.int .i64 z_375, .int .i64 z_376].toArray 24), (b2, .cells [.int .i64 z_417, .int .i64 z_418].toArray 24), (b1, .cells [f__v0, .int .i64 f_.Low, .int .i64 f_.High, .int .i64 f_.Ease.Num, .int .i64 f_.Ease.Den, .int .i64 f_.Rod, .int .i64 f_.Case].toArray 26)] ∧ gs = [] ∧ HSub H409 H419 ∧ (z_417, z_418) = r420) ?_ ?_
                · have hF := hlr420
                  rcases ite_some hF with ⟨hc421, hF⟩ | ⟨hc421, hF⟩
                  · refine JC.cond_t (b := p412) rfl hc421 ?_
                    refine JC.region (by rfl) ?_
                    intro hQ
                    refine JL.loadOwn 0 az_24 rfl rfl rfl .none rfl ?_
                    refine JL.storeOwn 2 (cs := [.int .i64 y396.1.Num, .int .i64 y396.1.Den]) az_24 rfl rfl rfl (one_cons rfl (one_cons rfl one_nil)) rfl rfl .none ?_
                    refine JL.done hQ ?_
                    obtain rfl := Option.some.inj hF
                    exact JQ.join (y396.1.Num, y396.1.Den) ⟨rfl, rfl, rfl, rfl, rfl, rfl, rfl, rfl, rfl, rfl, (HSub.refl _), rfl⟩
                  · refine JC.cond_f (b := p412) rfl hc421 ?_
                    refine JC.skip ?_
                    obtain rfl := Option.some.inj hF
                    exact JQ.join (z_377, z_378) ⟨rfl, rfl, rfl, rfl, rfl, rfl, rfl, rfl, rfl, rfl, (HSub.refl _), rfl⟩
                · rintro ⟨z_417, z_418⟩ H419 f bs gs ⟨hf1, hf2, hf3, hf6, hf7, hf10, hf11, hf12, rfl, rfl, hs419, rfl⟩
                  have hF := hKr420
                  try dsimp only at hF
                  refine (JQ.norm (i := 1) hf1 (JQ.norm (i := 2) hf2 (JQ.norm (i := 3) hf3 (JQ.norm (i := 6) hf6 (JQ.norm (i := 7) hf7 (JQ.norm (i := 10) hf10 (JQ.norm (i := 11) hf11 (JQ.norm (i := 12) hf12 ?_))))))))
                  refine JQ.go ?_
                  refine JC.seq ?_
                  refine JC.region (by rfl) ?_
                  intro hQ
                  refine JL.move .none rfl ?_
                  refine JL.bin rfl rfl rfl .none rfl ?_
                  refine JL.move .none rfl ?_
                  obtain ⟨p423, hp423, hF⟩ := bind_some hF
                  refine JL.cut 4 (fun f => f 1 = .int .i64 section_ ∧ f 2 = .int .i64 r ∧ f 3 = .pointer (some ⟨b1, 0, none⟩) ∧ f 6 = .pointer (some ⟨b2, 0, none⟩) ∧ f 7 = .pointer (some ⟨b3, 0, none⟩) ∧ f 10 = y19a_v0 ∧ f 11 = .int .i64 i_374 ∧ f 12 = .pointer (some ⟨b408, 0, none⟩) ∧ f 68 = .bool p423) ?_ ?_
                  · intro hJ424
                    rcases ite_some hp423 with ⟨hc425, hF⟩ | ⟨hc425, hF⟩
                    · skip
                      refine JL.skip (.bool rfl rfl rfl hc425) rfl ?_
                      refine JL.skip (.bool rfl rfl rfl hc425) rfl ?_
                      refine JL.skip (.bool rfl rfl rfl hc425) rfl ?_
                      refine JL.pick_t (b := (i_374 == 0)) rfl hc425 .none rfl ?_
                      obtain rfl := Option.some.inj hF
                      exact hJ424 _ ⟨rfl, rfl, rfl, rfl, rfl, rfl, rfl, rfl, rfl⟩
                    · skip
                      refine JL.loadOwn 1 az_24 rfl rfl rfl (.some rfl rfl rfl hc425) rfl ?_
                      refine JL.loadOwn 0 az_24 rfl rfl rfl (.some rfl rfl rfl hc425) rfl ?_
                      obtain ⟨y426, hy426, hF⟩ := bind_some hF
                      refine JL.callS (c_ref01_Less n H419 (Frac.mk z_375 z_376) y396.1 y426 hy426) rfl en_29 (.some rfl rfl rfl hc425) rfl ?_
                      refine JL.pick_f (b := (i_374 == 0)) rfl hc425 .none rfl ?_
                      obtain rfl := Option.some.inj hF
                      exact hJ424 _ ⟨rfl, rfl, rfl, rfl, rfl, rfl, rfl, rfl, rfl⟩
                  · rintro f ⟨hf1, hf2, hf3, hf6, hf7, hf10, hf11, hf12, hf68⟩
                    refine (JL.norm (i := 1) hf1 (JL.norm (i := 2) hf2 (JL.norm (i := 3) hf3 (JL.norm (i := 6) hf6 (JL.norm (i := 7) hf7 (JL.norm (i := 10) hf10 (JL.norm (i := 11) hf11 (JL.norm (i := 12) hf12 (JL.norm (i := 68) hf68 ?_)))))))))
                    refine JL.done hQ ?_
                    refine JQ.go ?_
                    obtain ⟨r431, hlr431, hKr431⟩ := bind_some hF
                    refine JC.join (fun (x : Int × Int) H430 f bs gs => match x with | (z_428, z_429) => f 1 = .int .i64 section_ ∧ f 2 = .int .i64 r ∧ f 3 = .pointer (some ⟨b1, 0, none⟩) ∧ f 6 = .pointer (some ⟨b2, 0, none⟩) ∧ f 7 = .pointer (some ⟨b3, 0, none⟩) ∧ f 10 = y19a_v0 ∧ f 11 = .int .i64 i_374 ∧ bs = [(b3, .cells [.int .i64 z_428, .int .i64 z_429].toArray 24), (b2, .cells [.int .i64 z_417, .int .i64 z_418].toArray 24), (b1, .cells [f__v0, .int .i64 f_.Low, .int .i64 f_.High, .int .i64 f_.Ease.Num, .int .i64 f_.Ease.Den, .int .i64 f_.Rod, .int .i64 f_.Case].toArray 26)] ∧ gs = [] ∧ HSub H419 H430 ∧ (z_428, z_429) = r431) ?_ ?_
                    · have hF := hlr431
                      rcases ite_some hF with ⟨hc432, hF⟩ | ⟨hc432, hF⟩
                      · refine JC.cond_t (b := p423) rfl hc432 ?_
                        refine JC.region (by rfl) ?_
                        intro hQ
                        refine JL.loadOwn 0 az_24 rfl rfl rfl .none rfl ?_
                        refine JL.storeOwn 1 (cs := [.int .i64 y396.1.Num, .int .i64 y396.1.Den]) az_24 rfl rfl rfl (one_cons rfl (one_cons rfl one_nil)) rfl rfl .none ?_
                        refine JL.done hQ ?_
                        obtain rfl := Option.some.inj hF
                        refine JQ.mask [false, true, true, true] [] ?_
                        exact JQ.join (y396.1.Num, y396.1.Den) ⟨rfl, rfl, rfl, rfl, rfl, rfl, rfl, rfl, rfl, (HSub.refl _), rfl⟩
                      · refine JC.cond_f (b := p423) rfl hc432 ?_
                        refine JC.skip ?_
                        obtain rfl := Option.some.inj hF
                        refine JQ.mask [false, true, true, true] [] ?_
                        exact JQ.join (z_375, z_376) ⟨rfl, rfl, rfl, rfl, rfl, rfl, rfl, rfl, rfl, (HSub.refl _), rfl⟩
                    · rintro ⟨z_428, z_429⟩ H430 f bs gs ⟨hf1, hf2, hf3, hf6, hf7, hf10, hf11, rfl, rfl, hs430, rfl⟩
                      have hF := hKr431
                      try dsimp only at hF
                      refine (JQ.norm (i := 1) hf1 (JQ.norm (i := 2) hf2 (JQ.norm (i := 3) hf3 (JQ.norm (i := 6) hf6 (JQ.norm (i := 7) hf7 (JQ.norm (i := 10) hf10 (JQ.norm (i := 11) hf11 ?_)))))))
                      refine JQ.normal_block ?_
                      refine JQ.go ?_
                      refine JC.region (by rfl) ?_
                      intro hQ
                      refine JL.move .none rfl ?_
                      refine JL.bin rfl rfl rfl .none rfl ?_
                      refine JL.assign .none rfl ?_
                      refine JL.done hQ ?_
                      obtain rfl := Option.some.inj hF
                      exact JQ.next rfl ⟨rfl, rfl, rfl, rfl, rfl, rfl, rfl, rfl, rfl, (HSub.trans hs379 (HSub.trans hs409 (HSub.trans hs419 hs430)))⟩
          intro nd408_0
          refine JA.cut 6 #[true, true, true, true, true, true, true, true, false, false, false, false, true, false, false] (fun H433 f bs gs => ∃ (b407 : Nat), f 1 = .int .i64 section_ ∧ f 2 = .int .i64 r ∧ f 3 = .pointer (some ⟨b1, 0, none⟩) ∧ f 6 = .pointer (some ⟨b2, 0, none⟩) ∧ f 7 = .pointer (some ⟨b3, 0, none⟩) ∧ f 10 = y19a_v0 ∧ f 11 = .int .i64 i_374 ∧ f 12 = .pointer (some ⟨b407, 0, none⟩) ∧ f 42 = .int .i64 y390 ∧ f 46 = .agg [.int .i64 y391.Arm, .int .i64 y391.Stretch].toArray ∧ bs = [(b407, .cells [.int .i64 0, .int .i64 0].toArray 24), (b3, .cells [.int .i64 z_375, .int .i64 z_376].toArray 24), (b2, .cells [.int .i64 z_377, .int .i64 z_378].toArray 24), (b1, .cells [f__v0, .int .i64 f_.Low, .int .i64 f_.High, .int .i64 f_.Ease.Num, .int .i64 f_.Ease.Den, .int .i64 f_.Rod, .int .i64 f_.Case].toArray 26)] ∧ gs = [] ∧ HSub H379 H433) ?_ ?_
          · rintro H433 f bs gs ⟨b407, hf1, hf2, hf3, hf6, hf7, hf10, hf11, hf12, hf42, hf46, rfl, rfl, hs433⟩
            refine (JA.norm (i := 1) hf1 (JA.norm (i := 2) hf2 (JA.norm (i := 3) hf3 (JA.norm (i := 6) hf6 (JA.norm (i := 7) hf7 (JA.norm (i := 10) hf10 (JA.norm (i := 11) hf11 (JA.norm (i := 12) hf12 (JA.norm (i := 42) hf42 (JA.norm (i := 46) hf46 ?_))))))))))
            refine JA.many [8] (by kernel_rfl) (by simp) (all_one ⟨_, #[true, true, true, true, true, true, true, true, true, false, false, false, true, false, false], rfl, (by kernel_rfl), ?_⟩)
            refine JL.callS (c_ref01_CosineOf n H433 y390 y391 y396 hy396) rfl en_26 .none rfl ?_
            refine JA.after hE hs433 (.cons _ (.cons_cons _ (.cons_cons _ (.cons_cons _ (List.nil_sublist _))))) ?_
            refine JA.take 9 (listed' := #[true, true, true, true, true, true, true, true, true, true, false, false, true, false, false]) hQ rfl (by kernel_rfl) (by kernel_rfl) (by kernel_rfl) (by kernel_rfl) (by kernel_rfl) hE hs433 (.cons _ (.cons_cons _ (.cons_cons _ (.cons_cons _ (List.nil_sublist _))))) ?_
            refine JL.move .none rfl ?_
            refine JA.cont ?_
            refine JA.take 10 (listed' := #[true, true, true, true, true, true, true, true, true, true, true, false, true, false, false]) hQ rfl (by kernel_rfl) (by kernel_rfl) (by kernel_rfl) (by kernel_rfl) (by kernel_rfl) hE hs433 (.cons _ (.cons_cons _ (.cons_cons _ (.cons_cons _ (List.nil_sublist _))))) ?_
            refine JL.extract rfl rfl .none rfl ?_
            refine JA.cont ?_
            refine JA.take 11 (listed' := #[true, true, true, true, true, true, true, true, true, true, true, true, true, false, false]) hQ rfl (by kernel_rfl) (by kernel_rfl) (by kernel_rfl) (by kernel_rfl) (by kernel_rfl) hE hs433 (.cons _ (.cons_cons _ (.cons_cons _ (.cons_cons _ (List.nil_sublist _))))) ?_
            refine JL.extract rfl rfl .none rfl ?_
            refine JA.cont ?_
            exact nd408_0 _ _ _ _ ⟨b407, rfl, rfl, rfl, rfl, rfl, rfl, rfl, rfl, rfl, rfl, rfl, rfl, hs433⟩
          intro nd408_1
          refine JA.take 0 (listed' := #[true, false, false, false, false, false, false, false, false, false, false, false, false, false, false]) hQ rfl (by kernel_rfl) (by kernel_rfl) (by kernel_rfl) (by kernel_rfl) (by kernel_rfl) hE (HSub.refl _) (.cons_cons _ (.cons_cons _ (.cons_cons _ (List.nil_sublist _)))) ?_
          refine JL.loadOwn 2 az_26 rfl rfl rfl .none rfl ?_
          refine JA.cont ?_
          refine JA.take 1 (listed' := #[true, true, false, false, false, false, false, false, false, false, false, false, false, false, false]) hQ rfl (by kernel_rfl) (by kernel_rfl) (by kernel_rfl) (by kernel_rfl) (by kernel_rfl) hE (HSub.refl _) (.cons_cons _ (.cons_cons _ (.cons_cons _ (List.nil_sublist _)))) ?_
          refine JL.move .none rfl ?_
          refine JA.cont ?_
          refine JA.take 2 (listed' := #[true, true, true, false, false, false, false, false, false, false, false, false, false, false, false]) hQ rfl (by kernel_rfl) (by kernel_rfl) (by kernel_rfl) (by kernel_rfl) (by kernel_rfl) hE (HSub.refl _) (.cons_cons _ (.cons_cons _ (.cons_cons _ (List.nil_sublist _)))) ?_
          refine JL.move .none rfl ?_
          refine JA.cont ?_
          refine JA.take 4 (listed' := #[true, true, true, false, true, false, false, false, false, false, false, false, false, false, false]) hQ rfl (by kernel_rfl) (by kernel_rfl) (by kernel_rfl) (by kernel_rfl) (by kernel_rfl) hE (HSub.refl _) (.cons_cons _ (.cons_cons _ (.cons_cons _ (List.nil_sublist _)))) ?_
          refine JL.move .none rfl ?_
          refine JA.cont ?_
          refine JA.take 5 (listed' := #[true, true, true, false, true, true, false, false, false, false, false, false, false, false, false]) hQ rfl (by kernel_rfl) (by kernel_rfl) (by kernel_rfl) (by kernel_rfl) (by kernel_rfl) hE (HSub.refl _) (.cons_cons _ (.cons_cons _ (.cons_cons _ (List.nil_sublist _)))) ?_
          refine JL.move .none rfl ?_
          refine JA.cont ?_
          refine JA.take 6 (listed' := #[true, true, true, false, true, true, true, false, false, false, false, false, false, false, false]) hQ rfl (by kernel_rfl) (by kernel_rfl) (by kernel_rfl) (by kernel_rfl) (by kernel_rfl) hE (HSub.refl _) (.cons_cons _ (.cons_cons _ (.cons_cons _ (List.nil_sublist _)))) ?_
          refine JL.indexSL (R := R_ref01_Pair) sl_40 (SL.mono R_ref01_Pair_mono hs379 hy19a_0) rfl hy391 .none rfl ?_
          rintro b438 o439 cs440 hc441 - rfl
          refine JA.cont ?_
          refine JA.take 7 (listed' := #[true, true, true, false, true, true, true, true, false, false, false, false, false, false, false]) hQ rfl (by kernel_rfl) (by kernel_rfl) (by kernel_rfl) (by kernel_rfl) (by kernel_rfl) hE (HSub.refl _) (.cons_cons _ (.cons_cons _ (.cons_cons _ (List.nil_sublist _)))) ?_
          refine JL.loadH 0 az_45 rfl hc441 rfl .none rfl ?_
          refine JA.cont ?_
          refine JA.many [3, 12] (by kernel_rfl) (by simp) (all_cons ⟨_, #[true, true, true, true, true, true, true, true, false, false, false, false, false, false, false], rfl, (by kernel_rfl), ?_⟩ (all_one ⟨_, #[true, true, true, false, true, true, true, true, false, false, false, false, true, false, false], rfl, (by kernel_rfl), ?_⟩))
          · skip
            refine JL.callS (c_ref01_distance n H379 f_ f__v0 (SL.mono R_Section_mono (HSub.trans hs20 hs379) hf__0) section_ r y390 hy390) rfl en_60 .none rfl ?_
            refine JA.after hE (HSub.refl _) (.cons_cons _ (.cons_cons _ (.cons_cons _ (List.nil_sublist _)))) ?_
            refine JA.many [8, 12] (by kernel_rfl) (by simp) (all_cons ⟨_, #[true, true, true, true, true, true, true, true, true, false, false, false, false, false, false], rfl, (by kernel_rfl), ?_⟩ (all_one ⟨_, #[true, true, true, true, true, true, true, true, false, false, false, false, true, false, false], rfl, (by kernel_rfl), ?_⟩))
            · skip
              refine JL.callS (c_ref01_CosineOf n H379 y390 y391 y396 hy396) rfl en_26 .none rfl ?_
              refine JA.after hE (HSub.refl _) (.cons_cons _ (.cons_cons _ (.cons_cons _ (List.nil_sublist _)))) ?_
              refine JA.take 9 (listed' := #[true, true, true, true, true, true, true, true, true, true, false, false, false, false, false]) hQ rfl (by kernel_rfl) (by kernel_rfl) (by kernel_rfl) (by kernel_rfl) (by kernel_rfl) hE (HSub.refl _) (.cons_cons _ (.cons_cons _ (.cons_cons _ (List.nil_sublist _)))) ?_
              refine JL.move .none rfl ?_
              refine JA.cont ?_
              refine JA.take 10 (listed' := #[true, true, true, true, true, true, true, true, true, true, true, false, false, false, false]) hQ rfl (by kernel_rfl) (by kernel_rfl) (by kernel_rfl) (by kernel_rfl) (by kernel_rfl) hE (HSub.refl _) (.cons_cons _ (.cons_cons _ (.cons_cons _ (List.nil_sublist _)))) ?_
              refine JL.extract rfl rfl .none rfl ?_
              refine JA.cont ?_
              refine JA.take 11 (listed' := #[true, true, true, true, true, true, true, true, true, true, true, true, false, false, false]) hQ rfl (by kernel_rfl) (by kernel_rfl) (by kernel_rfl) (by kernel_rfl) (by kernel_rfl) hE (HSub.refl _) (.cons_cons _ (.cons_cons _ (.cons_cons _ (List.nil_sublist _)))) ?_
              refine JL.extract rfl rfl .none rfl ?_
              refine JA.cont ?_
              refine JA.many [12] (by kernel_rfl) (by simp) (all_one ⟨_, #[true, true, true, true, true, true, true, true, true, true, true, true, true, false, false], rfl, (by kernel_rfl), ?_⟩)
              refine JL.alloc ze_24 .none rfl ?_
              intro b442
              refine JA.after hE (HSub.refl _) (.cons _ (.cons_cons _ (.cons_cons _ (.cons_cons _ (List.nil_sublist _))))) ?_
              exact nd408_0 _ _ _ _ ⟨b442, rfl, rfl, rfl, rfl, rfl, rfl, rfl, rfl, rfl, rfl, rfl, rfl, (HSub.refl _)⟩
            · skip
              refine JL.alloc ze_24 .none rfl ?_
              intro b443
              refine JA.after hE (HSub.refl _) (.cons _ (.cons_cons _ (.cons_cons _ (.cons_cons _ (List.nil_sublist _))))) ?_
              exact nd408_1 _ _ _ _ ⟨b443, rfl, rfl, rfl, rfl, rfl, rfl, rfl, rfl, rfl, rfl, rfl, rfl, (HSub.refl _)⟩
          · skip
            refine JL.alloc ze_24 .none rfl ?_
            intro b444
            refine JA.after hE (HSub.refl _) (.cons _ (.cons_cons _ (.cons_cons _ (.cons_cons _ (List.nil_sublist _))))) ?_
            refine JA.many [3] (by kernel_rfl) (by simp) (all_one ⟨_, #[true, true, true, true, true, true, true, true, false, false, false, false, true, false, false], rfl, (by kernel_rfl), ?_⟩)
            refine JL.callS (c_ref01_distance n H379 f_ f__v0 (SL.mono R_Section_mono (HSub.trans hs20 hs379) hf__0) section_ r y390 hy390) rfl en_60 .none rfl ?_
            refine JA.after hE (HSub.refl _) (.cons _ (.cons_cons _ (.cons_cons _ (.cons_cons _ (List.nil_sublist _))))) ?_
            exact nd408_1 _ _ _ _ ⟨b444, rfl, rfl, rfl, rfl, rfl, rfl, rfl, rfl, rfl, rfl, rfl, rfl, (HSub.refl _)⟩
        · refine JC.cond_f (b := decide (i_374 < (y19.length : Int))) rfl hc382 ?_
          refine JC.exit ?_
          refine JQ.exit_then ?_
          refine JQ.exit_then ?_
          refine JQ.exit_block ?_
          obtain rfl := Option.some.inj hF
          have ehr380 := hr380 _ rfl
          subst ehr380
          refine JQ.mask [true, true, false] [] ?_
          exact JQ.join (z_375, z_376, z_377, z_378) ⟨rfl, rfl, rfl, rfl, hs379, rfl⟩
      · rintro ⟨z_230, z_231, z_232, z_233⟩ H234 f bs gs ⟨hf6, hf7, rfl, rfl, hs234, rfl⟩
        have hF := hKr235
        try dsimp only at hF
        refine (JQ.norm (i := 6) hf6 (JQ.norm (i := 7) hf7 ?_))
        refine JQ.go ?_
        refine JC.seq ?_
        refine JC.mixed 2 5 #[false, false, false, false, false] [(b3, .cells [.int .i64 z_230, .int .i64 z_231].toArray 24), (b2, .cells [.int .i64 z_232, .int .i64 z_233].toArray 24)] (by rfl) mo_ (by kernel_rfl) (by kernel_rfl) ?_
        intro hQ hE
        refine JA.cut 2 #[true, true, true, false, false] (fun H445 f bs gs => f 6 = .pointer (some ⟨b2, 0, none⟩) ∧ f 7 = .pointer (some ⟨b3, 0, none⟩) ∧ f 71 = .agg [.int .i64 z_230, .int .i64 z_231].toArray ∧ bs = [(b3, .cells [.int .i64 z_230, .int .i64 z_231].toArray 24), (b2, .cells [.int .i64 z_232, .int .i64 z_233].toArray 24)] ∧ gs = [] ∧ HSub H234 H445) ?_ ?_
        · rintro H445 f bs gs ⟨hf6, hf7, hf71, rfl, rfl, hs445⟩
          refine (JA.norm (i := 6) hf6 (JA.norm (i := 7) hf7 (JA.norm (i := 71) hf71 ?_)))
          refine JA.many [3] (by kernel_rfl) (by simp) (all_one ⟨_, #[true, true, true, true, false], rfl, (by kernel_rfl), ?_⟩)
          refine JL.storeOwn 0 (cs := [.int .i64 z_230, .int .i64 z_231]) az_24 rfl rfl rfl (one_cons rfl (one_cons rfl one_nil)) rfl rfl .none ?_
          refine JA.sink (by kernel_rfl) ?_
          refine JA.many [4] (by kernel_rfl) (by simp) (all_one ⟨_, #[true, true, true, true, true], rfl, (by kernel_rfl), ?_⟩)
          refine JL.assign .none rfl ?_
          refine JA.sink (by kernel_rfl) ?_
          refine JA.done hQ (by kernel_rfl) ?_
          refine JQ.go ?_
          refine JC.ret ?_
          obtain rfl := Option.some.inj hF
          exact JQ.outS rfl (.cell 1 az_24 rfl rfl rfl (.cell 0 az_24 rfl rfl rfl (.tmp .nil))) rfl
        intro nd444_0
        refine JA.take 0 (listed' := #[true, false, false, false, false]) hQ rfl (by kernel_rfl) (by kernel_rfl) (by kernel_rfl) (by kernel_rfl) (by kernel_rfl) hE (HSub.refl _) (.cons_cons _ (.cons_cons _ (List.nil_sublist _))) ?_
        refine JL.loadOwn 1 az_24 rfl rfl rfl .none rfl ?_
        refine JA.cont ?_
        refine JA.many [1, 2] (by kernel_rfl) (by simp) (all_cons ⟨_, #[true, true, false, false, false], rfl, (by kernel_rfl), ?_⟩ (all_one ⟨_, #[true, false, true, false, false], rfl, (by kernel_rfl), ?_⟩))
        · skip
          refine JL.loadOwn 0 az_24 rfl rfl rfl .none rfl ?_
          refine JA.after hE (HSub.refl _) (.cons_cons _ (.cons_cons _ (List.nil_sublist _))) ?_
          refine JA.many [2] (by kernel_rfl) (by simp) (all_one ⟨_, #[true, true, true, false, false], rfl, (by kernel_rfl), ?_⟩)
          refine JL.storeOwn 1 (cs := [.int .i64 z_232, .int .i64 z_233]) az_24 rfl rfl rfl (one_cons rfl (one_cons rfl one_nil)) rfl rfl .none ?_
          refine JA.sink (by kernel_rfl) ?_
          exact nd444_0 _ _ _ _ ⟨rfl, rfl, rfl, rfl, rfl, (HSub.refl _)⟩
        · skip
          refine JL.storeOwn 1 (cs := [.int .i64 z_232, .int .i64 z_233]) az_24 rfl rfl rfl (one_cons rfl (one_cons rfl one_nil)) rfl rfl .none ?_
          refine JA.sink (by kernel_rfl) ?_
          refine JA.many [1] (by kernel_rfl) (by simp) (all_one ⟨_, #[true, true, true, false, false], rfl, (by kernel_rfl), ?_⟩)
          refine JL.loadOwn 0 az_24 rfl rfl rfl .none rfl ?_
          refine JA.sink (by kernel_rfl) ?_
          exact nd444_0 _ _ _ _ ⟨rfl, rfl, rfl, rfl, rfl, (HSub.refl _)⟩

-- 20 ferrule/frames.Binds
def F_frames_Binds (n : Nat) (f_ : Frame) (section_ : Int) (r : Int) : Option (Int × Int) :=
  (F_frames_ask n f_ section_ r).bind fun y2 => if (y2 != 0) = true then (some (0, y2)) else ((F_frames_binds n f_ section_ r).bind fun y4 => some (y4, 0))
set_option maxRecDepth 100000 in
set_option maxHeartbeats 40000000 in
theorem c_frames_Binds (n : Nat) (H : Hp) (f_ : Frame) (f__v0 : Value) (hf__0 : SL H 7 R_Section f__v0 f_.Sections) (section_ : Int) (r : Int) (y : Int × Int) (hF : F_frames_Binds n f_ section_ r = some y) : SC Try.prog 20 [.agg [f__v0, .int .i64 f_.Low, .int .i64 f_.High, .int .i64 f_.Ease.Num, .int .i64 f_.Ease.Den, .int .i64 f_.Rod, .int .i64 f_.Case].toArray, .int .i64 section_, .int .i64 r] (.tuple [.int .i64 y.1, .int .i64 y.2].toArray) H := by
  rw [F_frames_Binds] at hF
  refine SC.of (N := 20) Try.func20 rfl rfl rfl fun w => ?_
  refine JC.seq ?_
  refine JC.region (by rfl) ?_
  intro hQ
  refine JL.box (cs := [f__v0, .int .i64 f_.Low, .int .i64 f_.High, .int .i64 f_.Ease.Num, .int .i64 f_.Ease.Den, .int .i64 f_.Rod, .int .i64 f_.Case]) rfl .none rfl ?_
  intro b1
  refine JL.assign .none rfl ?_
  refine JL.assign .none rfl ?_
  refine JL.done hQ ?_
  refine JQ.go ?_
  refine JC.seq ?_
  refine JC.seq ?_
  refine JC.region (by rfl) ?_
  intro hQ
  refine JL.loadOwn 0 az_26 rfl rfl rfl .none rfl ?_
  refine JL.move .none rfl ?_
  refine JL.move .none rfl ?_
  obtain ⟨y2, hy2, hF⟩ := bind_some hF
  refine JL.callS (c_frames_ask n H f_ f__v0 hf__0 section_ r y2 hy2) rfl en_56 .none rfl ?_
  refine JL.assign .none rfl ?_
  refine JL.done hQ ?_
  refine JQ.go ?_
  refine JC.seq ?_
  refine JC.region (by rfl) ?_
  intro hQ
  refine JL.move .none rfl ?_
  refine JL.bin rfl rfl rfl .none rfl ?_
  refine JL.done hQ ?_
  refine JQ.go ?_
  rcases ite_some hF with ⟨hc3, hF⟩ | ⟨hc3, hF⟩
  · refine JC.cond_t (b := (y2 != 0)) rfl hc3 ?_
    refine JC.seq ?_
    refine JC.region (by rfl) ?_
    intro hQ
    refine JL.move .none rfl ?_
    refine JL.assign .none rfl ?_
    refine JL.assign .none rfl ?_
    refine JL.done hQ ?_
    refine JQ.go ?_
    refine JC.fresh (fun f => f 6 = .int .i64 0 ∧ f 7 = .int .i64 y2) ⟨rfl, rfl⟩ ?_
    rintro f ⟨hf6, hf7⟩
    refine (JC.norm (i := 6) hf6 (JC.norm (i := 7) hf7 ?_))
    refine JC.ret ?_
    refine JQ.ret_then ?_
    obtain rfl := Option.some.inj hF
    exact JQ.outS rfl (.tmp (.tmp .nil)) rfl
  · refine JC.cond_f (b := (y2 != 0)) rfl hc3 ?_
    refine JC.skip ?_
    refine JQ.go ?_
    refine JC.seq ?_
    refine JC.region (by rfl) ?_
    intro hQ
    refine JL.loadOwn 0 az_26 rfl rfl rfl .none rfl ?_
    refine JL.move .none rfl ?_
    refine JL.move .none rfl ?_
    obtain ⟨y4, hy4, hF⟩ := bind_some hF
    refine JL.callS (c_frames_binds n H f_ f__v0 hf__0 section_ r y4 hy4) rfl en_65 .none rfl ?_
    refine JL.assign .none rfl ?_
    refine JL.assign .none rfl ?_
    refine JL.done hQ ?_
    refine JQ.go ?_
    refine JC.fresh (fun f => f 6 = .int .i64 y4 ∧ f 7 = .int .i64 0) ⟨rfl, rfl⟩ ?_
    rintro f ⟨hf6, hf7⟩
    refine (JC.norm (i := 6) hf6 (JC.norm (i := 7) hf7 ?_))
    refine JC.ret ?_
    obtain rfl := Option.some.inj hF
    exact JQ.outS rfl (.tmp (.tmp .nil)) rfl

-- 27 ferrule/ferruleref01.BindsAt
def F_ref01_BindsAt (n : Nat) (f_ : Frame) (section_ : Int) (r : Int) (p : ref01_Pair) : Option Bool :=
  (F_ref01_distance n f_ section_ r).bind fun y5 => (F_ref01_CosineOf n y5 p).bind fun y6 => (if (!y6.2) = true then (some true) else ((F_ref01_Less n y6.1 (Frac.mk (w64 (f_.Ease.Den - f_.Ease.Num)) f_.Ease.Den)).bind fun y17 => some (!y17)) : Option Bool).bind fun p14 => (if p14 = true then (some true) else ((F_ref01_Less n (Frac.mk (w64 (-(w64 (f_.Ease.Den - f_.Ease.Num)))) f_.Ease.Den) y6.1).bind fun y22 => some (!y22)) : Option Bool).bind fun p19 => some p19
set_option maxRecDepth 100000 in
set_option maxHeartbeats 40000000 in
theorem c_ref01_BindsAt (n : Nat) (H : Hp) (f_ : Frame) (f__v0 : Value) (hf__0 : SL H 7 R_Section f__v0 f_.Sections) (section_ : Int) (r : Int) (p : ref01_Pair) (y : Bool) (hF : F_ref01_BindsAt n f_ section_ r p = some y) : SC Try.prog 27 [.agg [f__v0, .int .i64 f_.Low, .int .i64 f_.High, .int .i64 f_.Ease.Num, .int .i64 f_.Ease.Den, .int .i64 f_.Rod, .int .i64 f_.Case].toArray, .int .i64 section_, .int .i64 r, .agg [.int .i64 p.Arm, .int .i64 p.Stretch].toArray] (.bool y) H := by
  rw [F_ref01_BindsAt] at hF
  refine SC.of (N := 51) Try.func27 rfl rfl rfl fun w => ?_
  refine JC.seq ?_
  refine JC.region (by rfl) ?_
  intro hQ
  refine JL.box (cs := [f__v0, .int .i64 f_.Low, .int .i64 f_.High, .int .i64 f_.Ease.Num, .int .i64 f_.Ease.Den, .int .i64 f_.Rod, .int .i64 f_.Case]) rfl .none rfl ?_
  intro b1
  refine JL.box (cs := [.int .i64 p.Arm, .int .i64 p.Stretch]) rfl .none rfl ?_
  intro b2
  refine JL.assign .none rfl ?_
  refine JL.done hQ ?_
  refine JQ.go ?_
  refine JC.seq ?_
  obtain ⟨y5, hy5, hF⟩ := bind_some hF
  obtain ⟨y6, hy6, hF⟩ := bind_some hF
  refine JC.mixed 12 12 #[false, false, false, false, false, false, false, false, false, false, false, false] [(b2, .cells [.int .i64 p.Arm, .int .i64 p.Stretch].toArray 45), (b1, .cells [f__v0, .int .i64 f_.Low, .int .i64 f_.High, .int .i64 f_.Ease.Num, .int .i64 f_.Ease.Den, .int .i64 f_.Rod, .int .i64 f_.Case].toArray 26)] (by rfl) mo_ (by kernel_rfl) (by kernel_rfl) ?_
  intro hQ hE
  refine JA.cut 2 #[true, true, true, true, true, true, true, true, true, true, false, false] (fun H11 f bs gs => ∃ (b10 : Nat), f 4 = .pointer (some ⟨b1, 0, none⟩) ∧ f 9 = .pointer (some ⟨b10, 0, none⟩) ∧ f 19 = .agg [.int .i64 y6.1.Num, .int .i64 y6.1.Den].toArray ∧ f 20 = .bool y6.2 ∧ bs = [(b10, .cells [.int .i64 0, .int .i64 0].toArray 24), (b2, .cells [.int .i64 p.Arm, .int .i64 p.Stretch].toArray 45), (b1, .cells [f__v0, .int .i64 f_.Low, .int .i64 f_.High, .int .i64 f_.Ease.Num, .int .i64 f_.Ease.Den, .int .i64 f_.Rod, .int .i64 f_.Case].toArray 26)] ∧ gs = [] ∧ HSub H H11) ?_ ?_
  · rintro H11 f bs gs ⟨b10, hf4, hf9, hf19, hf20, rfl, rfl, hs11⟩
    refine (JA.norm (i := 4) hf4 (JA.norm (i := 9) hf9 (JA.norm (i := 19) hf19 (JA.norm (i := 20) hf20 ?_))))
    refine JA.many [10] (by kernel_rfl) (by simp) (all_one ⟨_, #[true, true, true, true, true, true, true, true, true, true, true, false], rfl, (by kernel_rfl), ?_⟩)
    refine JL.storeOwn 0 (cs := [.int .i64 y6.1.Num, .int .i64 y6.1.Den]) az_24 rfl rfl rfl (one_cons rfl (one_cons rfl one_nil)) rfl rfl .none ?_
    refine JA.after hE hs11 (.cons _ (.cons_cons _ (.cons_cons _ (List.nil_sublist _)))) ?_
    refine JA.take 11 (listed' := #[true, true, true, true, true, true, true, true, true, true, true, true]) hQ rfl (by kernel_rfl) (by kernel_rfl) (by kernel_rfl) (by kernel_rfl) (by kernel_rfl) hE hs11 (.cons _ (.cons_cons _ (.cons_cons _ (List.nil_sublist _)))) ?_
    refine JL.assign .none rfl ?_
    refine JA.cont ?_
    refine JA.done hQ (by kernel_rfl) ?_
    refine JQ.go ?_
    refine JC.seq ?_
    refine JC.region (by rfl) ?_
    intro hQ
    refine JL.fieldAddr fo_26_3 rfl .none rfl ?_
    refine JL.fieldAddr fo_24_1 rfl .none rfl ?_
    refine JL.loadOwn 2 az_3 rfl rfl rfl .none rfl ?_
    refine JL.fieldAddr fo_26_3 rfl .none rfl ?_
    refine JL.fieldAddr fo_24_0 rfl .none rfl ?_
    refine JL.loadOwn 2 az_3 rfl rfl rfl .none rfl ?_
    refine JL.bin rfl rfl rfl .none rfl ?_
    refine JL.fieldAddr fo_26_3 rfl .none rfl ?_
    refine JL.fieldAddr fo_24_1 rfl .none rfl ?_
    refine JL.loadOwn 2 az_3 rfl rfl rfl .none rfl ?_
    refine JL.build (l := [.int .i64 (w64 (f_.Ease.Den - f_.Ease.Num)), .int .i64 f_.Ease.Den]) (by kernel_rfl) .none rfl ?_
    refine JL.alloc ze_24 .none rfl ?_
    intro b12
    refine JL.storeOwn 0 (cs := [.int .i64 (w64 (f_.Ease.Den - f_.Ease.Num)), .int .i64 f_.Ease.Den]) az_24 rfl rfl rfl (one_cons rfl (one_cons rfl one_nil)) rfl rfl .none ?_
    refine JL.done hQ ?_
    refine JQ.go ?_
    refine JC.fresh (fun f => f 9 = .pointer (some ⟨b10, 0, none⟩) ∧ f 10 = .bool y6.2 ∧ f 11 = .pointer (some ⟨b12, 0, none⟩)) ⟨rfl, rfl, rfl⟩ ?_
    rintro f ⟨hf9, hf10, hf11⟩
    refine (JC.norm (i := 9) hf9 (JC.norm (i := 10) hf10 (JC.norm (i := 11) hf11 ?_)))
    refine JC.seq ?_
    refine JC.region (by rfl) ?_
    intro hQ
    refine JL.move .none rfl ?_
    refine JL.not rfl .none rfl ?_
    refine JL.move .none rfl ?_
    obtain ⟨p14, hp14, hF⟩ := bind_some hF
    refine JL.cut 5 (fun f => f 9 = .pointer (some ⟨b10, 0, none⟩) ∧ f 11 = .pointer (some ⟨b12, 0, none⟩) ∧ f 39 = .bool p14) ?_ ?_
    · intro hJ15
      rcases ite_some hp14 with ⟨hc16, hF⟩ | ⟨hc16, hF⟩
      · skip
        refine JL.skip (.bool rfl rfl rfl hc16) rfl ?_
        refine JL.skip (.bool rfl rfl rfl hc16) rfl ?_
        refine JL.skip (.bool rfl rfl rfl hc16) rfl ?_
        refine JL.skip (.bool rfl rfl rfl hc16) rfl ?_
        refine JL.pick_t (b := (!y6.2)) rfl hc16 .none rfl ?_
        obtain rfl := Option.some.inj hF
        exact hJ15 _ ⟨rfl, rfl, rfl⟩
      · skip
        refine JL.loadOwn 1 az_24 rfl rfl rfl (.some rfl rfl rfl hc16) rfl ?_
        refine JL.loadOwn 0 az_24 rfl rfl rfl (.some rfl rfl rfl hc16) rfl ?_
        obtain ⟨y17, hy17, hF⟩ := bind_some hF
        refine JL.callS (c_ref01_Less n H11 y6.1 (Frac.mk (w64 (f_.Ease.Den - f_.Ease.Num)) f_.Ease.Den) y17 hy17) rfl en_29 (.some rfl rfl rfl hc16) rfl ?_
        refine JL.not rfl (.some rfl rfl rfl hc16) rfl ?_
        refine JL.pick_f (b := (!y6.2)) rfl hc16 .none rfl ?_
        obtain rfl := Option.some.inj hF
        exact hJ15 _ ⟨rfl, rfl, rfl⟩
    · rintro f ⟨hf9, hf11, hf39⟩
      refine (JL.norm (i := 9) hf9 (JL.norm (i := 11) hf11 (JL.norm (i := 39) hf39 ?_)))
      refine JL.move .none rfl ?_
      obtain ⟨p19, hp19, hF⟩ := bind_some hF
      refine JL.cut 10 (fun f => f 50 = .bool p19) ?_ ?_
      · intro hJ20
        rcases ite_some hp19 with ⟨hc21, hF⟩ | ⟨hc21, hF⟩
        · skip
          refine JL.skip (.bool rfl rfl rfl hc21) rfl ?_
          refine JL.skip (.bool rfl rfl rfl hc21) rfl ?_
          refine JL.skip (.bool rfl rfl rfl hc21) rfl ?_
          refine JL.skip (.bool rfl rfl rfl hc21) rfl ?_
          refine JL.skip (.bool rfl rfl rfl hc21) rfl ?_
          refine JL.skip (.bool rfl rfl rfl hc21) rfl ?_
          refine JL.skip (.bool rfl rfl rfl hc21) rfl ?_
          refine JL.skip (.bool rfl rfl rfl hc21) rfl ?_
          refine JL.skip (.bool rfl rfl rfl hc21) rfl ?_
          refine JL.pick_t (b := p14) rfl hc21 .none rfl ?_
          obtain rfl := Option.some.inj hF
          exact hJ20 _ (rfl)
        · skip
          refine JL.fieldAddr fo_24_0 rfl (.some rfl rfl rfl hc21) rfl ?_
          refine JL.loadOwn 0 az_3 rfl rfl rfl (.some rfl rfl rfl hc21) rfl ?_
          refine JL.neg rfl (.some rfl rfl rfl hc21) rfl ?_
          refine JL.fieldAddr fo_24_1 rfl (.some rfl rfl rfl hc21) rfl ?_
          refine JL.loadOwn 0 az_3 rfl rfl rfl (.some rfl rfl rfl hc21) rfl ?_
          refine JL.build (l := [.int .i64 (w64 (-(w64 (f_.Ease.Den - f_.Ease.Num)))), .int .i64 f_.Ease.Den]) (by kernel_rfl) (.some rfl rfl rfl hc21) rfl ?_
          refine JL.loadOwn 1 az_24 rfl rfl rfl (.some rfl rfl rfl hc21) rfl ?_
          obtain ⟨y22, hy22, hF⟩ := bind_some hF
          refine JL.callS (c_ref01_Less n H11 (Frac.mk (w64 (-(w64 (f_.Ease.Den - f_.Ease.Num)))) f_.Ease.Den) y6.1 y22 hy22) rfl en_29 (.some rfl rfl rfl hc21) rfl ?_
          refine JL.not rfl (.some rfl rfl rfl hc21) rfl ?_
          refine JL.pick_f (b := p14) rfl hc21 .none rfl ?_
          obtain rfl := Option.some.inj hF
          exact hJ20 _ (rfl)
      · rintro f hf50
        refine (JL.norm (i := 50) hf50 ?_)
        refine JL.assign .none rfl ?_
        refine JL.done hQ ?_
        refine JQ.go ?_
        refine JC.ret ?_
        obtain rfl := Option.some.inj hF
        exact JQ.outS rfl (.tmp .nil) rfl
  intro nd10_0
  refine JA.cut 6 #[true, true, true, true, true, false, false, false, false, true, false, false] (fun H23 f bs gs => ∃ (b9 : Nat), f 4 = .pointer (some ⟨b1, 0, none⟩) ∧ f 9 = .pointer (some ⟨b9, 0, none⟩) ∧ f 16 = .int .i64 y5 ∧ f 17 = .agg [.int .i64 p.Arm, .int .i64 p.Stretch].toArray ∧ bs = [(b9, .cells [.int .i64 0, .int .i64 0].toArray 24), (b2, .cells [.int .i64 p.Arm, .int .i64 p.Stretch].toArray 45), (b1, .cells [f__v0, .int .i64 f_.Low, .int .i64 f_.High, .int .i64 f_.Ease.Num, .int .i64 f_.Ease.Den, .int .i64 f_.Rod, .int .i64 f_.Case].toArray 26)] ∧ gs = [] ∧ HSub H H23) ?_ ?_
  · rintro H23 f bs gs ⟨b9, hf4, hf9, hf16, hf17, rfl, rfl, hs23⟩
    refine (JA.norm (i := 4) hf4 (JA.norm (i := 9) hf9 (JA.norm (i := 16) hf16 (JA.norm (i := 17) hf17 ?_))))
    refine JA.many [5] (by kernel_rfl) (by simp) (all_one ⟨_, #[true, true, true, true, true, true, false, false, false, true, false, false], rfl, (by kernel_rfl), ?_⟩)
    refine JL.callS (c_ref01_CosineOf n H23 y5 p y6 hy6) rfl en_26 .none rfl ?_
    refine JA.after hE hs23 (.cons _ (.cons_cons _ (.cons_cons _ (List.nil_sublist _)))) ?_
    refine JA.take 6 (listed' := #[true, true, true, true, true, true, true, false, false, true, false, false]) hQ rfl (by kernel_rfl) (by kernel_rfl) (by kernel_rfl) (by kernel_rfl) (by kernel_rfl) hE hs23 (.cons _ (.cons_cons _ (.cons_cons _ (List.nil_sublist _)))) ?_
    refine JL.move .none rfl ?_
    refine JA.cont ?_
    refine JA.take 7 (listed' := #[true, true, true, true, true, true, true, true, false, true, false, false]) hQ rfl (by kernel_rfl) (by kernel_rfl) (by kernel_rfl) (by kernel_rfl) (by kernel_rfl) hE hs23 (.cons _ (.cons_cons _ (.cons_cons _ (List.nil_sublist _)))) ?_
    refine JL.extract rfl rfl .none rfl ?_
    refine JA.cont ?_
    refine JA.take 8 (listed' := #[true, true, true, true, true, true, true, true, true, true, false, false]) hQ rfl (by kernel_rfl) (by kernel_rfl) (by kernel_rfl) (by kernel_rfl) (by kernel_rfl) hE hs23 (.cons _ (.cons_cons _ (.cons_cons _ (List.nil_sublist _)))) ?_
    refine JL.extract rfl rfl .none rfl ?_
    refine JA.cont ?_
    exact nd10_0 _ _ _ _ ⟨b9, rfl, rfl, rfl, rfl, rfl, rfl, hs23⟩
  intro nd10_1
  refine JA.take 0 (listed' := #[true, false, false, false, false, false, false, false, false, false, false, false]) hQ rfl (by kernel_rfl) (by kernel_rfl) (by kernel_rfl) (by kernel_rfl) (by kernel_rfl) hE (HSub.refl _) (.cons_cons _ (.cons_cons _ (List.nil_sublist _))) ?_
  refine JL.loadOwn 1 az_26 rfl rfl rfl .none rfl ?_
  refine JA.cont ?_
  refine JA.take 1 (listed' := #[true, true, false, false, false, false, false, false, false, false, false, false]) hQ rfl (by kernel_rfl) (by kernel_rfl) (by kernel_rfl) (by kernel_rfl) (by kernel_rfl) hE (HSub.refl _) (.cons_cons _ (.cons_cons _ (List.nil_sublist _))) ?_
  refine JL.move .none rfl ?_
  refine JA.cont ?_
  refine JA.take 2 (listed' := #[true, true, true, false, false, false, false, false, false, false, false, false]) hQ rfl (by kernel_rfl) (by kernel_rfl) (by kernel_rfl) (by kernel_rfl) (by kernel_rfl) hE (HSub.refl _) (.cons_cons _ (.cons_cons _ (List.nil_sublist _))) ?_
  refine JL.move .none rfl ?_
  refine JA.cont ?_
  refine JA.take 4 (listed' := #[true, true, true, false, true, false, false, false, false, false, false, false]) hQ rfl (by kernel_rfl) (by kernel_rfl) (by kernel_rfl) (by kernel_rfl) (by kernel_rfl) hE (HSub.refl _) (.cons_cons _ (.cons_cons _ (List.nil_sublist _))) ?_
  refine JL.loadOwn 0 az_45 rfl rfl rfl .none rfl ?_
  refine JA.cont ?_
  refine JA.many [3, 9] (by kernel_rfl) (by simp) (all_cons ⟨_, #[true, true, true, true, true, false, false, false, false, false, false, false], rfl, (by kernel_rfl), ?_⟩ (all_one ⟨_, #[true, true, true, false, true, false, false, false, false, true, false, false], rfl, (by kernel_rfl), ?_⟩))
  · skip
    refine JL.callS (c_ref01_distance n H f_ f__v0 hf__0 section_ r y5 hy5) rfl en_60 .none rfl ?_
    refine JA.after hE (HSub.refl _) (.cons_cons _ (.cons_cons _ (List.nil_sublist _))) ?_
    refine JA.many [5, 9] (by kernel_rfl) (by simp) (all_cons ⟨_, #[true, true, true, true, true, true, false, false, false, false, false, false], rfl, (by kernel_rfl), ?_⟩ (all_one ⟨_, #[true, true, true, true, true, false, false, false, false, true, false, false], rfl, (by kernel_rfl), ?_⟩))
    · skip
      refine JL.callS (c_ref01_CosineOf n H y5 p y6 hy6) rfl en_26 .none rfl ?_
      refine JA.after hE (HSub.refl _) (.cons_cons _ (.cons_cons _ (List.nil_sublist _))) ?_
      refine JA.take 6 (listed' := #[true, true, true, true, true, true, true, false, false, false, false, false]) hQ rfl (by kernel_rfl) (by kernel_rfl) (by kernel_rfl) (by kernel_rfl) (by kernel_rfl) hE (HSub.refl _) (.cons_cons _ (.cons_cons _ (List.nil_sublist _))) ?_
      refine JL.move .none rfl ?_
      refine JA.cont ?_
      refine JA.take 7 (listed' := #[true, true, true, true, true, true, true, true, false, false, false, false]) hQ rfl (by kernel_rfl) (by kernel_rfl) (by kernel_rfl) (by kernel_rfl) (by kernel_rfl) hE (HSub.refl _) (.cons_cons _ (.cons_cons _ (List.nil_sublist _))) ?_
      refine JL.extract rfl rfl .none rfl ?_
      refine JA.cont ?_
      refine JA.take 8 (listed' := #[true, true, true, true, true, true, true, true, true, false, false, false]) hQ rfl (by kernel_rfl) (by kernel_rfl) (by kernel_rfl) (by kernel_rfl) (by kernel_rfl) hE (HSub.refl _) (.cons_cons _ (.cons_cons _ (List.nil_sublist _))) ?_
      refine JL.extract rfl rfl .none rfl ?_
      refine JA.cont ?_
      refine JA.many [9] (by kernel_rfl) (by simp) (all_one ⟨_, #[true, true, true, true, true, true, true, true, true, true, false, false], rfl, (by kernel_rfl), ?_⟩)
      refine JL.alloc ze_24 .none rfl ?_
      intro b24
      refine JA.after hE (HSub.refl _) (.cons _ (.cons_cons _ (.cons_cons _ (List.nil_sublist _)))) ?_
      exact nd10_0 _ _ _ _ ⟨b24, rfl, rfl, rfl, rfl, rfl, rfl, (HSub.refl _)⟩
    · skip
      refine JL.alloc ze_24 .none rfl ?_
      intro b25
      refine JA.after hE (HSub.refl _) (.cons _ (.cons_cons _ (.cons_cons _ (List.nil_sublist _)))) ?_
      exact nd10_1 _ _ _ _ ⟨b25, rfl, rfl, rfl, rfl, rfl, rfl, (HSub.refl _)⟩
  · skip
    refine JL.alloc ze_24 .none rfl ?_
    intro b26
    refine JA.after hE (HSub.refl _) (.cons _ (.cons_cons _ (.cons_cons _ (List.nil_sublist _)))) ?_
    refine JA.many [3] (by kernel_rfl) (by simp) (all_one ⟨_, #[true, true, true, true, true, false, false, false, false, true, false, false], rfl, (by kernel_rfl), ?_⟩)
    refine JL.callS (c_ref01_distance n H f_ f__v0 hf__0 section_ r y5 hy5) rfl en_60 .none rfl ?_
    refine JA.after hE (HSub.refl _) (.cons _ (.cons_cons _ (.cons_cons _ (List.nil_sublist _)))) ?_
    exact nd10_1 _ _ _ _ ⟨b26, rfl, rfl, rfl, rfl, rfl, rfl, (HSub.refl _)⟩

end Go.Proofs.Ytmgnhaibbeinbaa
