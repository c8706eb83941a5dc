/-
  Printed by a program: functions of the translation as plain functions, and their contracts.
-/
import Derived.Test.YtmgnhaibbeinbaaGenK1
namespace Go.Proofs.Ytmgnhaibbeinbaa
open Go Go.RowKit Go.Dec
set_option linter.unusedVariables false
-- 18 ferrule/frames.Cosine
def F_frames_Cosine_s1 (n : Nat) (y6 : Int) : (Int × Int × Int × Int) → frames_sides → Option ((Int × Int × Int × Int) ⊕ Unit)
  | (z_82, z_83, z_84, z_85), x17 => (F_frames_sides_cosine n x17 y6).bind fun y91 => (if (z_85 == 0) = true then (some true) else ((F_frames_compare n y91 (Frac.mk z_84 z_85)).bind fun y97 => some (decide (y97 < 0))) : Option Bool).bind fun p94 => (if p94 = true then (some (y91.Num, y91.Den)) else (some (z_84, z_85))).bind fun r102 => match r102 with | (z_99, z_100) => (if (z_83 == 0) = true then (some true) else ((F_frames_compare n y91 (Frac.mk z_82 z_83)).bind fun y108 => some (decide (0 < y108))) : Option Bool).bind fun p105 => (if p105 = true then (some (y91.Num, y91.Den)) else (some (z_82, z_83))).bind fun r113 => match r113 with | (z_110, z_111) => some (Sum.inl (z_110, z_111, z_99, z_100))
def F_frames_Cosine (n : Nat) (f_ : Frame) (section_ : Int) (r : Int) : Option (Frac × Frac × Int) :=
  (F_frames_ask n f_ section_ r).bind fun y4 => if (y4 != 0) = true then (some ((Frac.mk 0 0), (Frac.mk 0 0), y4)) else ((F_frames_distance n f_ section_ r).bind fun y6 => if (y6 == 0) = true then (some ((Frac.mk 0 0), (Frac.mk 0 0), 3)) else ((geti f_.Sections section_).bind fun y9 => (F_frames_truths n y9).bind fun y14 => (I_frames_truths_1 n y14 (F_frames_Cosine_s1 n y6) (0, 0, 0, 0)).bind fun r87 => match r87 with | .inl (z_82, z_83, z_84, z_85) => (F_frames_reduced n (Frac.mk z_84 z_85)).bind fun y118 => (F_frames_reduced n (Frac.mk z_82 z_83)).bind fun y119 => some (y118, y119, 0) | .inr _ => none))
set_option maxRecDepth 100000 in
set_option maxHeartbeats 40000000 in
theorem c_frames_Cosine (n : Nat) (H : Hp) (f_ : Frame) (f__v0 : Value) (hf__0 : SL H 7 R_Section f__v0 f_.Sections) (section_ : Int) (r : Int) (y : Frac × Frac × Int) (hF : F_frames_Cosine n f_ section_ r = some y) : SC Try.prog 18 [.agg [f__v0, .int .i64 f_.Low, .int .i64 f_.High, .int .i64 f_.Ease.Num, .int .i64 f_.Ease.Den, .int .i64 f_.Rod, .int .i64 f_.Case].toArray, .int .i64 section_, .int .i64 r] (.tuple [.agg [.int .i64 y.1.Num, .int .i64 y.1.Den].toArray, .agg [.int .i64 y.2.1.Num, .int .i64 y.2.1.Den].toArray, .int .i64 y.2.2].toArray) H := by
  rw [F_frames_Cosine] at hF
  refine SC.ofM (N := 64) Try.func18 rfl rfl rfl fun w => ?_
  refine JC.seq ?_
  refine JC.region (by rfl) ?_
  intro hQ
  refine JL.box (cs := [f__v0, .int .i64 f_.Low, .int .i64 f_.High, .int .i64 f_.Ease.Num, .int .i64 f_.Ease.Den, .int .i64 f_.Rod, .int .i64 f_.Case]) rfl .none rfl ?_
  intro b1
  refine JL.alloc ze_24 .none rfl ?_
  intro b2
  refine JL.alloc ze_24 .none rfl ?_
  intro b3
  refine JL.assign .none rfl ?_
  refine JL.done hQ ?_
  refine JQ.go ?_
  refine JC.seq ?_
  refine JC.seq ?_
  refine JC.region (by rfl) ?_
  intro hQ
  refine JL.loadOwn 2 az_26 rfl rfl rfl .none rfl ?_
  refine JL.move .none rfl ?_
  refine JL.move .none rfl ?_
  obtain ⟨y4, hy4, hF⟩ := bind_some hF
  refine JL.callS (c_frames_ask n H f_ f__v0 hf__0 section_ r y4 hy4) rfl en_56 .none rfl ?_
  refine JL.assign .none rfl ?_
  refine JL.done hQ ?_
  refine JQ.go ?_
  refine JC.seq ?_
  refine JC.region (by rfl) ?_
  intro hQ
  refine JL.move .none rfl ?_
  refine JL.bin rfl rfl rfl .none rfl ?_
  refine JL.done hQ ?_
  refine JQ.go ?_
  rcases ite_some hF with ⟨hc5, hF⟩ | ⟨hc5, hF⟩
  · refine JC.cond_t (b := (y4 != 0)) rfl hc5 ?_
    refine JC.seq ?_
    refine JC.region (by rfl) ?_
    intro hQ
    refine JL.build (l := [.int .i64 0, .int .i64 0]) (by kernel_rfl) .none rfl ?_
    refine JL.build (l := [.int .i64 0, .int .i64 0]) (by kernel_rfl) .none rfl ?_
    refine JL.move .none rfl ?_
    refine JL.storeOwn 1 (cs := [.int .i64 0, .int .i64 0]) az_24 rfl rfl rfl (one_cons rfl (one_cons rfl one_nil)) rfl rfl .none ?_
    refine JL.storeOwn 0 (cs := [.int .i64 0, .int .i64 0]) az_24 rfl rfl rfl (one_cons rfl (one_cons rfl one_nil)) rfl rfl .none ?_
    refine JL.assign .none rfl ?_
    refine JL.done hQ ?_
    refine JQ.go ?_
    refine JC.fresh (fun f => f 6 = .pointer (some ⟨b2, 0, none⟩) ∧ f 7 = .pointer (some ⟨b3, 0, none⟩) ∧ f 8 = .int .i64 y4) ⟨rfl, rfl, rfl⟩ ?_
    rintro f ⟨hf6, hf7, hf8⟩
    refine (JC.norm (i := 6) hf6 (JC.norm (i := 7) hf7 (JC.norm (i := 8) hf8 ?_)))
    refine JC.ret ?_
    refine JQ.ret_then ?_
    obtain rfl := Option.some.inj hF
    exact JQ.outSM rfl .nil (.cell 1 az_24 rfl rfl rfl (.cell 0 az_24 rfl rfl rfl (.tmp .nil))) rfl
  · refine JC.cond_f (b := (y4 != 0)) rfl hc5 ?_
    refine JC.skip ?_
    refine JQ.go ?_
    refine JC.fresh (fun f => f 1 = .int .i64 section_ ∧ f 2 = .int .i64 r ∧ f 3 = .pointer (some ⟨b1, 0, none⟩) ∧ f 6 = .pointer (some ⟨b2, 0, none⟩) ∧ f 7 = .pointer (some ⟨b3, 0, none⟩) ∧ f 8 = .int .i64 0) ⟨rfl, rfl, rfl, rfl, rfl, rfl⟩ ?_
    rintro f ⟨hf1, hf2, hf3, hf6, hf7, hf8⟩
    refine (JC.norm (i := 1) hf1 (JC.norm (i := 2) hf2 (JC.norm (i := 3) hf3 (JC.norm (i := 6) hf6 (JC.norm (i := 7) hf7 (JC.norm (i := 8) hf8 ?_))))))
    refine JC.seq ?_
    refine JC.region (by rfl) ?_
    intro hQ
    refine JL.loadOwn 2 az_26 rfl rfl rfl .none rfl ?_
    refine JL.move .none rfl ?_
    refine JL.move .none rfl ?_
    obtain ⟨y6, hy6, hF⟩ := bind_some hF
    refine JL.callS (c_frames_distance n H f_ f__v0 hf__0 section_ r y6 hy6) rfl en_57 .none rfl ?_
    refine JL.alloc ze_3 .none rfl ?_
    intro b7
    refine JL.storeOwn 0 (cs := [.int .i64 y6]) az_3 rfl rfl rfl (one_cons rfl one_nil) rfl rfl .none ?_
    refine JL.done hQ ?_
    refine JQ.go ?_
    refine JC.seq ?_
    refine JC.seq ?_
    refine JC.region (by rfl) ?_
    intro hQ
    refine JL.loadOwn 0 az_3 rfl rfl rfl .none rfl ?_
    refine JL.bin rfl rfl rfl .none rfl ?_
    refine JL.done hQ ?_
    refine JQ.go ?_
    rcases ite_some hF with ⟨hc8, hF⟩ | ⟨hc8, hF⟩
    · refine JC.cond_t (b := (y6 == 0)) rfl hc8 ?_
      refine JC.seq ?_
      refine JC.region (by rfl) ?_
      intro hQ
      refine JL.build (l := [.int .i64 0, .int .i64 0]) (by kernel_rfl) .none rfl ?_
      refine JL.build (l := [.int .i64 0, .int .i64 0]) (by kernel_rfl) .none rfl ?_
      refine JL.storeOwn 2 (cs := [.int .i64 0, .int .i64 0]) az_24 rfl rfl rfl (one_cons rfl (one_cons rfl one_nil)) rfl rfl .none ?_
      refine JL.storeOwn 1 (cs := [.int .i64 0, .int .i64 0]) az_24 rfl rfl rfl (one_cons rfl (one_cons rfl one_nil)) rfl rfl .none ?_
      refine JL.assign .none rfl ?_
      refine JL.done hQ ?_
      refine JQ.go ?_
      refine JC.fresh (fun f => f 6 = .pointer (some ⟨b2, 0, none⟩) ∧ f 7 = .pointer (some ⟨b3, 0, none⟩) ∧ f 8 = .int .i64 3) ⟨rfl, rfl, rfl⟩ ?_
      rintro f ⟨hf6, hf7, hf8⟩
      refine (JC.norm (i := 6) hf6 (JC.norm (i := 7) hf7 (JC.norm (i := 8) hf8 ?_)))
      refine JC.ret ?_
      refine JQ.ret_then ?_
      obtain rfl := Option.some.inj hF
      exact JQ.outSM rfl .nil (.cell 2 az_24 rfl rfl rfl (.cell 1 az_24 rfl rfl rfl (.tmp .nil))) rfl
    · refine JC.cond_f (b := (y6 == 0)) rfl hc8 ?_
      refine JC.skip ?_
      refine JQ.go ?_
      refine JC.seq ?_
      refine JC.seq ?_
      refine JC.region (by rfl) ?_
      intro hQ
      refine JL.fieldAddr fo_26_0 rfl .none rfl ?_
      refine JL.loadOwn 3 az_22 rfl rfl rfl .none rfl ?_
      refine JL.move .none rfl ?_
      obtain ⟨y9, hy9, hF⟩ := bind_some hF
      refine JL.indexSL (R := R_Section) sl_22 hf__0 rfl hy9 .none rfl ?_
      rintro b10 o11 cs12 hc13 - rfl
      refine JL.loadH 0 az_61 rfl hc13 rfl .none rfl ?_
      obtain ⟨y14, hy14, hF⟩ := bind_some hF
      refine JL.callH (c_frames_truths n H y9 y14 hy14) rfl en_61 .none rfl ?_
      rintro H15 vv16 hs15 ⟨y14_b0, rfl, hy14_b0⟩
      refine JL.done hQ ?_
      refine JQ.go ?_
      refine JC.fresh (fun f => f 6 = .pointer (some ⟨b2, 0, none⟩) ∧ f 7 = .pointer (some ⟨b3, 0, none⟩) ∧ f 8 = .int .i64 0 ∧ f 10 = .pointer (some ⟨b7, 0, none⟩) ∧ f 35 = .func (.func 75) #[] [.pointer (some ⟨y14_b0, 0, none⟩)].toArray) ⟨rfl, rfl, rfl, rfl, rfl⟩ ?_
      rintro f ⟨hf6, hf7, hf8, hf10, hf35⟩
      refine (JC.norm (i := 6) hf6 (JC.norm (i := 7) hf7 (JC.norm (i := 8) hf8 (JC.norm (i := 10) hf10 (JC.norm (i := 35) hf35 ?_)))))
      refine JC.block ?_
      obtain ⟨r87, hl88, hF⟩ := bind_some hF
      refine JC.mask [true, true, true, false] [] ?_
      refine JC.rangeFunc (ρ := Unit) (V := (VPlain fun (x : frames_sides) => .agg [.int .i64 x.arm, .int .i64 x.stretch].toArray)) (F := fun _ _ step s => I_frames_truths_1 n y14 step s) rfl en_75 (it_frames_truths_1 n H15 y14 y14_b0 hy14_b0) rfl hl88 (fun (z : Int × Int × Int × Int) H86 fr gs => match z with | (z_82, z_83, z_84, z_85) => fr = [(b7, .cells [.int .i64 y6].toArray 3), (b3, .cells [.int .i64 z_82, .int .i64 z_83].toArray 24), (b2, .cells [.int .i64 z_84, .int .i64 z_85].toArray 24)] ∧ gs = [] ∧ HSub H15 H86) (fun _ _ _ _ _ => False) ⟨rfl, rfl, (HSub.refl _)⟩ ?_ ?_ ?_
      · rintro l18 ⟨z_82, z_83, z_84, z_85⟩ x17 y89 v19 own T20 H86 fr gs ⟨rfl, rfl, hs86⟩ hF ⟨rfl, rfl⟩ -
        rw [F_frames_Cosine_s1] at hF
        refine JC.region (by rfl) ?_
        intro hQ
        refine JL.alloc ze_82 .none rfl ?_
        intro b90
        refine JL.storeOwn 0 (cs := [.int .i64 x17.arm, .int .i64 x17.stretch]) az_82 rfl rfl rfl (one_cons rfl (one_cons rfl one_nil)) rfl rfl .none ?_
        refine JL.done hQ ?_
        refine JQ.assigned [(b90, .cells [.int .i64 x17.arm, .int .i64 x17.stretch].toArray 82), (b7, .cells [.int .i64 y6].toArray 3), (b3, .cells [.int .i64 z_82, .int .i64 z_83].toArray 24), (b2, .cells [.int .i64 z_84, .int .i64 z_85].toArray 24)] (fun T21 => ?_)
        refine JC.block ?_
        refine JC.seq ?_
        refine JC.region (by rfl) ?_
        intro hQ
        refine JL.loadOwn 0 az_82 rfl rfl rfl .none rfl ?_
        refine JL.loadOwn 1 az_3 rfl rfl rfl .none rfl ?_
        obtain ⟨y91, hy91, hF⟩ := bind_some hF
        refine JL.callS (c_frames_sides_cosine n H86 x17 y6 y91 hy91) rfl en_62 .none rfl ?_
        refine JL.alloc ze_24 .none rfl ?_
        intro b92
        refine JL.storeOwn 0 (cs := [.int .i64 y91.Num, .int .i64 y91.Den]) az_24 rfl rfl rfl (one_cons rfl (one_cons rfl one_nil)) rfl rfl .none ?_
        refine JL.done hQ ?_
        refine JQ.go ?_
        refine JC.seq ?_
        refine JC.seq ?_
        refine JC.region (by rfl) ?_
        intro hQ
        refine JL.fieldAddr fo_24_1 rfl .none rfl ?_
        refine JL.loadOwn 4 az_3 rfl rfl rfl .none rfl ?_
        refine JL.bin rfl rfl rfl .none rfl ?_
        refine JL.move .none rfl ?_
        obtain ⟨p94, hp94, hF⟩ := bind_some hF
        refine JL.cut 5 (fun f => f 6 = .pointer (some ⟨b2, 0, none⟩) ∧ f 7 = .pointer (some ⟨b3, 0, none⟩) ∧ f 12 = .pointer (some ⟨b92, 0, none⟩) ∧ f 48 = .bool p94) ?_ ?_
        · intro hJ95
          rcases ite_some hp94 with ⟨hc96, hF⟩ | ⟨hc96, hF⟩
          · skip
            refine JL.skip (.bool rfl rfl rfl hc96) rfl ?_
            refine JL.skip (.bool rfl rfl rfl hc96) rfl ?_
            refine JL.skip (.bool rfl rfl rfl hc96) rfl ?_
            refine JL.skip (.bool rfl rfl rfl hc96) rfl ?_
            refine JL.pick_t (b := (z_85 == 0)) rfl hc96 .none rfl ?_
            obtain rfl := Option.some.inj hF
            exact hJ95 _ ⟨rfl, rfl, rfl, rfl⟩
          · skip
            refine JL.loadOwn 0 az_24 rfl rfl rfl (.some rfl rfl rfl hc96) rfl ?_
            refine JL.loadOwn 4 az_24 rfl rfl rfl (.some rfl rfl rfl hc96) rfl ?_
            obtain ⟨y97, hy97, hF⟩ := bind_some hF
            refine JL.callS (c_frames_compare n H86 y91 (Frac.mk z_84 z_85) y97 hy97) rfl en_63 (.some rfl rfl rfl hc96) rfl ?_
            refine JL.bin rfl rfl rfl (.some rfl rfl rfl hc96) rfl ?_
            refine JL.pick_f (b := (z_85 == 0)) rfl hc96 .none rfl ?_
            obtain rfl := Option.some.inj hF
            exact hJ95 _ ⟨rfl, rfl, rfl, rfl⟩
        · rintro f ⟨hf6, hf7, hf12, hf48⟩
          refine (JL.norm (i := 6) hf6 (JL.norm (i := 7) hf7 (JL.norm (i := 12) hf12 (JL.norm (i := 48) hf48 ?_))))
          refine JL.done hQ ?_
          refine JQ.go ?_
          obtain ⟨r102, hlr102, hKr102⟩ := bind_some hF
          refine JC.join (fun (x : Int × Int) H101 f bs gs => match x with | (z_99, z_100) => f 7 = .pointer (some ⟨b3, 0, none⟩) ∧ f 12 = .pointer (some ⟨b92, 0, none⟩) ∧ bs = ((b92, .cells [.int .i64 y91.Num, .int .i64 y91.Den].toArray 24) :: (b7, .cells [.int .i64 y6].toArray 3) :: (b3, .cells [.int .i64 z_82, .int .i64 z_83].toArray 24) :: (b2, .cells [.int .i64 z_99, .int .i64 z_100].toArray 24) :: T21) ∧ gs = [] ∧ HSub H86 H101 ∧ (z_99, z_100) = r102) ?_ ?_
          · have hF := hlr102
            rcases ite_some hF with ⟨hc103, hF⟩ | ⟨hc103, hF⟩
            · refine JC.cond_t (b := p94) rfl hc103 ?_
              refine JC.region (by rfl) ?_
              intro hQ
              refine JL.loadOwn 0 az_24 rfl rfl rfl .none rfl ?_
              refine JL.storeOwn 4 (cs := [.int .i64 y91.Num, .int .i64 y91.Den]) az_24 rfl rfl rfl (one_cons rfl (one_cons rfl one_nil)) rfl rfl .none ?_
              refine JL.done hQ ?_
              obtain rfl := Option.some.inj hF
              refine JQ.mask [true, false, true, true, true] [] ?_
              exact JQ.join (y91.Num, y91.Den) ⟨rfl, rfl, rfl, rfl, (HSub.refl _), rfl⟩
            · refine JC.cond_f (b := p94) rfl hc103 ?_
              refine JC.skip ?_
              obtain rfl := Option.some.inj hF
              refine JQ.mask [true, false, true, true, true] [] ?_
              exact JQ.join (z_84, z_85) ⟨rfl, rfl, rfl, rfl, (HSub.refl _), rfl⟩
          · rintro ⟨z_99, z_100⟩ H101 f bs gs ⟨hf7, hf12, rfl, rfl, hs101, rfl⟩
            have hF := hKr102
            try dsimp only at hF
            refine (JQ.norm (i := 7) hf7 (JQ.norm (i := 12) hf12 ?_))
            refine JQ.go ?_
            refine JC.seq ?_
            refine JC.region (by rfl) ?_
            intro hQ
            refine JL.fieldAddr fo_24_1 rfl .none rfl ?_
            refine JL.loadOwn 2 az_3 rfl rfl rfl .none rfl ?_
            refine JL.bin rfl rfl rfl .none rfl ?_
            refine JL.move .none rfl ?_
            obtain ⟨p105, hp105, hF⟩ := bind_some hF
            refine JL.cut 5 (fun f => f 7 = .pointer (some ⟨b3, 0, none⟩) ∧ f 12 = .pointer (some ⟨b92, 0, none⟩) ∧ f 58 = .bool p105) ?_ ?_
            · intro hJ106
              rcases ite_some hp105 with ⟨hc107, hF⟩ | ⟨hc107, hF⟩
              · skip
                refine JL.skip (.bool rfl rfl rfl hc107) rfl ?_
                refine JL.skip (.bool rfl rfl rfl hc107) rfl ?_
                refine JL.skip (.bool rfl rfl rfl hc107) rfl ?_
                refine JL.skip (.bool rfl rfl rfl hc107) rfl ?_
                refine JL.pick_t (b := (z_83 == 0)) rfl hc107 .none rfl ?_
                obtain rfl := Option.some.inj hF
                exact hJ106 _ ⟨rfl, rfl, rfl⟩
              · skip
                refine JL.loadOwn 0 az_24 rfl rfl rfl (.some rfl rfl rfl hc107) rfl ?_
                refine JL.loadOwn 2 az_24 rfl rfl rfl (.some rfl rfl rfl hc107) rfl ?_
                obtain ⟨y108, hy108, hF⟩ := bind_some hF
                refine JL.callS (c_frames_compare n H101 y91 (Frac.mk z_82 z_83) y108 hy108) rfl en_63 (.some rfl rfl rfl hc107) rfl ?_
                refine JL.bin rfl rfl rfl (.some rfl rfl rfl hc107) rfl ?_
                refine JL.pick_f (b := (z_83 == 0)) rfl hc107 .none rfl ?_
                obtain rfl := Option.some.inj hF
                exact hJ106 _ ⟨rfl, rfl, rfl⟩
            · rintro f ⟨hf7, hf12, hf58⟩
              refine (JL.norm (i := 7) hf7 (JL.norm (i := 12) hf12 (JL.norm (i := 58) hf58 ?_)))
              refine JL.done hQ ?_
              refine JQ.go ?_
              obtain ⟨r113, hlr113, hKr113⟩ := bind_some hF
              refine JC.join (fun (x : Int × Int) H112 f bs gs => match x with | (z_110, z_111) => bs = ((b7, .cells [.int .i64 y6].toArray 3) :: (b3, .cells [.int .i64 z_110, .int .i64 z_111].toArray 24) :: (b2, .cells [.int .i64 z_99, .int .i64 z_100].toArray 24) :: T21) ∧ gs = [] ∧ HSub H101 H112 ∧ (z_110, z_111) = r113) ?_ ?_
              · have hF := hlr113
                rcases ite_some hF with ⟨hc114, hF⟩ | ⟨hc114, hF⟩
                · refine JC.cond_t (b := p105) rfl hc114 ?_
                  refine JC.region (by rfl) ?_
                  intro hQ
                  refine JL.loadOwn 0 az_24 rfl rfl rfl .none rfl ?_
                  refine JL.storeOwn 2 (cs := [.int .i64 y91.Num, .int .i64 y91.Den]) az_24 rfl rfl rfl (one_cons rfl (one_cons rfl one_nil)) rfl rfl .none ?_
                  refine JL.done hQ ?_
                  obtain rfl := Option.some.inj hF
                  refine JQ.mask [false, true, true, true] [] ?_
                  exact JQ.join (y91.Num, y91.Den) ⟨rfl, rfl, (HSub.refl _), rfl⟩
                · refine JC.cond_f (b := p105) rfl hc114 ?_
                  refine JC.skip ?_
                  obtain rfl := Option.some.inj hF
                  refine JQ.mask [false, true, true, true] [] ?_
                  exact JQ.join (z_82, z_83) ⟨rfl, rfl, (HSub.refl _), rfl⟩
              · rintro ⟨z_110, z_111⟩ H112 f bs gs ⟨rfl, rfl, hs112, rfl⟩
                have hF := hKr113
                try dsimp only at hF
                refine JQ.normal_block ?_
                obtain rfl := Option.some.inj hF
                refine JQ.round rfl [(b7, .cells [.int .i64 y6].toArray 3), (b3, .cells [.int .i64 z_110, .int .i64 z_111].toArray 24), (b2, .cells [.int .i64 z_99, .int .i64 z_100].toArray 24)] (HSub.trans hs101 hs112) ?_
                exact ⟨rfl, rfl, (HSub.trans hs86 (HSub.trans hs101 hs112))⟩
      · rintro D115 ⟨z_82, z_83, z_84, z_85⟩ H86 fr gs rfl ⟨rfl, rfl, hs86⟩ -
        try dsimp only at hF
        refine JQ.normal_block ?_
        refine JQ.go ?_
        refine JC.seq ?_
        obtain ⟨y118, hy118, hF⟩ := bind_some hF
        obtain ⟨y119, hy119, hF⟩ := bind_some hF
        refine JC.mixed 4 7 #[false, false, false, false, false, false, false] [(b7, .cells [.int .i64 y6].toArray 3), (b3, .cells [.int .i64 z_82, .int .i64 z_83].toArray 24), (b2, .cells [.int .i64 z_84, .int .i64 z_85].toArray 24), (D115, .deferred (some []))] (by rfl) mo_ (by kernel_rfl) (by kernel_rfl) ?_
        intro hQ hE
        refine JA.cut 4 #[true, true, true, false, false, false, false] (fun H120 f bs gs => f 6 = .pointer (some ⟨b2, 0, none⟩) ∧ f 7 = .pointer (some ⟨b3, 0, none⟩) ∧ f 8 = .int .i64 0 ∧ f 61 = .agg [.int .i64 y118.Num, .int .i64 y118.Den].toArray ∧ f 62 = .agg [.int .i64 z_82, .int .i64 z_83].toArray ∧ bs = [(b7, .cells [.int .i64 y6].toArray 3), (b3, .cells [.int .i64 z_82, .int .i64 z_83].toArray 24), (b2, .cells [.int .i64 z_84, .int .i64 z_85].toArray 24), (D115, .deferred (some []))] ∧ gs = [] ∧ HSub H86 H120) ?_ ?_
        · rintro H120 f bs gs ⟨hf6, hf7, hf8, hf61, hf62, rfl, rfl, hs120⟩
          refine (JA.norm (i := 6) hf6 (JA.norm (i := 7) hf7 (JA.norm (i := 8) hf8 (JA.norm (i := 61) hf61 (JA.norm (i := 62) hf62 ?_)))))
          refine JA.many [3] (by kernel_rfl) (by simp) (all_one ⟨_, #[true, true, true, true, false, false, false], rfl, (by kernel_rfl), ?_⟩)
          refine JL.callS (c_frames_reduced n H120 (Frac.mk z_82 z_83) y119 hy119) rfl en_64 .none rfl ?_
          refine JA.after hE hs120 (.cons_cons _ (.cons_cons _ (.cons_cons _ (.cons_cons _ (List.nil_sublist _))))) ?_
          refine JA.many [4] (by kernel_rfl) (by simp) (all_one ⟨_, #[true, true, true, true, true, false, false], rfl, (by kernel_rfl), ?_⟩)
          refine JL.storeOwn 2 (cs := [.int .i64 y118.Num, .int .i64 y118.Den]) az_24 rfl rfl rfl (one_cons rfl (one_cons rfl one_nil)) rfl rfl .none ?_
          refine JA.sink (by kernel_rfl) ?_
          refine JA.many [5] (by kernel_rfl) (by simp) (all_one ⟨_, #[true, true, true, true, true, true, false], rfl, (by kernel_rfl), ?_⟩)
          refine JL.storeOwn 1 (cs := [.int .i64 y119.Num, .int .i64 y119.Den]) az_24 rfl rfl rfl (one_cons rfl (one_cons rfl one_nil)) rfl rfl .none ?_
          refine JA.sink (by kernel_rfl) ?_
          refine JA.many [6] (by kernel_rfl) (by simp) (all_one ⟨_, #[true, true, true, true, true, true, true], rfl, (by kernel_rfl), ?_⟩)
          refine JL.assign .none rfl ?_
          refine JA.sink (by kernel_rfl) ?_
          refine JA.done hQ (by kernel_rfl) ?_
          refine JQ.go ?_
          refine JC.ret ?_
          obtain rfl := Option.some.inj hF
          exact JQ.outSM rfl (.cons 3 rfl .nil) (.cell 2 az_24 rfl rfl rfl (.cell 1 az_24 rfl rfl rfl (.tmp .nil))) rfl
        intro nd119_0
        refine JA.take 0 (listed' := #[true, false, false, false, false, false, false]) hQ rfl (by kernel_rfl) (by kernel_rfl) (by kernel_rfl) (by kernel_rfl) (by kernel_rfl) hE (HSub.refl _) (.cons_cons _ (.cons_cons _ (.cons_cons _ (.cons_cons _ (List.nil_sublist _))))) ?_
        refine JL.loadOwn 2 az_24 rfl rfl rfl .none rfl ?_
        refine JA.cont ?_
        refine JA.many [1, 2] (by kernel_rfl) (by simp) (all_cons ⟨_, #[true, true, false, false, false, false, false], rfl, (by kernel_rfl), ?_⟩ (all_one ⟨_, #[true, false, true, false, false, false, false], rfl, (by kernel_rfl), ?_⟩))
        · skip
          refine JL.callS (c_frames_reduced n H86 (Frac.mk z_84 z_85) y118 hy118) rfl en_64 .none rfl ?_
          refine JA.after hE (HSub.refl _) (.cons_cons _ (.cons_cons _ (.cons_cons _ (.cons_cons _ (List.nil_sublist _))))) ?_
          refine JA.many [2] (by kernel_rfl) (by simp) (all_one ⟨_, #[true, true, true, false, false, false, false], rfl, (by kernel_rfl), ?_⟩)
          refine JL.loadOwn 1 az_24 rfl rfl rfl .none rfl ?_
          refine JA.after hE (HSub.refl _) (.cons_cons _ (.cons_cons _ (.cons_cons _ (.cons_cons _ (List.nil_sublist _))))) ?_
          exact nd119_0 _ _ _ _ ⟨rfl, rfl, rfl, rfl, rfl, rfl, rfl, (HSub.refl _)⟩
        · skip
          refine JL.loadOwn 1 az_24 rfl rfl rfl .none rfl ?_
          refine JA.after hE (HSub.refl _) (.cons_cons _ (.cons_cons _ (.cons_cons _ (.cons_cons _ (List.nil_sublist _))))) ?_
          refine JA.many [1] (by kernel_rfl) (by simp) (all_one ⟨_, #[true, true, true, false, false, false, false], rfl, (by kernel_rfl), ?_⟩)
          refine JL.callS (c_frames_reduced n H86 (Frac.mk z_84 z_85) y118 hy118) rfl en_64 .none rfl ?_
          refine JA.after hE (HSub.refl _) (.cons_cons _ (.cons_cons _ (.cons_cons _ (.cons_cons _ (List.nil_sublist _))))) ?_
          exact nd119_0 _ _ _ _ ⟨rfl, rfl, rfl, rfl, rfl, rfl, rfl, (HSub.refl _)⟩
      · rintro _ _ _ _ _ _ _ h; exact h.elim

-- 69 ferrule/frames.positions
def F_frames_positions (n : Nat) (f_ : Frame) : Option Frame :=
  some f_
set_option maxRecDepth 100000 in
set_option maxHeartbeats 40000000 in
theorem c_frames_positions (n : Nat) (H : Hp) (f_ : Frame) (f__v0 : Value) (hf__0 : SL H 7 R_Section f__v0 f_.Sections) (y : Frame) (hF : F_frames_positions n f_ = some y) : HC Try.prog 69 [.agg [f__v0, .int .i64 f_.Low, .int .i64 f_.High, .int .i64 f_.Ease.Num, .int .i64 f_.Ease.Den, .int .i64 f_.Rod, .int .i64 f_.Case].toArray] H (fun H' v => ∃ b0_ : Nat, ∃ z0_v0 : Value, v = .func (.func 79) #[] [.pointer (some ⟨b0_, 0, none⟩)].toArray ∧ Cells H' b0_ 0 [z0_v0, .int .i64 y.Low, .int .i64 y.High, .int .i64 y.Ease.Num, .int .i64 y.Ease.Den, .int .i64 y.Rod, .int .i64 y.Case] ∧ SL H' 7 R_Section z0_v0 y.Sections) := by
  rw [F_frames_positions] at hF
  refine HC.of (N := 4) Try.func69 rfl rfl rfl fun w => ?_
  refine JC.seq ?_
  refine JC.region (by rfl) ?_
  intro hQ
  refine JL.box (cs := [f__v0, .int .i64 f_.Low, .int .i64 f_.High, .int .i64 f_.Ease.Num, .int .i64 f_.Ease.Den, .int .i64 f_.Rod, .int .i64 f_.Case]) rfl .none rfl ?_
  intro b1
  refine JL.assign .none rfl ?_
  refine JL.done hQ ?_
  refine JQ.go ?_
  refine JC.seq ?_
  refine JC.region (by rfl) ?_
  intro hQ
  refine JL.makeFunc .none rfl ?_
  refine JL.assign .none rfl ?_
  refine JL.done hQ ?_
  refine JQ.go ?_
  refine JC.ret ?_
  refine JQ.freezeC 0 (l := [f__v0, .int .i64 f_.Low, .int .i64 f_.High, .int .i64 f_.Ease.Num, .int .i64 f_.Ease.Den, .int .i64 f_.Rod, .int .i64 f_.Case]) rfl ?_
  intro H2 hs2 hc3
  obtain rfl := Option.some.inj hF
  exact JQ.outH rfl (.tmp .nil) ⟨b1, f__v0, rfl, hc3, (SL.mono R_Section_mono hs2 hf__0)⟩

-- 78 (ferrule/frames.sides).binds
def F_frames_sides_binds (n : Nat) (x_ : frames_sides) (d : Int) (ease : Frac) : Option Bool :=
  if (d == 0) = true then (some true) else ((F_frames_sides_cosine n x_ d).bind fun y4 => (F_frames_compare n y4 (Frac.mk (w64 (ease.Den - ease.Num)) ease.Den)).bind fun y7 => (if decide (0 ≤ y7) = true then (some true) else ((F_frames_compare n y4 (Frac.mk (w64 (-(w64 (ease.Den - ease.Num)))) ease.Den)).bind fun y12 => some (decide (y12 ≤ 0))) : Option Bool).bind fun p9 => some p9)
set_option maxRecDepth 100000 in
set_option maxHeartbeats 40000000 in
theorem c_frames_sides_binds (n : Nat) (H : Hp) (x_ : frames_sides) (d : Int) (ease : Frac) (y : Bool) (hF : F_frames_sides_binds n x_ d ease = some y) : SC Try.prog 78 [.agg [.int .i64 x_.arm, .int .i64 x_.stretch].toArray, .int .i64 d, .agg [.int .i64 ease.Num, .int .i64 ease.Den].toArray] (.bool y) H := by
  rw [F_frames_sides_binds] at hF
  refine SC.of (N := 37) Try.func78 rfl rfl rfl fun w => ?_
  refine JC.seq ?_
  refine JC.region (by rfl) ?_
  intro hQ
  refine JL.box (cs := [.int .i64 x_.arm, .int .i64 x_.stretch]) rfl .none rfl ?_
  intro b1
  refine JL.box (cs := [.int .i64 ease.Num, .int .i64 ease.Den]) rfl .none rfl ?_
  intro b2
  refine JL.assign .none rfl ?_
  refine JL.done hQ ?_
  refine JQ.go ?_
  refine JC.seq ?_
  refine JC.seq ?_
  refine JC.region (by rfl) ?_
  intro hQ
  refine JL.move .none rfl ?_
  refine JL.bin rfl rfl rfl .none rfl ?_
  refine JL.done hQ ?_
  refine JQ.go ?_
  rcases ite_some hF with ⟨hc3, hF⟩ | ⟨hc3, hF⟩
  · refine JC.cond_t (b := (d == 0)) rfl hc3 ?_
    refine JC.seq ?_
    refine JC.region (by rfl) ?_
    intro hQ
    refine JL.assign .none rfl ?_
    refine JL.done hQ ?_
    refine JQ.go ?_
    refine JC.ret ?_
    refine JQ.ret_then ?_
    obtain rfl := Option.some.inj hF
    exact JQ.outS rfl (.tmp .nil) rfl
  · refine JC.cond_f (b := (d == 0)) rfl hc3 ?_
    refine JC.skip ?_
    refine JQ.go ?_
    refine JC.seq ?_
    refine JC.region (by rfl) ?_
    intro hQ
    refine JL.loadOwn 1 az_82 rfl rfl rfl .none rfl ?_
    refine JL.move .none rfl ?_
    obtain ⟨y4, hy4, hF⟩ := bind_some hF
    refine JL.callS (c_frames_sides_cosine n H x_ d y4 hy4) rfl en_62 .none rfl ?_
    refine JL.alloc ze_24 .none rfl ?_
    intro b5
    refine JL.storeOwn 0 (cs := [.int .i64 y4.Num, .int .i64 y4.Den]) az_24 rfl rfl rfl (one_cons rfl (one_cons rfl one_nil)) rfl rfl .none ?_
    refine JL.done hQ ?_
    refine JQ.go ?_
    refine JC.seq ?_
    refine JC.region (by rfl) ?_
    intro hQ
    refine JL.fieldAddr fo_24_1 rfl .none rfl ?_
    refine JL.loadOwn 1 az_3 rfl rfl rfl .none rfl ?_
    refine JL.fieldAddr fo_24_0 rfl .none rfl ?_
    refine JL.loadOwn 1 az_3 rfl rfl rfl .none rfl ?_
    refine JL.bin rfl rfl rfl .none rfl ?_
    refine JL.fieldAddr fo_24_1 rfl .none rfl ?_
    refine JL.loadOwn 1 az_3 rfl rfl rfl .none rfl ?_
    refine JL.build (l := [.int .i64 (w64 (ease.Den - ease.Num)), .int .i64 ease.Den]) (by kernel_rfl) .none rfl ?_
    refine JL.alloc ze_24 .none rfl ?_
    intro b6
    refine JL.storeOwn 0 (cs := [.int .i64 (w64 (ease.Den - ease.Num)), .int .i64 ease.Den]) az_24 rfl rfl rfl (one_cons rfl (one_cons rfl one_nil)) rfl rfl .none ?_
    refine JL.done hQ ?_
    refine JQ.go ?_
    refine JC.fresh (fun f => f 6 = .bool false ∧ f 7 = .pointer (some ⟨b5, 0, none⟩) ∧ f 8 = .pointer (some ⟨b6, 0, none⟩)) ⟨rfl, rfl, rfl⟩ ?_
    rintro f ⟨hf6, hf7, hf8⟩
    refine (JC.norm (i := 6) hf6 (JC.norm (i := 7) hf7 (JC.norm (i := 8) hf8 ?_)))
    refine JC.seq ?_
    refine JC.region (by rfl) ?_
    intro hQ
    refine JL.loadOwn 1 az_24 rfl rfl rfl .none rfl ?_
    refine JL.loadOwn 0 az_24 rfl rfl rfl .none rfl ?_
    obtain ⟨y7, hy7, hF⟩ := bind_some hF
    refine JL.callS (c_frames_compare n H y4 (Frac.mk (w64 (ease.Den - ease.Num)) ease.Den) y7 hy7) rfl en_63 .none rfl ?_
    refine JL.bin rfl rfl rfl .none rfl ?_
    refine JL.move .none rfl ?_
    obtain ⟨p9, hp9, hF⟩ := bind_some hF
    refine JL.cut 10 (fun f => f 36 = .bool p9) ?_ ?_
    · intro hJ10
      rcases ite_some hp9 with ⟨hc11, hF⟩ | ⟨hc11, hF⟩
      · skip
        refine JL.skip (.bool rfl rfl rfl hc11) rfl ?_
        refine JL.skip (.bool rfl rfl rfl hc11) rfl ?_
        refine JL.skip (.bool rfl rfl rfl hc11) rfl ?_
        refine JL.skip (.bool rfl rfl rfl hc11) rfl ?_
        refine JL.skip (.bool rfl rfl rfl hc11) rfl ?_
        refine JL.skip (.bool rfl rfl rfl hc11) rfl ?_
        refine JL.skip (.bool rfl rfl rfl hc11) rfl ?_
        refine JL.skip (.bool rfl rfl rfl hc11) rfl ?_
        refine JL.skip (.bool rfl rfl rfl hc11) rfl ?_
        refine JL.pick_t (b := decide (0 ≤ y7)) rfl hc11 .none rfl ?_
        obtain rfl := Option.some.inj hF
        exact hJ10 _ (rfl)
      · skip
        refine JL.loadOwn 1 az_24 rfl rfl rfl (.some rfl rfl rfl hc11) rfl ?_
        refine JL.fieldAddr fo_24_0 rfl (.some rfl rfl rfl hc11) rfl ?_
        refine JL.loadOwn 0 az_3 rfl rfl rfl (.some rfl rfl rfl hc11) rfl ?_
        refine JL.neg rfl (.some rfl rfl rfl hc11) rfl ?_
        refine JL.fieldAddr fo_24_1 rfl (.some rfl rfl rfl hc11) rfl ?_
        refine JL.loadOwn 0 az_3 rfl rfl rfl (.some rfl rfl rfl hc11) rfl ?_
        refine JL.build (l := [.int .i64 (w64 (-(w64 (ease.Den - ease.Num)))), .int .i64 ease.Den]) (by kernel_rfl) (.some rfl rfl rfl hc11) rfl ?_
        obtain ⟨y12, hy12, hF⟩ := bind_some hF
        refine JL.callS (c_frames_compare n H y4 (Frac.mk (w64 (-(w64 (ease.Den - ease.Num)))) ease.Den) y12 hy12) rfl en_63 (.some rfl rfl rfl hc11) rfl ?_
        refine JL.bin rfl rfl rfl (.some rfl rfl rfl hc11) rfl ?_
        refine JL.pick_f (b := decide (0 ≤ y7)) rfl hc11 .none rfl ?_
        obtain rfl := Option.some.inj hF
        exact hJ10 _ (rfl)
    · rintro f hf36
      refine (JL.norm (i := 36) hf36 ?_)
      refine JL.assign .none rfl ?_
      refine JL.done hQ ?_
      refine JQ.go ?_
      refine JC.ret ?_
      obtain rfl := Option.some.inj hF
      exact JQ.outS rfl (.tmp .nil) rfl

-- 77 ferrule/frames.binds$1
def F_frames_binds_1 (n : Nat) (x_ : frames_sides) (c_0 : Int) (c_1 : Frame) : Option Bool :=
  (F_frames_sides_binds n x_ c_0 c_1.Ease).bind fun y2 => some y2
set_option maxRecDepth 100000 in
set_option maxHeartbeats 40000000 in
theorem c_frames_binds_1 (n : Nat) (H : Hp) (x_ : frames_sides) (c_0 : Int) (c_0_b : Nat) (c_0_c : Cells H c_0_b 0 [.int .i64 c_0]) (c_1 : Frame) (c_1_v0 : Value) (hc_1_0 : SL H 7 R_Section c_1_v0 c_1.Sections) (c_1_b : Nat) (c_1_c : Cells H c_1_b 0 [c_1_v0, .int .i64 c_1.Low, .int .i64 c_1.High, .int .i64 c_1.Ease.Num, .int .i64 c_1.Ease.Den, .int .i64 c_1.Rod, .int .i64 c_1.Case]) (y : Bool) (hF : F_frames_binds_1 n x_ c_0 c_1 = some y) : SC Try.prog 77 [.agg [.int .i64 x_.arm, .int .i64 x_.stretch].toArray, .pointer (some ⟨c_0_b, 0, none⟩), .pointer (some ⟨c_1_b, 0, none⟩)] (.bool y) H := by
  rw [F_frames_binds_1] at hF
  refine SC.of (N := 10) Try.func77 rfl rfl rfl fun w => ?_
  refine JC.seq ?_
  refine JC.region (by rfl) ?_
  intro hQ
  refine JL.box (cs := [.int .i64 x_.arm, .int .i64 x_.stretch]) rfl .none rfl ?_
  intro b1
  refine JL.assign .none rfl ?_
  refine JL.done hQ ?_
  refine JQ.go ?_
  refine JC.seq ?_
  refine JC.region (by rfl) ?_
  intro hQ
  refine JL.loadOwn 0 az_82 rfl rfl rfl .none rfl ?_
  refine JL.loadH 0 az_3 rfl c_0_c rfl .none rfl ?_
  refine JL.fieldAddr fo_26_3 rfl .none rfl ?_
  refine JL.loadH 3 az_24 rfl c_1_c rfl .none rfl ?_
  obtain ⟨y2, hy2, hF⟩ := bind_some hF
  refine JL.callS (c_frames_sides_binds n H x_ c_0 c_1.Ease y2 hy2) rfl en_78 .none rfl ?_
  refine JL.assign .none rfl ?_
  refine JL.done hQ ?_
  refine JQ.go ?_
  refine JC.ret ?_
  obtain rfl := Option.some.inj hF
  exact JQ.outS rfl (.tmp .nil) rfl

-- 71 ferrule/frames.known
def F_frames_known_s1 (n : Nat) (is : frames_sides → Option Bool) : (Int × Int) → frames_sides → Option ((Int × Int) ⊕ Unit)
  | (z_35, z_36), x8 => (is x8).bind fun y42 => (if y42 = true then (some (w64 (z_36 + 1))) else (some z_36)).bind fun z_44 => some (Sum.inl ((w64 (z_35 + 1)), z_44))
def F_frames_known (n : Nat) (s : Section) (is : frames_sides → Option Bool) : Option Int :=
  (F_frames_truths n s).bind fun y5 => (I_frames_truths_1 n y5 (F_frames_known_s1 n is) (0, 0)).bind fun r38 => match r38 with | .inl (z_35, z_36) => if (z_36 == z_35) = true then (some 1) else (if (z_36 == 0) = true then (some 2) else (some 3)) | .inr _ => none
set_option maxRecDepth 100000 in
set_option maxHeartbeats 40000000 in
theorem c_frames_known (n : Nat) (H : Hp) (s : Section) (is : frames_sides → Option Bool) (is_k : Nat) (is_c : List Value) (is_e : Ent Try.prog is_k) (is_h : ∀ H', HSub H H' → ∀ (a0_ : frames_sides) (y : Bool), is a0_ = some y → SC Try.prog is_k ([.agg [.int .i64 a0_.arm, .int .i64 a0_.stretch].toArray] ++ is_c) (.bool y) H') (y : Int) (hF : F_frames_known n s is = some y) : SC Try.prog 71 [.agg [.int .i64 s.Arm.Low, .int .i64 s.Arm.High, .int .i64 s.Stretch.Low, .int .i64 s.Stretch.High, .int .i64 s.Base, .int .i64 s.Gear.Num, .int .i64 s.Gear.Den].toArray, .func (.func is_k) #[] is_c.toArray] (.int .i64 y) H := by
  rw [F_frames_known] at hF
  refine SC.ofM (N := 24) Try.func71 rfl rfl rfl fun w => ?_
  refine JC.seq ?_
  refine JC.region (by rfl) ?_
  intro hQ
  refine JL.box (cs := [.int .i64 s.Arm.Low, .int .i64 s.Arm.High, .int .i64 s.Stretch.Low, .int .i64 s.Stretch.High, .int .i64 s.Base, .int .i64 s.Gear.Num, .int .i64 s.Gear.Den]) rfl .none rfl ?_
  intro b1
  refine JL.box (cs := [.func (.func is_k) #[] is_c.toArray]) rfl .none rfl ?_
  intro b2
  refine JL.assign .none rfl ?_
  refine JL.done hQ ?_
  refine JQ.go ?_
  refine JC.seq ?_
  refine JC.region (by rfl) ?_
  intro hQ
  refine JL.alloc ze_3 .none rfl ?_
  intro b3
  refine JL.alloc ze_3 .none rfl ?_
  intro b4
  refine JL.storeOwn 1 (cs := [.int .i64 0]) az_3 rfl rfl rfl (one_cons rfl one_nil) rfl rfl .none ?_
  refine JL.storeOwn 0 (cs := [.int .i64 0]) az_3 rfl rfl rfl (one_cons rfl one_nil) rfl rfl .none ?_
  refine JL.done hQ ?_
  refine JQ.go ?_
  refine JC.seq ?_
  refine JC.seq ?_
  refine JC.region (by rfl) ?_
  intro hQ
  refine JL.loadOwn 3 az_61 rfl rfl rfl .none rfl ?_
  obtain ⟨y5, hy5, hF⟩ := bind_some hF
  refine JL.callH (c_frames_truths n H s y5 hy5) rfl en_61 .none rfl ?_
  rintro H6 vv7 hs6 ⟨y5_b0, rfl, hy5_b0⟩
  refine JL.done hQ ?_
  refine JQ.go ?_
  refine JC.block ?_
  obtain ⟨r38, hl39, hF⟩ := bind_some hF
  refine JC.mask [true, true, true, false] [] ?_
  refine JC.rangeFunc (ρ := Unit) (V := (VPlain fun (x : frames_sides) => .agg [.int .i64 x.arm, .int .i64 x.stretch].toArray)) (F := fun _ _ step s => I_frames_truths_1 n y5 step s) rfl en_75 (it_frames_truths_1 n H6 y5 y5_b0 hy5_b0) rfl hl39 (fun (z : Int × Int) H37 fr gs => match z with | (z_35, z_36) => fr = [(b4, .cells [.int .i64 z_35].toArray 3), (b3, .cells [.int .i64 z_36].toArray 3), (b2, .cells [.func (.func is_k) #[] is_c.toArray].toArray 94)] ∧ gs = [] ∧ HSub H6 H37) (fun _ _ _ _ _ => False) ⟨rfl, rfl, (HSub.refl _)⟩ ?_ ?_ ?_
  · rintro l9 ⟨z_35, z_36⟩ x8 y40 v10 own T11 H37 fr gs ⟨rfl, rfl, hs37⟩ hF ⟨rfl, rfl⟩ -
    rw [F_frames_known_s1] at hF
    refine JC.region (by rfl) ?_
    intro hQ
    refine JL.alloc ze_82 .none rfl ?_
    intro b41
    refine JL.storeOwn 0 (cs := [.int .i64 x8.arm, .int .i64 x8.stretch]) az_82 rfl rfl rfl (one_cons rfl (one_cons rfl one_nil)) rfl rfl .none ?_
    refine JL.done hQ ?_
    refine JQ.assigned [(b41, .cells [.int .i64 x8.arm, .int .i64 x8.stretch].toArray 82), (b4, .cells [.int .i64 z_35].toArray 3), (b3, .cells [.int .i64 z_36].toArray 3), (b2, .cells [.func (.func is_k) #[] is_c.toArray].toArray 94)] (fun T12 => ?_)
    refine JC.block ?_
    refine JC.seq ?_
    refine JC.region (by rfl) ?_
    intro hQ
    refine JL.loadOwn 1 az_3 rfl rfl rfl .none rfl ?_
    refine JL.bin rfl rfl rfl .none rfl ?_
    refine JL.storeOwn 1 (cs := [.int .i64 (w64 (z_35 + 1))]) az_3 rfl rfl rfl (one_cons rfl one_nil) rfl rfl .none ?_
    refine JL.done hQ ?_
    refine JQ.go ?_
    refine JC.seq ?_
    refine JC.region (by rfl) ?_
    intro hQ
    refine JL.loadOwn 3 az_94 rfl rfl rfl .none rfl ?_
    refine JL.loadOwn 0 az_82 rfl rfl rfl .none rfl ?_
    obtain ⟨y42, hy42, hF⟩ := bind_some hF
    refine JL.callV rfl (is_h H37 (HSub.trans hs6 hs37) x8 y42 hy42) rfl is_e .none rfl ?_
    refine JL.done hQ ?_
    refine JQ.go ?_
    obtain ⟨r46, hlr46, hKr46⟩ := bind_some hF
    refine JC.join (fun (z_44 : Int) H45 f bs gs => bs = ((b4, .cells [.int .i64 (w64 (z_35 + 1))].toArray 3) :: (b3, .cells [.int .i64 z_44].toArray 3) :: (b2, .cells [.func (.func is_k) #[] is_c.toArray].toArray 94) :: T12) ∧ gs = [] ∧ HSub H37 H45 ∧ z_44 = r46) ?_ ?_
    · have hF := hlr46
      rcases ite_some hF with ⟨hc47, hF⟩ | ⟨hc47, hF⟩
      · refine JC.cond_t (b := y42) rfl hc47 ?_
        refine JC.region (by rfl) ?_
        intro hQ
        refine JL.loadOwn 2 az_3 rfl rfl rfl .none rfl ?_
        refine JL.bin rfl rfl rfl .none rfl ?_
        refine JL.storeOwn 2 (cs := [.int .i64 (w64 (z_36 + 1))]) az_3 rfl rfl rfl (one_cons rfl one_nil) rfl rfl .none ?_
        refine JL.done hQ ?_
        obtain rfl := Option.some.inj hF
        refine JQ.mask [false, true, true, true] [] ?_
        exact JQ.join (w64 (z_36 + 1)) ⟨rfl, rfl, (HSub.refl _), rfl⟩
      · refine JC.cond_f (b := y42) rfl hc47 ?_
        refine JC.skip ?_
        obtain rfl := Option.some.inj hF
        refine JQ.mask [false, true, true, true] [] ?_
        exact JQ.join z_36 ⟨rfl, rfl, (HSub.refl _), rfl⟩
    · rintro z_44 H45 f bs gs ⟨rfl, rfl, hs45, rfl⟩
      have hF := hKr46
      try dsimp only at hF
      refine JQ.normal_block ?_
      obtain rfl := Option.some.inj hF
      refine JQ.round rfl [(b4, .cells [.int .i64 (w64 (z_35 + 1))].toArray 3), (b3, .cells [.int .i64 z_44].toArray 3), (b2, .cells [.func (.func is_k) #[] is_c.toArray].toArray 94)] hs45 ?_
      exact ⟨rfl, rfl, (HSub.trans hs37 hs45)⟩
  · rintro D48 ⟨z_35, z_36⟩ H37 fr gs rfl ⟨rfl, rfl, hs37⟩ -
    try dsimp only at hF
    refine JQ.normal_block ?_
    refine JQ.go ?_
    refine JC.seq ?_
    refine JC.seq ?_
    refine JC.region (by rfl) ?_
    intro hQ
    refine JL.loadOwn 1 az_3 rfl rfl rfl .none rfl ?_
    refine JL.done hQ ?_
    refine JQ.go ?_
    refine JC.block ?_
    refine JC.seq ?_
    refine JC.region (by rfl) ?_
    intro hQ
    refine JL.loadOwn 0 az_3 rfl rfl rfl .none rfl ?_
    refine JL.bin rfl rfl rfl .none rfl ?_
    refine JL.assign .none rfl ?_
    refine JL.done hQ ?_
    refine JQ.go ?_
    rcases ite_some hF with ⟨hc49, hF⟩ | ⟨hc49, hF⟩
    · refine JC.cond_t (b := (z_36 == z_35)) rfl hc49 ?_
      refine JC.seq ?_
      refine JC.region (by rfl) ?_
      intro hQ
      refine JL.assign .none rfl ?_
      refine JL.done hQ ?_
      refine JQ.go ?_
      refine JC.ret ?_
      refine JQ.ret_block ?_
      refine JQ.ret_then ?_
      obtain rfl := Option.some.inj hF
      exact JQ.outSM rfl (.cons 3 rfl .nil) (.tmp .nil) rfl
    · refine JC.cond_f (b := (z_36 == z_35)) rfl hc49 ?_
      refine JC.seq ?_
      refine JC.region (by rfl) ?_
      intro hQ
      refine JL.bin rfl rfl rfl .none rfl ?_
      refine JL.assign .none rfl ?_
      refine JL.done hQ ?_
      refine JQ.go ?_
      refine JC.fresh (fun f => f 4 = .int .i64 0 ∧ f 22 = .bool (z_36 == 0)) ⟨rfl, rfl⟩ ?_
      rintro f ⟨hf4, hf22⟩
      refine (JC.norm (i := 4) hf4 (JC.norm (i := 22) hf22 ?_))
      rcases ite_some hF with ⟨hc50, hF⟩ | ⟨hc50, hF⟩
      · refine JC.cond_t (b := (z_36 == 0)) rfl hc50 ?_
        refine JC.seq ?_
        refine JC.region (by rfl) ?_
        intro hQ
        refine JL.assign .none rfl ?_
        refine JL.done hQ ?_
        refine JQ.go ?_
        refine JC.ret ?_
        refine JQ.ret_block ?_
        refine JQ.ret_then ?_
        obtain rfl := Option.some.inj hF
        exact JQ.outSM rfl (.cons 3 rfl .nil) (.tmp .nil) rfl
      · refine JC.cond_f (b := (z_36 == 0)) rfl hc50 ?_
        refine JC.skip ?_
        refine JQ.normal_block ?_
        refine JQ.go ?_
        refine JC.seq ?_
        refine JC.region (by rfl) ?_
        intro hQ
        refine JL.assign .none rfl ?_
        refine JL.done hQ ?_
        refine JQ.go ?_
        refine JC.ret ?_
        obtain rfl := Option.some.inj hF
        exact JQ.outSM rfl (.cons 3 rfl .nil) (.tmp .nil) rfl
  · rintro _ _ _ _ _ _ _ h; exact h.elim

-- 65 ferrule/frames.binds
def F_frames_binds (n : Nat) (f_ : Frame) (section_ : Int) (r : Int) : Option Int :=
  (F_frames_distance n f_ section_ r).bind fun y2 => (geti f_.Sections section_).bind fun y4 => (F_frames_known n y4 (fun a0_ => F_frames_binds_1 n a0_ y2 f_)).bind fun y13 => some y13
set_option maxRecDepth 100000 in
set_option maxHeartbeats 40000000 in
theorem c_frames_binds (n : Nat) (H : Hp) (f_ : Frame) (f__v0 : Value) (hf__0 : SL H 7 R_Section f__v0 f_.Sections) (section_ : Int) (r : Int) (y : Int) (hF : F_frames_binds n f_ section_ r = some y) : SC Try.prog 65 [.agg [f__v0, .int .i64 f_.Low, .int .i64 f_.High, .int .i64 f_.Ease.Num, .int .i64 f_.Ease.Den, .int .i64 f_.Rod, .int .i64 f_.Case].toArray, .int .i64 section_, .int .i64 r] (.int .i64 y) H := by
  rw [F_frames_binds] at hF
  refine SC.of (N := 19) Try.func65 rfl rfl rfl fun w => ?_
  refine JC.seq ?_
  refine JC.region (by rfl) ?_
  intro hQ
  refine JL.box (cs := [f__v0, .int .i64 f_.Low, .int .i64 f_.High, .int .i64 f_.Ease.Num, .int .i64 f_.Ease.Den, .int .i64 f_.Rod, .int .i64 f_.Case]) rfl .none rfl ?_
  intro b1
  refine JL.assign .none rfl ?_
  refine JL.done hQ ?_
  refine JQ.go ?_
  refine JC.seq ?_
  refine JC.region (by rfl) ?_
  intro hQ
  refine JL.loadOwn 0 az_26 rfl rfl rfl .none rfl ?_
  refine JL.move .none rfl ?_
  refine JL.move .none rfl ?_
  obtain ⟨y2, hy2, hF⟩ := bind_some hF
  refine JL.callS (c_frames_distance n H f_ f__v0 hf__0 section_ r y2 hy2) rfl en_57 .none rfl ?_
  refine JL.alloc ze_3 .none rfl ?_
  intro b3
  refine JL.storeOwn 0 (cs := [.int .i64 y2]) az_3 rfl rfl rfl (one_cons rfl one_nil) rfl rfl .none ?_
  refine JL.done hQ ?_
  refine JQ.go ?_
  refine JC.seq ?_
  refine JC.region (by rfl) ?_
  intro hQ
  refine JL.fieldAddr fo_26_0 rfl .none rfl ?_
  refine JL.loadOwn 1 az_22 rfl rfl rfl .none rfl ?_
  refine JL.move .none rfl ?_
  obtain ⟨y4, hy4, hF⟩ := bind_some hF
  refine JL.indexSL (R := R_Section) sl_22 hf__0 rfl hy4 .none rfl ?_
  rintro b5 o6 cs7 hc8 - rfl
  refine JL.loadH 0 az_61 rfl hc8 rfl .none rfl ?_
  refine JL.makeFunc .none rfl ?_
  refine JL.freezeC 0 (l := [.int .i64 y2]) rfl ?_
  intro H9 hs9 hc10
  refine JL.freezeC 0 (l := [f__v0, .int .i64 f_.Low, .int .i64 f_.High, .int .i64 f_.Ease.Num, .int .i64 f_.Ease.Den, .int .i64 f_.Rod, .int .i64 f_.Case]) rfl ?_
  intro H11 hs11 hc12
  obtain ⟨y13, hy13, hF⟩ := bind_some hF
  refine JL.callS (c_frames_known n H11 y4 (fun a0_ => F_frames_binds_1 n a0_ y2 f_) 77 [.pointer (some ⟨b3, 0, none⟩), .pointer (some ⟨b1, 0, none⟩)] en_77 (fun H' hs' a0_ y' hy' => c_frames_binds_1 n H' a0_ y2 b3 (Cells.mono hs' (Cells.mono hs11 hc10)) f_ f__v0 (SL.mono R_Section_mono hs' (SL.mono R_Section_mono (HSub.trans hs9 hs11) hf__0)) b1 (Cells.mono hs' hc12) y' hy') y13 hy13) rfl en_71 .none rfl ?_
  refine JL.assign .none rfl ?_
  refine JL.done hQ ?_
  refine JQ.go ?_
  refine JC.fresh (fun f => f 6 = .int .i64 y13) rfl ?_
  rintro f hf6
  refine (JC.norm (i := 6) hf6 ?_)
  refine JC.ret ?_
  obtain rfl := Option.some.inj hF
  exact JQ.outS rfl (.tmp .nil) rfl

-- 28 ferrule/frames.First
def F_frames_First_s2 (n : Nat) (f_ : Frame) (x10 : Int) : Int → Option (Int ⊕ ((Unit ⊕ (Int × Int)) ⊕ Unit))
  | x_92 => if decide (x_92 < (f_.Sections.length : Int)) = true then ((F_frames_binds n f_ x_92 x10).bind fun y97 => if (y97 != 2) = true then (some (Sum.inr (Sum.inl (Sum.inr (x10, x_92))))) else (some (Sum.inl (w64 (x_92 + 1))))) else (some (Sum.inr (Sum.inr ())))
def F_frames_First_s1 (n : Nat) (f_ : Frame) : Unit → Int → Option (Unit ⊕ (Int × Int))
  | _, x10 => (loopO n (F_frames_First_s2 n f_ x10) 0).bind fun r81 => match r81 with | .inl o => some o | .inr _ => some (Sum.inl ())
def F_frames_First (n : Nat) (f_ : Frame) : Option (Int × Int × Int) :=
  (F_frames_Check n f_).bind fun y5 => if (y5 != 0) = true then (some (0, 0, y5)) else ((F_frames_positions n f_).bind fun y7 => (I_frames_positions_1 n y7 (F_frames_First_s1 n f_) ()).bind fun r60 => match r60 with | .inl _ => some (0, 0, 3) | .inr (z_57, z_58) => some (z_58, z_57, 0))
set_option maxRecDepth 100000 in
set_option maxHeartbeats 40000000 in
theorem c_frames_First (n : Nat) (H : Hp) (f_ : Frame) (f__v0 : Value) (hf__0 : SL H 7 R_Section f__v0 f_.Sections) (y : Int × Int × Int) (hF : F_frames_First n f_ = some y) : SC Try.prog 28 [.agg [f__v0, .int .i64 f_.Low, .int .i64 f_.High, .int .i64 f_.Ease.Num, .int .i64 f_.Ease.Den, .int .i64 f_.Rod, .int .i64 f_.Case].toArray] (.tuple [.int .i64 y.1, .int .i64 y.2.1, .int .i64 y.2.2].toArray) H := by
  rw [F_frames_First] at hF
  refine SC.ofM (N := 30) Try.func28 rfl rfl rfl fun w => ?_
  refine JC.seq ?_
  refine JC.region (by rfl) ?_
  intro hQ
  refine JL.box (cs := [f__v0, .int .i64 f_.Low, .int .i64 f_.High, .int .i64 f_.Ease.Num, .int .i64 f_.Ease.Den, .int .i64 f_.Rod, .int .i64 f_.Case]) rfl .none rfl ?_
  intro b1
  refine JL.alloc ze_3 .none rfl ?_
  intro b2
  refine JL.alloc ze_3 .none rfl ?_
  intro b3
  refine JL.alloc ze_32 .none rfl ?_
  intro b4
  refine JL.done hQ ?_
  refine JQ.go ?_
  refine JC.seq ?_
  refine JC.seq ?_
  refine JC.region (by rfl) ?_
  intro hQ
  refine JL.loadOwn 3 az_26 rfl rfl rfl .none rfl ?_
  obtain ⟨y5, hy5, hF⟩ := bind_some hF
  refine JL.callS (c_frames_Check n H f_ f__v0 hf__0 y5 hy5) rfl en_14 .none rfl ?_
  refine JL.assign .none rfl ?_
  refine JL.done hQ ?_
  refine JQ.go ?_
  refine JC.seq ?_
  refine JC.region (by rfl) ?_
  intro hQ
  refine JL.move .none rfl ?_
  refine JL.bin rfl rfl rfl .none rfl ?_
  refine JL.done hQ ?_
  refine JQ.go ?_
  rcases ite_some hF with ⟨hc6, hF⟩ | ⟨hc6, hF⟩
  · refine JC.cond_t (b := (y5 != 0)) rfl hc6 ?_
    refine JC.seq ?_
    refine JC.region (by rfl) ?_
    intro hQ
    refine JL.move .none rfl ?_
    refine JL.storeOwn 2 (cs := [.int .i64 0]) az_3 rfl rfl rfl (one_cons rfl one_nil) rfl rfl .none ?_
    refine JL.storeOwn 1 (cs := [.int .i64 0]) az_3 rfl rfl rfl (one_cons rfl one_nil) rfl rfl .none ?_
    refine JL.storeOwn 0 (cs := [.int .i64 y5]) az_32 rfl rfl rfl (one_cons rfl one_nil) rfl rfl .none ?_
    refine JL.done hQ ?_
    refine JQ.go ?_
    refine JC.ret ?_
    refine JQ.ret_then ?_
    obtain rfl := Option.some.inj hF
    exact JQ.outSM rfl .nil (.cell 2 az_3 rfl rfl rfl (.cell 1 az_3 rfl rfl rfl (.cell 0 az_32 rfl rfl rfl .nil))) rfl
  · refine JC.cond_f (b := (y5 != 0)) rfl hc6 ?_
    refine JC.skip ?_
    refine JQ.go ?_
    refine JC.seq ?_
    refine JC.seq ?_
    refine JC.region (by rfl) ?_
    intro hQ
    refine JL.loadOwn 3 az_26 rfl rfl rfl .none rfl ?_
    obtain ⟨y7, hy7, hF⟩ := bind_some hF
    refine JL.callH (c_frames_positions n H f_ f__v0 hf__0 y7 hy7) rfl en_69 .none rfl ?_
    rintro H8 vv9 hs8 ⟨y7_b0, y7_0_v0, rfl, hy7_b0, hy7_0_0⟩
    refine JL.done hQ ?_
    refine JQ.go ?_
    refine JC.block ?_
    obtain ⟨r60, hl61, hF⟩ := bind_some hF
    refine JC.rangeFunc (ρ := Int × Int) (V := (VPlain fun (x : Int) => .int .i64 x)) (F := fun _ _ step s => I_frames_positions_1 n y7 step s) rfl en_79 (it_frames_positions_1 n H8 y7 y7_0_v0 hy7_0_0 y7_b0 hy7_b0) rfl hl61 (fun (_ : Unit) H56 fr gs => fr = [(b4, .cells [.int .i64 0].toArray 32), (b3, .cells [.int .i64 0].toArray 3), (b2, .cells [.int .i64 0].toArray 3), (b1, .cells [f__v0, .int .i64 f_.Low, .int .i64 f_.High, .int .i64 f_.Ease.Num, .int .i64 f_.Ease.Den, .int .i64 f_.Rod, .int .i64 f_.Case].toArray 26)] ∧ gs = [] ∧ HSub H8 H56) (fun (z : Int × Int) (c : Code) H59 fr gs => match z with | (z_57, z_58) => c = .ret ∧ fr = [(b4, .cells [.int .i64 0].toArray 32), (b3, .cells [.int .i64 z_57].toArray 3), (b2, .cells [.int .i64 z_58].toArray 3), (b1, .cells [f__v0, .int .i64 f_.Low, .int .i64 f_.High, .int .i64 f_.Ease.Num, .int .i64 f_.Ease.Den, .int .i64 f_.Rod, .int .i64 f_.Case].toArray 26)] ∧ gs = [] ∧ HSub H8 H59) ⟨rfl, rfl, (HSub.refl _)⟩ ?_ ?_ ?_
    · rintro l11 _ x10 y62 v12 own T13 H56 fr gs ⟨rfl, rfl, hs56⟩ hF ⟨rfl, rfl⟩ -
      rw [F_frames_First_s1] at hF
      refine JC.region (by rfl) ?_
      intro hQ
      refine JL.assign .none rfl ?_
      refine JL.done hQ ?_
      refine JQ.assigned [(b4, .cells [.int .i64 0].toArray 32), (b3, .cells [.int .i64 0].toArray 3), (b2, .cells [.int .i64 0].toArray 3), (b1, .cells [f__v0, .int .i64 f_.Low, .int .i64 f_.High, .int .i64 f_.Ease.Num, .int .i64 f_.Ease.Den, .int .i64 f_.Rod, .int .i64 f_.Case].toArray 26)] (fun T14 => ?_)
      refine JC.block ?_
      refine JC.seq ?_
      refine JC.region (by rfl) ?_
      intro hQ
      refine JL.fieldAddr fo_26_0 rfl .none rfl ?_
      refine JL.loadOwn 3 az_22 rfl rfl rfl .none rfl ?_
      refine JL.lenSL (R := R_Section) ul_22 (SL.mono R_Section_mono (HSub.trans hs8 hs56) hf__0) .none rfl ?_
      refine JL.move .none rfl ?_
      refine JL.done hQ ?_
      refine JQ.go ?_
      obtain ⟨r81, hlr81, hKr81⟩ := bind_some hF
      refine JC.join (fun (_ : Unit) H80 f bs gs => bs = ((b4, .cells [.int .i64 0].toArray 32) :: (b3, .cells [.int .i64 0].toArray 3) :: (b2, .cells [.int .i64 0].toArray 3) :: (b1, .cells [f__v0, .int .i64 f_.Low, .int .i64 f_.High, .int .i64 f_.Ease.Num, .int .i64 f_.Ease.Den, .int .i64 f_.Rod, .int .i64 f_.Case].toArray 26) :: T14) ∧ gs = [] ∧ HSub H56 H80 ∧ Sum.inr () = r81) ?_ ?_
      · skip
        refine JC.block ?_
        refine JC.loop hlr81 (fun (x_92 : Int) H93 f bs gs => f 1 = .pointer (some ⟨b1, 0, none⟩) ∧ f 2 = .pointer (some ⟨b2, 0, none⟩) ∧ f 3 = .pointer (some ⟨b3, 0, none⟩) ∧ f 4 = .pointer (some ⟨b4, 0, none⟩) ∧ f 6 = .int .i64 x10 ∧ f 18 = .int .i64 (f_.Sections.length : Int) ∧ f 19 = .int .i64 x_92 ∧ bs = ((b4, .cells [.int .i64 0].toArray 32) :: (b3, .cells [.int .i64 0].toArray 3) :: (b2, .cells [.int .i64 0].toArray 3) :: (b1, .cells [f__v0, .int .i64 f_.Low, .int .i64 f_.High, .int .i64 f_.Ease.Num, .int .i64 f_.Ease.Den, .int .i64 f_.Rod, .int .i64 f_.Case].toArray 26) :: T14) ∧ gs = [] ∧ HSub H56 H93) ⟨rfl, rfl, rfl, rfl, rfl, rfl, rfl, rfl, rfl, (HSub.refl _)⟩ ?_
        rintro x_92 x95 H93 f bs gs ⟨hf1, hf2, hf3, hf4, hf6, hf18, hf19, rfl, rfl, hs93⟩ hF hr94
        rw [F_frames_First_s2] at hF
        refine (JC.norm (i := 1) hf1 (JC.norm (i := 2) hf2 (JC.norm (i := 3) hf3 (JC.norm (i := 4) hf4 (JC.norm (i := 6) hf6 (JC.norm (i := 18) hf18 (JC.norm (i := 19) hf19 ?_)))))))
        refine JC.seq ?_
        refine JC.region (by rfl) ?_
        intro hQ
        refine JL.bin rfl rfl rfl .none rfl ?_
        refine JL.done hQ ?_
        refine JQ.go ?_
        refine JC.seq ?_
        rcases ite_some hF with ⟨hc96, hF⟩ | ⟨hc96, hF⟩
        · refine JC.cond_t (b := decide (x_92 < (f_.Sections.length : Int))) rfl hc96 ?_
          refine JC.skip ?_
          refine JQ.go ?_
          refine JC.seq ?_
          refine JC.block ?_
          refine JC.seq ?_
          refine JC.region (by rfl) ?_
          intro hQ
          refine JL.move .none rfl ?_
          refine JL.assign .none rfl ?_
          refine JL.done hQ ?_
          refine JQ.go ?_
          refine JC.seq ?_
          refine JC.region (by rfl) ?_
          intro hQ
          refine JL.loadOwn 3 az_26 rfl rfl rfl .none rfl ?_
          refine JL.move .none rfl ?_
          refine JL.move .none rfl ?_
          obtain ⟨y97, hy97, hF⟩ := bind_some hF
          refine JL.callS (c_frames_binds n H93 f_ f__v0 (SL.mono R_Section_mono (HSub.trans hs8 (HSub.trans hs56 hs93)) hf__0) x_92 x10 y97 hy97) rfl en_65 .none rfl ?_
          refine JL.bin rfl rfl rfl .none rfl ?_
          refine JL.done hQ ?_
          refine JQ.go ?_
          rcases ite_some hF with ⟨hc98, hF⟩ | ⟨hc98, hF⟩
          · refine JC.cond_t (b := (y97 != 2)) rfl hc98 ?_
            refine JC.seq ?_
            refine JC.region (by rfl) ?_
            intro hQ
            refine JL.move .none rfl ?_
            refine JL.move .none rfl ?_
            refine JL.storeOwn 2 (cs := [.int .i64 x_92]) az_3 rfl rfl rfl (one_cons rfl one_nil) rfl rfl .none ?_
            refine JL.storeOwn 1 (cs := [.int .i64 x10]) az_3 rfl rfl rfl (one_cons rfl one_nil) rfl rfl .none ?_
            refine JL.storeOwn 0 (cs := [.int .i64 0]) az_32 rfl rfl rfl (one_cons rfl one_nil) rfl rfl .none ?_
            refine JL.done hQ ?_
            refine JQ.go ?_
            refine JC.fresh (fun f => f 2 = .pointer (some ⟨b2, 0, none⟩) ∧ f 3 = .pointer (some ⟨b3, 0, none⟩) ∧ f 4 = .pointer (some ⟨b4, 0, none⟩)) ⟨rfl, rfl, rfl⟩ ?_
            rintro f ⟨hf2, hf3, hf4⟩
            refine (JC.norm (i := 2) hf2 (JC.norm (i := 3) hf3 (JC.norm (i := 4) hf4 ?_)))
            refine JC.ret ?_
            refine JQ.ret_block ?_
            refine JQ.ret_then ?_
            refine JQ.ret_then ?_
            refine JQ.ret_block ?_
            refine JQ.ret_join ?_
            refine JQ.ret_block ?_
            obtain rfl := Option.some.inj hF
            have ehr94 := hr94 _ rfl
            subst ehr94
            have hF := hKr81
            try dsimp only at hF
            obtain rfl := Option.some.inj hF
            refine JQ.roundRet rfl [(b4, .cells [.int .i64 0].toArray 32), (b3, .cells [.int .i64 x10].toArray 3), (b2, .cells [.int .i64 x_92].toArray 3), (b1, .cells [f__v0, .int .i64 f_.Low, .int .i64 f_.High, .int .i64 f_.Ease.Num, .int .i64 f_.Ease.Den, .int .i64 f_.Rod, .int .i64 f_.Case].toArray 26)] hs93 ?_
            exact ⟨rfl, rfl, rfl, (HSub.trans hs56 hs93)⟩
          · refine JC.cond_f (b := (y97 != 2)) rfl hc98 ?_
            refine JC.skip ?_
            refine JQ.normal_block ?_
            refine JQ.go ?_
            refine JC.fresh (fun f => f 1 = .pointer (some ⟨b1, 0, none⟩) ∧ f 2 = .pointer (some ⟨b2, 0, none⟩) ∧ f 3 = .pointer (some ⟨b3, 0, none⟩) ∧ f 4 = .pointer (some ⟨b4, 0, none⟩) ∧ f 6 = .int .i64 x10 ∧ f 18 = .int .i64 (f_.Sections.length : Int) ∧ f 19 = .int .i64 x_92) ⟨rfl, rfl, rfl, rfl, rfl, rfl, rfl⟩ ?_
            rintro f ⟨hf1, hf2, hf3, hf4, hf6, hf18, hf19⟩
            refine (JC.norm (i := 1) hf1 (JC.norm (i := 2) hf2 (JC.norm (i := 3) hf3 (JC.norm (i := 4) hf4 (JC.norm (i := 6) hf6 (JC.norm (i := 18) hf18 (JC.norm (i := 19) hf19 ?_)))))))
            refine JC.region (by rfl) ?_
            intro hQ
            refine JL.bin rfl rfl rfl .none rfl ?_
            refine JL.move .none rfl ?_
            refine JL.done hQ ?_
            obtain rfl := Option.some.inj hF
            exact JQ.next rfl ⟨rfl, rfl, rfl, rfl, rfl, rfl, rfl, rfl, rfl, hs93⟩
        · refine JC.cond_f (b := decide (x_92 < (f_.Sections.length : Int))) rfl hc96 ?_
          refine JC.exit ?_
          refine JQ.exit_then ?_
          refine JQ.exit_then ?_
          refine JQ.exit_block ?_
          obtain rfl := Option.some.inj hF
          have ehr94 := hr94 _ rfl
          subst ehr94
          exact JQ.join () ⟨rfl, rfl, hs93, rfl⟩
      · rintro _ H80 f bs gs ⟨rfl, rfl, hs80, rfl⟩
        have hF := hKr81
        try dsimp only at hF
        refine JQ.normal_block ?_
        obtain rfl := Option.some.inj hF
        refine JQ.round rfl [(b4, .cells [.int .i64 0].toArray 32), (b3, .cells [.int .i64 0].toArray 3), (b2, .cells [.int .i64 0].toArray 3), (b1, .cells [f__v0, .int .i64 f_.Low, .int .i64 f_.High, .int .i64 f_.Ease.Num, .int .i64 f_.Ease.Den, .int .i64 f_.Rod, .int .i64 f_.Case].toArray 26)] hs80 ?_
        exact ⟨rfl, rfl, (HSub.trans hs56 hs80)⟩
    · rintro D99 _ H56 fr gs rfl ⟨rfl, rfl, hs56⟩ -
      try dsimp only at hF
      refine JQ.normal_block ?_
      refine JQ.go ?_
      refine JC.seq ?_
      refine JC.region (by rfl) ?_
      intro hQ
      refine JL.storeOwn 2 (cs := [.int .i64 0]) az_3 rfl rfl rfl (one_cons rfl one_nil) rfl rfl .none ?_
      refine JL.storeOwn 1 (cs := [.int .i64 0]) az_3 rfl rfl rfl (one_cons rfl one_nil) rfl rfl .none ?_
      refine JL.storeOwn 0 (cs := [.int .i64 3]) az_32 rfl rfl rfl (one_cons rfl one_nil) rfl rfl .none ?_
      refine JL.done hQ ?_
      refine JQ.go ?_
      refine JC.ret ?_
      obtain rfl := Option.some.inj hF
      exact JQ.outSM rfl (.cons 4 rfl .nil) (.cell 2 az_3 rfl rfl rfl (.cell 1 az_3 rfl rfl rfl (.cell 0 az_32 rfl rfl rfl .nil))) rfl
    · rintro D100 ⟨z_57, z_58⟩ _ H59 fr gs rfl ⟨rfl, rfl, rfl, hs59⟩ -
      try dsimp only at hF
      refine JC.ret ?_
      refine JQ.ret_block ?_
      refine JQ.ret_then ?_
      obtain rfl := Option.some.inj hF
      exact JQ.outSM rfl (.cons 4 rfl .nil) (.cell 2 az_3 rfl rfl rfl (.cell 1 az_3 rfl rfl rfl (.cell 0 az_32 rfl rfl rfl .nil))) rfl

end Go.Proofs.Ytmgnhaibbeinbaa
