/-
  Printed by a program: functions of the translation as plain functions, and their contracts.
-/
import Derived.Test.YteihdclpiekmaaaLfGenK3
namespace Go.Proofs.Yteihdclpiekmaaa
open Go Go.RowKit Go.Dec
set_option linter.unusedVariables false
-- 28 ferrule/frames.Cosine
def F_frames_Cosine_s1 (n : Nat) (y6 : Int) : (Int × Int × Int × Int) → frames_sides → Option ((Int × Int × Int × Int) ⊕ Unit)
  | (z_82, z_83, z_84, z_85), x17 => (F_frames_sides_cosine n x17 y6).bind fun y91 => (if (z_85 == 0) = true then (some true) else ((F_frames_compare n y91 (Frac.mk z_84 z_85)).bind fun y97 => some (decide (y97 < 0))) : Option Bool).bind fun p94 => (if p94 = true then (some (y91.Num, y91.Den)) else (some (z_84, z_85))).bind fun r102 => match r102 with | (z_99, z_100) => (if (z_83 == 0) = true then (some true) else ((F_frames_compare n y91 (Frac.mk z_82 z_83)).bind fun y108 => some (decide (0 < y108))) : Option Bool).bind fun p105 => (if p105 = true then (some (y91.Num, y91.Den)) else (some (z_82, z_83))).bind fun r113 => match r113 with | (z_110, z_111) => some (Sum.inl (z_110, z_111, z_99, z_100))
def F_frames_Cosine (n : Nat) (f_ : Frame) (section_ : Int) (r : Int) : Option (Frac × Frac × Int) :=
  (F_frames_ask n f_ section_ r).bind fun y4 => if (y4 != 0) = true then (some ((Frac.mk 0 0), (Frac.mk 0 0), y4)) else ((F_frames_distance n f_ section_ r).bind fun y6 => if (y6 == 0) = true then (some ((Frac.mk 0 0), (Frac.mk 0 0), 3)) else ((geti f_.Sections section_).bind fun y9 => (F_frames_truths n y9).bind fun y14 => (I_frames_truths_1 n y14 (F_frames_Cosine_s1 n y6) (0, 0, 0, 0)).bind fun r87 => match r87 with | .inl (z_82, z_83, z_84, z_85) => (F_frames_reduced n (Frac.mk z_84 z_85)).bind fun y118 => (F_frames_reduced n (Frac.mk z_82 z_83)).bind fun y119 => some (y118, y119, 0) | .inr _ => none))
set_option maxRecDepth 100000 in
set_option maxHeartbeats 40000000 in
theorem c_frames_Cosine (n : Nat) (H : Hp) (f_ : Frame) (f__v0 : Value) (hf__0 : SL H 7 R_Section f__v0 f_.Sections) (section_ : Int) (r : Int) (y : Frac × Frac × Int) (hF : F_frames_Cosine n f_ section_ r = some y) : SC Try.prog 28 [.agg [f__v0, .int .i64 f_.Low, .int .i64 f_.High, .int .i64 f_.Ease.Num, .int .i64 f_.Ease.Den, .int .i64 f_.Rod, .int .i64 f_.Case].toArray, .int .i64 section_, .int .i64 r] (.tuple [.agg [.int .i64 y.1.Num, .int .i64 y.1.Den].toArray, .agg [.int .i64 y.2.1.Num, .int .i64 y.2.1.Den].toArray, .int .i64 y.2.2].toArray) H := by
  rw [F_frames_Cosine] at hF
  refine SC.ofM (N := 64) Try.func28 rfl rfl rfl fun w => ?_
  refine JC.seq ?_
  refine JC.region (by rfl) ?_
  intro hQ
  refine JL.box (cs := [f__v0, .int .i64 f_.Low, .int .i64 f_.High, .int .i64 f_.Ease.Num, .int .i64 f_.Ease.Den, .int .i64 f_.Rod, .int .i64 f_.Case]) rfl .none rfl ?_
  intro b1
  refine JL.alloc ze_51 .none rfl ?_
  intro b2
  refine JL.alloc ze_51 .none rfl ?_
  intro b3
  refine JL.assign .none rfl ?_
  refine JL.done hQ ?_
  refine JQ.go ?_
  refine JC.seq ?_
  refine JC.seq ?_
  refine JC.region (by rfl) ?_
  intro hQ
  refine JL.loadOwn 2 az_53 rfl rfl rfl .none rfl ?_
  refine JL.move .none rfl ?_
  refine JL.move .none rfl ?_
  obtain ⟨y4, hy4, hF⟩ := bind_some hF
  refine JL.callS (c_frames_ask n H f_ f__v0 hf__0 section_ r y4 hy4) rfl en_73 .none rfl ?_
  refine JL.assign .none rfl ?_
  refine JL.done hQ ?_
  refine JQ.go ?_
  refine JC.seq ?_
  refine JC.region (by rfl) ?_
  intro hQ
  refine JL.move .none rfl ?_
  refine JL.bin rfl rfl rfl .none rfl ?_
  refine JL.done hQ ?_
  refine JQ.go ?_
  rcases ite_some hF with ⟨hc5, hF⟩ | ⟨hc5, hF⟩
  · refine JC.cond_t (b := (y4 != 0)) rfl hc5 ?_
    refine JC.seq ?_
    refine JC.region (by rfl) ?_
    intro hQ
    refine JL.build (l := [.int .i64 0, .int .i64 0]) (by kernel_rfl) .none rfl ?_
    refine JL.build (l := [.int .i64 0, .int .i64 0]) (by kernel_rfl) .none rfl ?_
    refine JL.move .none rfl ?_
    refine JL.storeOwn 1 (cs := [.int .i64 0, .int .i64 0]) az_51 rfl rfl rfl (one_cons rfl (one_cons rfl one_nil)) rfl rfl .none ?_
    refine JL.storeOwn 0 (cs := [.int .i64 0, .int .i64 0]) az_51 rfl rfl rfl (one_cons rfl (one_cons rfl one_nil)) rfl rfl .none ?_
    refine JL.assign .none rfl ?_
    refine JL.done hQ ?_
    refine JQ.go ?_
    refine JC.fresh (fun f => f 6 = .pointer (some ⟨b2, 0, none⟩) ∧ f 7 = .pointer (some ⟨b3, 0, none⟩) ∧ f 8 = .int .i64 y4) ⟨rfl, rfl, rfl⟩ ?_
    rintro f ⟨hf6, hf7, hf8⟩
    refine (JC.norm (i := 6) hf6 (JC.norm (i := 7) hf7 (JC.norm (i := 8) hf8 ?_)))
    refine JC.ret ?_
    refine JQ.ret_then ?_
    obtain rfl := Option.some.inj hF
    exact JQ.outSM rfl .nil (.cell 1 az_51 rfl rfl rfl (.cell 0 az_51 rfl rfl rfl (.tmp .nil))) rfl
  · refine JC.cond_f (b := (y4 != 0)) rfl hc5 ?_
    refine JC.skip ?_
    refine JQ.go ?_
    refine JC.fresh (fun f => f 1 = .int .i64 section_ ∧ f 2 = .int .i64 r ∧ f 3 = .pointer (some ⟨b1, 0, none⟩) ∧ f 6 = .pointer (some ⟨b2, 0, none⟩) ∧ f 7 = .pointer (some ⟨b3, 0, none⟩) ∧ f 8 = .int .i64 0) ⟨rfl, rfl, rfl, rfl, rfl, rfl⟩ ?_
    rintro f ⟨hf1, hf2, hf3, hf6, hf7, hf8⟩
    refine (JC.norm (i := 1) hf1 (JC.norm (i := 2) hf2 (JC.norm (i := 3) hf3 (JC.norm (i := 6) hf6 (JC.norm (i := 7) hf7 (JC.norm (i := 8) hf8 ?_))))))
    refine JC.seq ?_
    refine JC.region (by rfl) ?_
    intro hQ
    refine JL.loadOwn 2 az_53 rfl rfl rfl .none rfl ?_
    refine JL.move .none rfl ?_
    refine JL.move .none rfl ?_
    obtain ⟨y6, hy6, hF⟩ := bind_some hF
    refine JL.callS (c_frames_distance n H f_ f__v0 hf__0 section_ r y6 hy6) rfl en_74 .none rfl ?_
    refine JL.alloc ze_3 .none rfl ?_
    intro b7
    refine JL.storeOwn 0 (cs := [.int .i64 y6]) az_3 rfl rfl rfl (one_cons rfl one_nil) rfl rfl .none ?_
    refine JL.done hQ ?_
    refine JQ.go ?_
    refine JC.seq ?_
    refine JC.seq ?_
    refine JC.region (by rfl) ?_
    intro hQ
    refine JL.loadOwn 0 az_3 rfl rfl rfl .none rfl ?_
    refine JL.bin rfl rfl rfl .none rfl ?_
    refine JL.done hQ ?_
    refine JQ.go ?_
    rcases ite_some hF with ⟨hc8, hF⟩ | ⟨hc8, hF⟩
    · refine JC.cond_t (b := (y6 == 0)) rfl hc8 ?_
      refine JC.seq ?_
      refine JC.region (by rfl) ?_
      intro hQ
      refine JL.build (l := [.int .i64 0, .int .i64 0]) (by kernel_rfl) .none rfl ?_
      refine JL.build (l := [.int .i64 0, .int .i64 0]) (by kernel_rfl) .none rfl ?_
      refine JL.storeOwn 2 (cs := [.int .i64 0, .int .i64 0]) az_51 rfl rfl rfl (one_cons rfl (one_cons rfl one_nil)) rfl rfl .none ?_
      refine JL.storeOwn 1 (cs := [.int .i64 0, .int .i64 0]) az_51 rfl rfl rfl (one_cons rfl (one_cons rfl one_nil)) rfl rfl .none ?_
      refine JL.assign .none rfl ?_
      refine JL.done hQ ?_
      refine JQ.go ?_
      refine JC.fresh (fun f => f 6 = .pointer (some ⟨b2, 0, none⟩) ∧ f 7 = .pointer (some ⟨b3, 0, none⟩) ∧ f 8 = .int .i64 3) ⟨rfl, rfl, rfl⟩ ?_
      rintro f ⟨hf6, hf7, hf8⟩
      refine (JC.norm (i := 6) hf6 (JC.norm (i := 7) hf7 (JC.norm (i := 8) hf8 ?_)))
      refine JC.ret ?_
      refine JQ.ret_then ?_
      obtain rfl := Option.some.inj hF
      exact JQ.outSM rfl .nil (.cell 2 az_51 rfl rfl rfl (.cell 1 az_51 rfl rfl rfl (.tmp .nil))) rfl
    · refine JC.cond_f (b := (y6 == 0)) rfl hc8 ?_
      refine JC.skip ?_
      refine JQ.go ?_
      refine JC.seq ?_
      refine JC.seq ?_
      refine JC.region (by rfl) ?_
      intro hQ
      refine JL.fieldAddr fo_53_0 rfl .none rfl ?_
      refine JL.loadOwn 3 az_49 rfl rfl rfl .none rfl ?_
      refine JL.move .none rfl ?_
      obtain ⟨y9, hy9, hF⟩ := bind_some hF
      refine JL.indexSL (R := R_Section) sl_49 hf__0 rfl hy9 .none rfl ?_
      rintro b10 o11 cs12 hc13 - rfl
      refine JL.loadH 0 az_68 rfl hc13 rfl .none rfl ?_
      obtain ⟨y14, hy14, hF⟩ := bind_some hF
      refine JL.callH (c_frames_truths n H y9 y14 hy14) rfl en_75 .none rfl ?_
      rintro H15 vv16 hs15 ⟨y14_b0, rfl, hy14_b0⟩
      refine JL.done hQ ?_
      refine JQ.go ?_
      refine JC.fresh (fun f => f 6 = .pointer (some ⟨b2, 0, none⟩) ∧ f 7 = .pointer (some ⟨b3, 0, none⟩) ∧ f 8 = .int .i64 0 ∧ f 10 = .pointer (some ⟨b7, 0, none⟩) ∧ f 35 = .func (.func 125) #[] [.pointer (some ⟨y14_b0, 0, none⟩)].toArray) ⟨rfl, rfl, rfl, rfl, rfl⟩ ?_
      rintro f ⟨hf6, hf7, hf8, hf10, hf35⟩
      refine (JC.norm (i := 6) hf6 (JC.norm (i := 7) hf7 (JC.norm (i := 8) hf8 (JC.norm (i := 10) hf10 (JC.norm (i := 35) hf35 ?_)))))
      refine JC.block ?_
      obtain ⟨r87, hl88, hF⟩ := bind_some hF
      refine JC.mask [true, true, true, false] [] ?_
      refine JC.rangeFunc (ρ := Unit) (V := (VPlain fun (x : frames_sides) => .agg [.int .i64 x.arm, .int .i64 x.stretch].toArray)) (F := fun _ _ step s => I_frames_truths_1 n y14 step s) rfl en_125 (it_frames_truths_1 n H15 y14 y14_b0 hy14_b0) rfl hl88 (fun (z : Int × Int × Int × Int) H86 fr gs => match z with | (z_82, z_83, z_84, z_85) => fr = [(b7, .cells [.int .i64 y6].toArray 3), (b3, .cells [.int .i64 z_82, .int .i64 z_83].toArray 51), (b2, .cells [.int .i64 z_84, .int .i64 z_85].toArray 51)] ∧ gs = [] ∧ HSub H15 H86) (fun _ _ _ _ _ => False) ⟨rfl, rfl, (HSub.refl _)⟩ ?_ ?_ ?_
      · rintro l18 ⟨z_82, z_83, z_84, z_85⟩ x17 y89 v19 own T20 H86 fr gs ⟨rfl, rfl, hs86⟩ hF ⟨rfl, rfl⟩ -
        rw [F_frames_Cosine_s1] at hF
        refine JC.region (by rfl) ?_
        intro hQ
        refine JL.alloc ze_147 .none rfl ?_
        intro b90
        refine JL.storeOwn 0 (cs := [.int .i64 x17.arm, .int .i64 x17.stretch]) az_147 rfl rfl rfl (one_cons rfl (one_cons rfl one_nil)) rfl rfl .none ?_
        refine JL.done hQ ?_
        refine JQ.assigned [(b90, .cells [.int .i64 x17.arm, .int .i64 x17.stretch].toArray 147), (b7, .cells [.int .i64 y6].toArray 3), (b3, .cells [.int .i64 z_82, .int .i64 z_83].toArray 51), (b2, .cells [.int .i64 z_84, .int .i64 z_85].toArray 51)] (fun T21 => ?_)
        refine JC.block ?_
        refine JC.seq ?_
        refine JC.region (by rfl) ?_
        intro hQ
        refine JL.loadOwn 0 az_147 rfl rfl rfl .none rfl ?_
        refine JL.loadOwn 1 az_3 rfl rfl rfl .none rfl ?_
        obtain ⟨y91, hy91, hF⟩ := bind_some hF
        refine JL.callS (c_frames_sides_cosine n H86 x17 y6 y91 hy91) rfl en_76 .none rfl ?_
        refine JL.alloc ze_51 .none rfl ?_
        intro b92
        refine JL.storeOwn 0 (cs := [.int .i64 y91.Num, .int .i64 y91.Den]) az_51 rfl rfl rfl (one_cons rfl (one_cons rfl one_nil)) rfl rfl .none ?_
        refine JL.done hQ ?_
        refine JQ.go ?_
        refine JC.seq ?_
        refine JC.seq ?_
        refine JC.region (by rfl) ?_
        intro hQ
        refine JL.fieldAddr fo_51_1 rfl .none rfl ?_
        refine JL.loadOwn 4 az_3 rfl rfl rfl .none rfl ?_
        refine JL.bin rfl rfl rfl .none rfl ?_
        refine JL.move .none rfl ?_
        obtain ⟨p94, hp94, hF⟩ := bind_some hF
        refine JL.cut 5 (fun f => f 6 = .pointer (some ⟨b2, 0, none⟩) ∧ f 7 = .pointer (some ⟨b3, 0, none⟩) ∧ f 12 = .pointer (some ⟨b92, 0, none⟩) ∧ f 48 = .bool p94) ?_ ?_
        · intro hJ95
          rcases ite_some hp94 with ⟨hc96, hF⟩ | ⟨hc96, hF⟩
          · skip
            refine JL.skip (.bool rfl rfl rfl hc96) rfl ?_
            refine JL.skip (.bool rfl rfl rfl hc96) rfl ?_
            refine JL.skip (.bool rfl rfl rfl hc96) rfl ?_
            refine JL.skip (.bool rfl rfl rfl hc96) rfl ?_
            refine JL.pick_t (b := (z_85 == 0)) rfl hc96 .none rfl ?_
            obtain rfl := Option.some.inj hF
            exact hJ95 _ ⟨rfl, rfl, rfl, rfl⟩
          · skip
            refine JL.loadOwn 0 az_51 rfl rfl rfl (.some rfl rfl rfl hc96) rfl ?_
            refine JL.loadOwn 4 az_51 rfl rfl rfl (.some rfl rfl rfl hc96) rfl ?_
            obtain ⟨y97, hy97, hF⟩ := bind_some hF
            refine JL.callS (c_frames_compare n H86 y91 (Frac.mk z_84 z_85) y97 hy97) rfl en_77 (.some rfl rfl rfl hc96) rfl ?_
            refine JL.bin rfl rfl rfl (.some rfl rfl rfl hc96) rfl ?_
            refine JL.pick_f (b := (z_85 == 0)) rfl hc96 .none rfl ?_
            obtain rfl := Option.some.inj hF
            exact hJ95 _ ⟨rfl, rfl, rfl, rfl⟩
        · rintro f ⟨hf6, hf7, hf12, hf48⟩
          refine (JL.norm (i := 6) hf6 (JL.norm (i := 7) hf7 (JL.norm (i := 12) hf12 (JL.norm (i := 48) hf48 ?_))))
          refine JL.done hQ ?_
          refine JQ.go ?_
          obtain ⟨r102, hlr102, hKr102⟩ := bind_some hF
          refine JC.join (fun (x : Int × Int) H101 f bs gs => match x with | (z_99, z_100) => f 7 = .pointer (some ⟨b3, 0, none⟩) ∧ f 12 = .pointer (some ⟨b92, 0, none⟩) ∧ bs = ((b92, .cells [.int .i64 y91.Num, .int .i64 y91.Den].toArray 51) :: (b7, .cells [.int .i64 y6].toArray 3) :: (b3, .cells [.int .i64 z_82, .int .i64 z_83].toArray 51) :: (b2, .cells [.int .i64 z_99, .int .i64 z_100].toArray 51) :: T21) ∧ gs = [] ∧ HSub H86 H101 ∧ (z_99, z_100) = r102) ?_ ?_
          · have hF := hlr102
            rcases ite_some hF with ⟨hc103, hF⟩ | ⟨hc103, hF⟩
            · refine JC.cond_t (b := p94) rfl hc103 ?_
              refine JC.region (by rfl) ?_
              intro hQ
              refine JL.loadOwn 0 az_51 rfl rfl rfl .none rfl ?_
              refine JL.storeOwn 4 (cs := [.int .i64 y91.Num, .int .i64 y91.Den]) az_51 rfl rfl rfl (one_cons rfl (one_cons rfl one_nil)) rfl rfl .none ?_
              refine JL.done hQ ?_
              obtain rfl := Option.some.inj hF
              refine JQ.mask [true, false, true, true, true] [] ?_
              exact JQ.join (y91.Num, y91.Den) ⟨rfl, rfl, rfl, rfl, (HSub.refl _), rfl⟩
            · refine JC.cond_f (b := p94) rfl hc103 ?_
              refine JC.skip ?_
              obtain rfl := Option.some.inj hF
              refine JQ.mask [true, false, true, true, true] [] ?_
              exact JQ.join (z_84, z_85) ⟨rfl, rfl, rfl, rfl, (HSub.refl _), rfl⟩
          · rintro ⟨z_99, z_100⟩ H101 f bs gs ⟨hf7, hf12, rfl, rfl, hs101, rfl⟩
            have hF := hKr102
            try dsimp only at hF
            refine (JQ.norm (i := 7) hf7 (JQ.norm (i := 12) hf12 ?_))
            refine JQ.go ?_
            refine JC.seq ?_
            refine JC.region (by rfl) ?_
            intro hQ
            refine JL.fieldAddr fo_51_1 rfl .none rfl ?_
            refine JL.loadOwn 2 az_3 rfl rfl rfl .none rfl ?_
            refine JL.bin rfl rfl rfl .none rfl ?_
            refine JL.move .none rfl ?_
            obtain ⟨p105, hp105, hF⟩ := bind_some hF
            refine JL.cut 5 (fun f => f 7 = .pointer (some ⟨b3, 0, none⟩) ∧ f 12 = .pointer (some ⟨b92, 0, none⟩) ∧ f 58 = .bool p105) ?_ ?_
            · intro hJ106
              rcases ite_some hp105 with ⟨hc107, hF⟩ | ⟨hc107, hF⟩
              · skip
                refine JL.skip (.bool rfl rfl rfl hc107) rfl ?_
                refine JL.skip (.bool rfl rfl rfl hc107) rfl ?_
                refine JL.skip (.bool rfl rfl rfl hc107) rfl ?_
                refine JL.skip (.bool rfl rfl rfl hc107) rfl ?_
                refine JL.pick_t (b := (z_83 == 0)) rfl hc107 .none rfl ?_
                obtain rfl := Option.some.inj hF
                exact hJ106 _ ⟨rfl, rfl, rfl⟩
              · skip
                refine JL.loadOwn 0 az_51 rfl rfl rfl (.some rfl rfl rfl hc107) rfl ?_
                refine JL.loadOwn 2 az_51 rfl rfl rfl (.some rfl rfl rfl hc107) rfl ?_
                obtain ⟨y108, hy108, hF⟩ := bind_some hF
                refine JL.callS (c_frames_compare n H101 y91 (Frac.mk z_82 z_83) y108 hy108) rfl en_77 (.some rfl rfl rfl hc107) rfl ?_
                refine JL.bin rfl rfl rfl (.some rfl rfl rfl hc107) rfl ?_
                refine JL.pick_f (b := (z_83 == 0)) rfl hc107 .none rfl ?_
                obtain rfl := Option.some.inj hF
                exact hJ106 _ ⟨rfl, rfl, rfl⟩
            · rintro f ⟨hf7, hf12, hf58⟩
              refine (JL.norm (i := 7) hf7 (JL.norm (i := 12) hf12 (JL.norm (i := 58) hf58 ?_)))
              refine JL.done hQ ?_
              refine JQ.go ?_
              obtain ⟨r113, hlr113, hKr113⟩ := bind_some hF
              refine JC.join (fun (x : Int × Int) H112 f bs gs => match x with | (z_110, z_111) => bs = ((b7, .cells [.int .i64 y6].toArray 3) :: (b3, .cells [.int .i64 z_110, .int .i64 z_111].toArray 51) :: (b2, .cells [.int .i64 z_99, .int .i64 z_100].toArray 51) :: T21) ∧ gs = [] ∧ HSub H101 H112 ∧ (z_110, z_111) = r113) ?_ ?_
              · have hF := hlr113
                rcases ite_some hF with ⟨hc114, hF⟩ | ⟨hc114, hF⟩
                · refine JC.cond_t (b := p105) rfl hc114 ?_
                  refine JC.region (by rfl) ?_
                  intro hQ
                  refine JL.loadOwn 0 az_51 rfl rfl rfl .none rfl ?_
                  refine JL.storeOwn 2 (cs := [.int .i64 y91.Num, .int .i64 y91.Den]) az_51 rfl rfl rfl (one_cons rfl (one_cons rfl one_nil)) rfl rfl .none ?_
                  refine JL.done hQ ?_
                  obtain rfl := Option.some.inj hF
                  refine JQ.mask [false, true, true, true] [] ?_
                  exact JQ.join (y91.Num, y91.Den) ⟨rfl, rfl, (HSub.refl _), rfl⟩
                · refine JC.cond_f (b := p105) rfl hc114 ?_
                  refine JC.skip ?_
                  obtain rfl := Option.some.inj hF
                  refine JQ.mask [false, true, true, true] [] ?_
                  exact JQ.join (z_82, z_83) ⟨rfl, rfl, (HSub.refl _), rfl⟩
              · rintro ⟨z_110, z_111⟩ H112 f bs gs ⟨rfl, rfl, hs112, rfl⟩
                have hF := hKr113
                try dsimp only at hF
                refine JQ.normal_block ?_
                obtain rfl := Option.some.inj hF
                refine JQ.round rfl [(b7, .cells [.int .i64 y6].toArray 3), (b3, .cells [.int .i64 z_110, .int .i64 z_111].toArray 51), (b2, .cells [.int .i64 z_99, .int .i64 z_100].toArray 51)] (HSub.trans hs101 hs112) ?_
                exact ⟨rfl, rfl, (HSub.trans hs86 (HSub.trans hs101 hs112))⟩
      · rintro D115 ⟨z_82, z_83, z_84, z_85⟩ H86 fr gs rfl ⟨rfl, rfl, hs86⟩ -
        try dsimp only at hF
        refine JQ.normal_block ?_
        refine JQ.go ?_
        refine JC.seq ?_
        obtain ⟨y118, hy118, hF⟩ := bind_some hF
        obtain ⟨y119, hy119, hF⟩ := bind_some hF
        refine JC.mixed 4 7 #[false, false, false, false, false, false, false] [(b7, .cells [.int .i64 y6].toArray 3), (b3, .cells [.int .i64 z_82, .int .i64 z_83].toArray 51), (b2, .cells [.int .i64 z_84, .int .i64 z_85].toArray 51), (D115, .deferred (some []))] (by rfl) mo_ (by kernel_rfl) (by kernel_rfl) ?_
        intro hQ hE
        refine JA.cut 4 #[true, true, true, false, false, false, false] (fun H120 f bs gs => f 6 = .pointer (some ⟨b2, 0, none⟩) ∧ f 7 = .pointer (some ⟨b3, 0, none⟩) ∧ f 8 = .int .i64 0 ∧ f 61 = .agg [.int .i64 y118.Num, .int .i64 y118.Den].toArray ∧ f 62 = .agg [.int .i64 z_82, .int .i64 z_83].toArray ∧ bs = [(b7, .cells [.int .i64 y6].toArray 3), (b3, .cells [.int .i64 z_82, .int .i64 z_83].toArray 51), (b2, .cells [.int .i64 z_84, .int .i64 z_85].toArray 51), (D115, .deferred (some []))] ∧ gs = [] ∧ HSub H86 H120) ?_ ?_
        · rintro H120 f bs gs ⟨hf6, hf7, hf8, hf61, hf62, rfl, rfl, hs120⟩
          refine (JA.norm (i := 6) hf6 (JA.norm (i := 7) hf7 (JA.norm (i := 8) hf8 (JA.norm (i := 61) hf61 (JA.norm (i := 62) hf62 ?_)))))
          refine JA.many [3] (by kernel_rfl) (by simp) (all_one ⟨_, #[true, true, true, true, false, false, false], rfl, (by kernel_rfl), ?_⟩)
          refine JL.callS (c_frames_reduced n H120 (Frac.mk z_82 z_83) y119 hy119) rfl en_78 .none rfl ?_
          refine JA.after hE hs120 (.cons_cons _ (.cons_cons _ (.cons_cons _ (.cons_cons _ (List.nil_sublist _))))) ?_
          refine JA.many [4] (by kernel_rfl) (by simp) (all_one ⟨_, #[true, true, true, true, true, false, false], rfl, (by kernel_rfl), ?_⟩)
          refine JL.storeOwn 2 (cs := [.int .i64 y118.Num, .int .i64 y118.Den]) az_51 rfl rfl rfl (one_cons rfl (one_cons rfl one_nil)) rfl rfl .none ?_
          refine JA.sink (by kernel_rfl) ?_
          refine JA.many [5] (by kernel_rfl) (by simp) (all_one ⟨_, #[true, true, true, true, true, true, false], rfl, (by kernel_rfl), ?_⟩)
          refine JL.storeOwn 1 (cs := [.int .i64 y119.Num, .int .i64 y119.Den]) az_51 rfl rfl rfl (one_cons rfl (one_cons rfl one_nil)) rfl rfl .none ?_
          refine JA.sink (by kernel_rfl) ?_
          refine JA.many [6] (by kernel_rfl) (by simp) (all_one ⟨_, #[true, true, true, true, true, true, true], rfl, (by kernel_rfl), ?_⟩)
          refine JL.assign .none rfl ?_
          refine JA.sink (by kernel_rfl) ?_
          refine JA.done hQ (by kernel_rfl) ?_
          refine JQ.go ?_
          refine JC.ret ?_
          obtain rfl := Option.some.inj hF
          exact JQ.outSM rfl (.cons 3 rfl .nil) (.cell 2 az_51 rfl rfl rfl (.cell 1 az_51 rfl rfl rfl (.tmp .nil))) rfl
        intro nd119_0
        refine JA.take 0 (listed' := #[true, false, false, false, false, false, false]) hQ rfl (by kernel_rfl) (by kernel_rfl) (by kernel_rfl) (by kernel_rfl) (by kernel_rfl) hE (HSub.refl _) (.cons_cons _ (.cons_cons _ (.cons_cons _ (.cons_cons _ (List.nil_sublist _))))) ?_
        refine JL.loadOwn 2 az_51 rfl rfl rfl .none rfl ?_
        refine JA.cont ?_
        refine JA.many [1, 2] (by kernel_rfl) (by simp) (all_cons ⟨_, #[true, true, false, false, false, false, false], rfl, (by kernel_rfl), ?_⟩ (all_one ⟨_, #[true, false, true, false, false, false, false], rfl, (by kernel_rfl), ?_⟩))
        · skip
          refine JL.callS (c_frames_reduced n H86 (Frac.mk z_84 z_85) y118 hy118) rfl en_78 .none rfl ?_
          refine JA.after hE (HSub.refl _) (.cons_cons _ (.cons_cons _ (.cons_cons _ (.cons_cons _ (List.nil_sublist _))))) ?_
          refine JA.many [2] (by kernel_rfl) (by simp) (all_one ⟨_, #[true, true, true, false, false, false, false], rfl, (by kernel_rfl), ?_⟩)
          refine JL.loadOwn 1 az_51 rfl rfl rfl .none rfl ?_
          refine JA.after hE (HSub.refl _) (.cons_cons _ (.cons_cons _ (.cons_cons _ (.cons_cons _ (List.nil_sublist _))))) ?_
          exact nd119_0 _ _ _ _ ⟨rfl, rfl, rfl, rfl, rfl, rfl, rfl, (HSub.refl _)⟩
        · skip
          refine JL.loadOwn 1 az_51 rfl rfl rfl .none rfl ?_
          refine JA.after hE (HSub.refl _) (.cons_cons _ (.cons_cons _ (.cons_cons _ (.cons_cons _ (List.nil_sublist _))))) ?_
          refine JA.many [1] (by kernel_rfl) (by simp) (all_one ⟨_, #[true, true, true, false, false, false, false], rfl, (by kernel_rfl), ?_⟩)
          refine JL.callS (c_frames_reduced n H86 (Frac.mk z_84 z_85) y118 hy118) rfl en_78 .none rfl ?_
          refine JA.after hE (HSub.refl _) (.cons_cons _ (.cons_cons _ (.cons_cons _ (.cons_cons _ (List.nil_sublist _))))) ?_
          exact nd119_0 _ _ _ _ ⟨rfl, rfl, rfl, rfl, rfl, rfl, rfl, (HSub.refl _)⟩
      · rintro _ _ _ _ _ _ _ h; exact h.elim

-- 142 ferrule/gusts.down
def F_gusts_down (n : Nat) (a : Int) (b : Int) : Option Int :=
  (nz b).bind fun _ => (nz b).bind fun _ => (if decide ((a.tmod b) < 0) = true then (some (w64 ((w64 (a.tdiv b)) - 1))) else (some (w64 (a.tdiv b)))).bind fun q_4 => some q_4
set_option maxRecDepth 100000 in
set_option maxHeartbeats 40000000 in
theorem c_gusts_down (n : Nat) (H : Hp) (a : Int) (b : Int) (y : Int) (hF : F_gusts_down n a b = some y) : SC Try.prog 142 [.int .i64 a, .int .i64 b] (.int .i64 y) H := by
  rw [F_gusts_down] at hF
  refine SC.of (N := 16) Try.func142 rfl rfl rfl fun w => ?_
  refine JC.seq ?_
  refine JC.region (by rfl) ?_
  intro hQ
  refine JL.assign .none rfl ?_
  refine JL.done hQ ?_
  refine JQ.go ?_
  refine JC.seq ?_
  refine JC.region (by rfl) ?_
  intro hQ
  refine JL.move .none rfl ?_
  refine JL.move .none rfl ?_
  obtain ⟨u1, hu1, hF⟩ := bind_some hF
  refine JL.div rfl rfl (nz_some hu1) rfl .none rfl ?_
  refine JL.assign .none rfl ?_
  refine JL.done hQ ?_
  refine JQ.go ?_
  refine JC.seq ?_
  refine JC.seq ?_
  refine JC.region (by rfl) ?_
  intro hQ
  refine JL.move .none rfl ?_
  refine JL.move .none rfl ?_
  obtain ⟨u2, hu2, hF⟩ := bind_some hF
  refine JL.div rfl rfl (nz_some hu2) rfl .none rfl ?_
  refine JL.bin rfl rfl rfl .none rfl ?_
  refine JL.done hQ ?_
  refine JQ.go ?_
  obtain ⟨r6, hlr6, hKr6⟩ := bind_some hF
  refine JC.join (fun (q_4 : Int) H5 f bs gs => f 5 = .int .i64 q_4 ∧ bs = [] ∧ gs = [] ∧ HSub H H5 ∧ q_4 = r6) ?_ ?_
  · have hF := hlr6
    rcases ite_some hF with ⟨hc7, hF⟩ | ⟨hc7, hF⟩
    · refine JC.cond_t (b := decide ((a.tmod b) < 0)) rfl hc7 ?_
      refine JC.region (by rfl) ?_
      intro hQ
      refine JL.move .none rfl ?_
      refine JL.bin rfl rfl rfl .none rfl ?_
      refine JL.assign .none rfl ?_
      refine JL.done hQ ?_
      obtain rfl := Option.some.inj hF
      exact JQ.join (w64 ((w64 (a.tdiv b)) - 1)) ⟨rfl, rfl, rfl, (HSub.refl _), rfl⟩
    · refine JC.cond_f (b := decide ((a.tmod b) < 0)) rfl hc7 ?_
      refine JC.skip ?_
      obtain rfl := Option.some.inj hF
      exact JQ.join (w64 (a.tdiv b)) ⟨rfl, rfl, rfl, (HSub.refl _), rfl⟩
  · rintro q_4 H5 f bs gs ⟨hf5, rfl, rfl, hs5, rfl⟩
    have hF := hKr6
    try dsimp only at hF
    refine (JQ.norm (i := 5) hf5 ?_)
    refine JQ.go ?_
    refine JC.seq ?_
    refine JC.region (by rfl) ?_
    intro hQ
    refine JL.move .none rfl ?_
    refine JL.assign .none rfl ?_
    refine JL.done hQ ?_
    refine JQ.go ?_
    refine JC.ret ?_
    obtain rfl := Option.some.inj hF
    exact JQ.outS rfl (.tmp .nil) rfl

-- 141 ferrule/gusts.lift$1
def F_gusts_lift_1 (n : Nat) (c : Frac) : Option Int :=
  (F_gusts_down n (w64 (100 * c.Num)) c.Den).bind fun y2 => some (min 200 (max 0 (w64 (100 + y2))))
set_option maxRecDepth 100000 in
set_option maxHeartbeats 40000000 in
theorem c_gusts_lift_1 (n : Nat) (H : Hp) (c : Frac) (y : Int) (hF : F_gusts_lift_1 n c = some y) : SC Try.prog 141 [.agg [.int .i64 c.Num, .int .i64 c.Den].toArray] (.int .i64 y) H := by
  rw [F_gusts_lift_1] at hF
  refine SC.of (N := 12) Try.func141 rfl rfl rfl fun w => ?_
  refine JC.seq ?_
  refine JC.region (by rfl) ?_
  intro hQ
  refine JL.box (cs := [.int .i64 c.Num, .int .i64 c.Den]) rfl .none rfl ?_
  intro b1
  refine JL.assign .none rfl ?_
  refine JL.done hQ ?_
  refine JQ.go ?_
  refine JC.seq ?_
  refine JC.region (by rfl) ?_
  intro hQ
  refine JL.fieldAddr fo_51_0 rfl .none rfl ?_
  refine JL.loadOwn 0 az_3 rfl rfl rfl .none rfl ?_
  refine JL.bin rfl rfl rfl .none rfl ?_
  refine JL.fieldAddr fo_51_1 rfl .none rfl ?_
  refine JL.loadOwn 0 az_3 rfl rfl rfl .none rfl ?_
  obtain ⟨y2, hy2, hF⟩ := bind_some hF
  refine JL.callS (c_gusts_down n H (w64 (100 * c.Num)) c.Den y2 hy2) rfl en_142 .none rfl ?_
  refine JL.bin rfl rfl rfl .none rfl ?_
  refine JL.max rfl rfl .none rfl ?_
  refine JL.min rfl rfl .none rfl ?_
  refine JL.assign .none rfl ?_
  refine JL.done hQ ?_
  refine JQ.go ?_
  refine JC.ret ?_
  obtain rfl := Option.some.inj hF
  exact JQ.outS rfl (.tmp .nil) rfl

-- 85 ferrule/gusts.lift
def F_gusts_lift (n : Nat) (d : Canopy) : Option Span :=
  (F_frames_Cosine n d.Frame 0 d.Frame.Low).bind fun y3 => (F_gusts_lift_1 n y3.1).bind fun y8 => (F_gusts_lift_1 n y3.2.1).bind fun y9 => some (Span.mk y8 y9)
set_option maxRecDepth 100000 in
set_option maxHeartbeats 40000000 in
theorem c_gusts_lift (n : Nat) (H : Hp) (d : Canopy) (d_v0 : Value) (hd_0 : SL H 7 R_Section d_v0 d.Frame.Sections) (d_v7 : Value) (hd_7 : SL H 2 R_Span d_v7 d.Ribs) (d_v8 : Value) (hd_8 : SL H 1 RInt d_v8 d.Shares) (y : Span) (hF : F_gusts_lift n d = some y) : SC Try.prog 85 [.agg [d_v0, .int .i64 d.Frame.Low, .int .i64 d.Frame.High, .int .i64 d.Frame.Ease.Num, .int .i64 d.Frame.Ease.Den, .int .i64 d.Frame.Rod, .int .i64 d.Frame.Case, d_v7, d_v8].toArray] (.agg [.int .i64 y.Low, .int .i64 y.High].toArray) H := by
  rw [F_gusts_lift] at hF
  refine SC.of (N := 24) Try.func85 rfl rfl rfl fun w => ?_
  refine JC.seq ?_
  refine JC.region (by rfl) ?_
  intro hQ
  refine JL.box (cs := [d_v0, .int .i64 d.Frame.Low, .int .i64 d.Frame.High, .int .i64 d.Frame.Ease.Num, .int .i64 d.Frame.Ease.Den, .int .i64 d.Frame.Rod, .int .i64 d.Frame.Case, d_v7, d_v8]) rfl .none rfl ?_
  intro b1
  refine JL.alloc ze_39 .none rfl ?_
  intro b2
  refine JL.done hQ ?_
  refine JQ.go ?_
  refine JC.seq ?_
  refine JC.region (by rfl) ?_
  intro hQ
  refine JL.fieldAddr fo_76_0 rfl .none rfl ?_
  refine JL.loadOwn 1 az_53 rfl rfl rfl .none rfl ?_
  refine JL.fieldAddr fo_76_0 rfl .none rfl ?_
  refine JL.fieldAddr fo_53_1 rfl .none rfl ?_
  refine JL.loadOwn 1 az_3 rfl rfl rfl .none rfl ?_
  obtain ⟨y3, hy3, hF⟩ := bind_some hF
  refine JL.callS (c_frames_Cosine n H d.Frame d_v0 hd_0 0 d.Frame.Low y3 hy3) rfl en_28 .none rfl ?_
  refine JL.move .none rfl ?_
  refine JL.extract rfl rfl .none rfl ?_
  refine JL.extract rfl rfl .none rfl ?_
  refine JL.extract rfl rfl .none rfl ?_
  refine JL.alloc ze_51 .none rfl ?_
  intro b4
  refine JL.alloc ze_51 .none rfl ?_
  intro b5
  refine JL.storeOwn 1 (cs := [.int .i64 y3.1.Num, .int .i64 y3.1.Den]) az_51 rfl rfl rfl (one_cons rfl (one_cons rfl one_nil)) rfl rfl .none ?_
  refine JL.storeOwn 0 (cs := [.int .i64 y3.2.1.Num, .int .i64 y3.2.1.Den]) az_51 rfl rfl rfl (one_cons rfl (one_cons rfl one_nil)) rfl rfl .none ?_
  refine JL.assign .none rfl ?_
  refine JL.done hQ ?_
  refine JQ.go ?_
  refine JC.fresh (fun f => f 2 = .pointer (some ⟨b2, 0, none⟩) ∧ f 3 = .pointer (some ⟨b4, 0, none⟩) ∧ f 4 = .pointer (some ⟨b5, 0, none⟩)) ⟨rfl, rfl, rfl⟩ ?_
  rintro f ⟨hf2, hf3, hf4⟩
  refine (JC.norm (i := 2) hf2 (JC.norm (i := 3) hf3 (JC.norm (i := 4) hf4 ?_)))
  refine JC.seq ?_
  refine JC.region (by rfl) ?_
  intro hQ
  refine JL.assign .none rfl ?_
  refine JL.done hQ ?_
  refine JQ.go ?_
  refine JC.seq ?_
  obtain ⟨y8, hy8, hF⟩ := bind_some hF
  obtain ⟨y9, hy9, hF⟩ := bind_some hF
  refine JC.mixed 7 8 #[false, false, false, false, false, false, false, false] [(b5, .cells [.int .i64 y3.2.1.Num, .int .i64 y3.2.1.Den].toArray 51), (b4, .cells [.int .i64 y3.1.Num, .int .i64 y3.1.Den].toArray 51), (b2, .cells [.int .i64 0, .int .i64 0].toArray 39), (b1, .cells [d_v0, .int .i64 d.Frame.Low, .int .i64 d.Frame.High, .int .i64 d.Frame.Ease.Num, .int .i64 d.Frame.Ease.Den, .int .i64 d.Frame.Rod, .int .i64 d.Frame.Case, d_v7, d_v8].toArray 76)] (by rfl) mo_ (by kernel_rfl) (by kernel_rfl) ?_
  intro hQ hE
  refine JA.take 0 (listed' := #[true, false, false, false, false, false, false, false]) hQ rfl (by kernel_rfl) (by kernel_rfl) (by kernel_rfl) (by kernel_rfl) (by kernel_rfl) hE (HSub.refl _) (.cons_cons _ (.cons_cons _ (.cons_cons _ (.cons_cons _ (List.nil_sublist _))))) ?_
  refine JL.move .none rfl ?_
  refine JA.cont ?_
  refine JA.take 1 (listed' := #[true, true, false, false, false, false, false, false]) hQ rfl (by kernel_rfl) (by kernel_rfl) (by kernel_rfl) (by kernel_rfl) (by kernel_rfl) hE (HSub.refl _) (.cons_cons _ (.cons_cons _ (.cons_cons _ (.cons_cons _ (List.nil_sublist _))))) ?_
  refine JL.loadOwn 1 az_51 rfl rfl rfl .none rfl ?_
  refine JA.cont ?_
  refine JA.take 3 (listed' := #[true, true, false, true, false, false, false, false]) hQ rfl (by kernel_rfl) (by kernel_rfl) (by kernel_rfl) (by kernel_rfl) (by kernel_rfl) hE (HSub.refl _) (.cons_cons _ (.cons_cons _ (.cons_cons _ (.cons_cons _ (List.nil_sublist _))))) ?_
  refine JL.move .none rfl ?_
  refine JA.cont ?_
  refine JA.take 4 (listed' := #[true, true, false, true, true, false, false, false]) hQ rfl (by kernel_rfl) (by kernel_rfl) (by kernel_rfl) (by kernel_rfl) (by kernel_rfl) hE (HSub.refl _) (.cons_cons _ (.cons_cons _ (.cons_cons _ (.cons_cons _ (List.nil_sublist _))))) ?_
  refine JL.loadOwn 0 az_51 rfl rfl rfl .none rfl ?_
  refine JA.cont ?_
  refine JA.many [2] (by kernel_rfl) (by simp) (all_one ⟨_, #[true, true, true, true, true, false, false, false], rfl, (by kernel_rfl), ?_⟩)
  refine JL.callV (caps := []) rfl (c_gusts_lift_1 n H y3.1 y8 hy8) rfl en_141 .none rfl ?_
  refine JA.after hE (HSub.refl _) (.cons_cons _ (.cons_cons _ (.cons_cons _ (.cons_cons _ (List.nil_sublist _))))) ?_
  refine JA.many [5] (by kernel_rfl) (by simp) (all_one ⟨_, #[true, true, true, true, true, true, false, false], rfl, (by kernel_rfl), ?_⟩)
  refine JL.callV (caps := []) rfl (c_gusts_lift_1 n H y3.2.1 y9 hy9) rfl en_141 .none rfl ?_
  refine JA.after hE (HSub.refl _) (.cons_cons _ (.cons_cons _ (.cons_cons _ (.cons_cons _ (List.nil_sublist _))))) ?_
  refine JA.take 6 (listed' := #[true, true, true, true, true, true, true, false]) hQ rfl (by kernel_rfl) (by kernel_rfl) (by kernel_rfl) (by kernel_rfl) (by kernel_rfl) hE (HSub.refl _) (.cons_cons _ (.cons_cons _ (.cons_cons _ (.cons_cons _ (List.nil_sublist _))))) ?_
  refine JL.build (l := [.int .i64 y8, .int .i64 y9]) (by kernel_rfl) .none rfl ?_
  refine JA.cont ?_
  refine JA.many [7] (by kernel_rfl) (by simp) (all_one ⟨_, #[true, true, true, true, true, true, true, true], rfl, (by kernel_rfl), ?_⟩)
  refine JL.storeOwn 2 (cs := [.int .i64 y8, .int .i64 y9]) az_39 rfl rfl rfl (one_cons rfl (one_cons rfl one_nil)) rfl rfl .none ?_
  refine JA.sink (by kernel_rfl) ?_
  refine JA.done hQ (by kernel_rfl) ?_
  refine JQ.go ?_
  refine JC.ret ?_
  obtain rfl := Option.some.inj hF
  exact JQ.outS rfl (.cell 2 az_39 rfl rfl rfl .nil) rfl

-- 36 ferrule/gusts.Lift
def F_gusts_Lift (n : Nat) (d : Canopy) : Option (Span × Int) :=
  (F_gusts_Check n d).bind fun y3 => if (y3 != 0) = true then (some ((Span.mk 0 0), y3)) else ((F_gusts_lift n d).bind fun y5 => some (y5, 0))
set_option maxRecDepth 100000 in
set_option maxHeartbeats 40000000 in
theorem c_gusts_Lift (n : Nat) (H : Hp) (d : Canopy) (d_v0 : Value) (hd_0 : SL H 7 R_Section d_v0 d.Frame.Sections) (d_v7 : Value) (hd_7 : SL H 2 R_Span d_v7 d.Ribs) (d_v8 : Value) (hd_8 : SL H 1 RInt d_v8 d.Shares) (y : Span × Int) (hF : F_gusts_Lift n d = some y) : SC Try.prog 36 [.agg [d_v0, .int .i64 d.Frame.Low, .int .i64 d.Frame.High, .int .i64 d.Frame.Ease.Num, .int .i64 d.Frame.Ease.Den, .int .i64 d.Frame.Rod, .int .i64 d.Frame.Case, d_v7, d_v8].toArray] (.tuple [.agg [.int .i64 y.1.Low, .int .i64 y.1.High].toArray, .int .i64 y.2].toArray) H := by
  rw [F_gusts_Lift] at hF
  refine SC.of (N := 13) Try.func36 rfl rfl rfl fun w => ?_
  refine JC.seq ?_
  refine JC.region (by rfl) ?_
  intro hQ
  refine JL.box (cs := [d_v0, .int .i64 d.Frame.Low, .int .i64 d.Frame.High, .int .i64 d.Frame.Ease.Num, .int .i64 d.Frame.Ease.Den, .int .i64 d.Frame.Rod, .int .i64 d.Frame.Case, d_v7, d_v8]) rfl .none rfl ?_
  intro b1
  refine JL.alloc ze_39 .none rfl ?_
  intro b2
  refine JL.assign .none rfl ?_
  refine JL.done hQ ?_
  refine JQ.go ?_
  refine JC.seq ?_
  refine JC.seq ?_
  refine JC.region (by rfl) ?_
  intro hQ
  refine JL.loadOwn 1 az_76 rfl rfl rfl .none rfl ?_
  obtain ⟨y3, hy3, hF⟩ := bind_some hF
  refine JL.callS (c_gusts_Check n H d d_v0 hd_0 d_v7 hd_7 d_v8 hd_8 y3 hy3) rfl en_84 .none rfl ?_
  refine JL.assign .none rfl ?_
  refine JL.done hQ ?_
  refine JQ.go ?_
  refine JC.seq ?_
  refine JC.region (by rfl) ?_
  intro hQ
  refine JL.move .none rfl ?_
  refine JL.bin rfl rfl rfl .none rfl ?_
  refine JL.done hQ ?_
  refine JQ.go ?_
  rcases ite_some hF with ⟨hc4, hF⟩ | ⟨hc4, hF⟩
  · refine JC.cond_t (b := (y3 != 0)) rfl hc4 ?_
    refine JC.seq ?_
    refine JC.region (by rfl) ?_
    intro hQ
    refine JL.build (l := [.int .i64 0, .int .i64 0]) (by kernel_rfl) .none rfl ?_
    refine JL.move .none rfl ?_
    refine JL.storeOwn 0 (cs := [.int .i64 0, .int .i64 0]) az_39 rfl rfl rfl (one_cons rfl (one_cons rfl one_nil)) rfl rfl .none ?_
    refine JL.assign .none rfl ?_
    refine JL.done hQ ?_
    refine JQ.go ?_
    refine JC.ret ?_
    refine JQ.ret_then ?_
    obtain rfl := Option.some.inj hF
    exact JQ.outS rfl (.cell 0 az_39 rfl rfl rfl (.tmp .nil)) rfl
  · refine JC.cond_f (b := (y3 != 0)) rfl hc4 ?_
    refine JC.skip ?_
    refine JQ.go ?_
    refine JC.seq ?_
    refine JC.region (by rfl) ?_
    intro hQ
    refine JL.loadOwn 1 az_76 rfl rfl rfl .none rfl ?_
    obtain ⟨y5, hy5, hF⟩ := bind_some hF
    refine JL.callS (c_gusts_lift n H d d_v0 hd_0 d_v7 hd_7 d_v8 hd_8 y5 hy5) rfl en_85 .none rfl ?_
    refine JL.storeOwn 0 (cs := [.int .i64 y5.Low, .int .i64 y5.High]) az_39 rfl rfl rfl (one_cons rfl (one_cons rfl one_nil)) rfl rfl .none ?_
    refine JL.assign .none rfl ?_
    refine JL.done hQ ?_
    refine JQ.go ?_
    refine JC.ret ?_
    obtain rfl := Option.some.inj hF
    exact JQ.outS rfl (.cell 0 az_39 rfl rfl rfl (.tmp .nil)) rfl

-- 35 ferrule/ferruletop.blown
def F_top_blown (n : Nat)  : Option Bool :=
  (F_law01_Example n).bind fun y1 => (F_frames_Opens n y1).bind fun y4 => (F_law05_Example n).bind fun y5 => (F_gusts_Lift n y5).bind fun y8 => some ((((y4.2 == 0) && (y8.2 == 0)) && (y4.1 == 1)) && ((y8.1.Low == 65) && (y8.1.High == 76)))
set_option maxRecDepth 100000 in
set_option maxHeartbeats 40000000 in
theorem c_top_blown (n : Nat) (H : Hp)  (y : Bool) (hF : F_top_blown n = some y) : SC Try.prog 35 [] (.bool y) H := by
  rw [F_top_blown] at hF
  refine SC.of (N := 30) Try.func35 rfl rfl rfl fun w => ?_
  refine JC.seq ?_
  refine JC.region (by rfl) ?_
  intro hQ
  refine JL.assign .none rfl ?_
  refine JL.done hQ ?_
  refine JQ.go ?_
  refine JC.seq ?_
  refine JC.region (by rfl) ?_
  intro hQ
  obtain ⟨y1, hy1, hF⟩ := bind_some hF
  refine JL.callH (c_law01_Example n H y1 hy1) rfl en_69 .none rfl ?_
  rintro H2 vv3 hs2 ⟨y1a_v0, rfl, hy1a_0⟩
  obtain ⟨y4, hy4, hF⟩ := bind_some hF
  refine JL.callS (c_frames_Opens n H2 y1 y1a_v0 hy1a_0 y4 hy4) rfl en_30 .none rfl ?_
  refine JL.move .none rfl ?_
  refine JL.extract rfl rfl .none rfl ?_
  refine JL.extract rfl rfl .none rfl ?_
  refine JL.assign .none rfl ?_
  refine JL.assign .none rfl ?_
  refine JL.done hQ ?_
  refine JQ.go ?_
  refine JC.seq ?_
  refine JC.region (by rfl) ?_
  intro hQ
  obtain ⟨y5, hy5, hF⟩ := bind_some hF
  refine JL.callH (c_law05_Example n H2 y5 hy5) rfl en_83 .none rfl ?_
  rintro H6 vv7 hs6 ⟨y5a_v0, y5a_v7, y5a_v8, rfl, hy5a_0, hy5a_7, hy5a_8⟩
  obtain ⟨y8, hy8, hF⟩ := bind_some hF
  refine JL.callS (c_gusts_Lift n H6 y5 y5a_v0 hy5a_0 y5a_v7 hy5a_7 y5a_v8 hy5a_8 y8 hy8) rfl en_36 .none rfl ?_
  refine JL.move .none rfl ?_
  refine JL.extract rfl rfl .none rfl ?_
  refine JL.extract rfl rfl .none rfl ?_
  refine JL.alloc ze_39 .none rfl ?_
  intro b9
  refine JL.storeOwn 0 (cs := [.int .i64 y8.1.Low, .int .i64 y8.1.High]) az_39 rfl rfl rfl (one_cons rfl (one_cons rfl one_nil)) rfl rfl .none ?_
  refine JL.assign .none rfl ?_
  refine JL.done hQ ?_
  refine JQ.go ?_
  refine JC.fresh (fun f => f 0 = .bool false ∧ f 1 = .int .i64 y4.1 ∧ f 2 = .int .i64 y4.2 ∧ f 3 = .pointer (some ⟨b9, 0, none⟩) ∧ f 4 = .int .i64 y8.2) ⟨rfl, rfl, rfl, rfl, rfl⟩ ?_
  rintro f ⟨hf0, hf1, hf2, hf3, hf4⟩
  refine (JC.norm (i := 0) hf0 (JC.norm (i := 1) hf1 (JC.norm (i := 2) hf2 (JC.norm (i := 3) hf3 (JC.norm (i := 4) hf4 ?_)))))
  refine JC.seq ?_
  refine JC.region (by rfl) ?_
  intro hQ
  refine JL.move .none rfl ?_
  refine JL.bin rfl rfl rfl .none rfl ?_
  refine JL.move .none rfl ?_
  refine JL.cut 3 (fun f => f 1 = .int .i64 y4.1 ∧ f 3 = .pointer (some ⟨b9, 0, none⟩) ∧ f 20 = .bool ((y4.2 == 0) && (y8.2 == 0))) ?_ ?_
  · intro hJ10
    rcases bcases (y4.2 == 0) with hc11 | hc11
    · skip
      refine JL.move (.some rfl rfl rfl hc11) rfl ?_
      refine JL.bin rfl rfl rfl (.some rfl rfl rfl hc11) rfl ?_
      refine JL.pick_t (b := (y4.2 == 0)) rfl hc11 .none rfl ?_
      exact hJ10 _ ⟨rfl, rfl, and_t hc11 rfl⟩
    · skip
      refine JL.skip (.bool rfl rfl rfl hc11) rfl ?_
      refine JL.skip (.bool rfl rfl rfl hc11) rfl ?_
      refine JL.pick_f (b := (y4.2 == 0)) rfl hc11 .none rfl ?_
      exact hJ10 _ ⟨rfl, rfl, and_f hc11 rfl⟩
  · rintro f ⟨hf1, hf3, hf20⟩
    refine (JL.norm (i := 1) hf1 (JL.norm (i := 3) hf3 (JL.norm (i := 20) hf20 ?_)))
    refine JL.move .none rfl ?_
    refine JL.cut 3 (fun f => f 3 = .pointer (some ⟨b9, 0, none⟩) ∧ f 24 = .bool (((y4.2 == 0) && (y8.2 == 0)) && (y4.1 == 1))) ?_ ?_
    · intro hJ12
      rcases bcases ((y4.2 == 0) && (y8.2 == 0)) with hc13 | hc13
      · skip
        refine JL.move (.some rfl rfl rfl hc13) rfl ?_
        refine JL.bin rfl rfl rfl (.some rfl rfl rfl hc13) rfl ?_
        refine JL.pick_t (b := ((y4.2 == 0) && (y8.2 == 0))) rfl hc13 .none rfl ?_
        exact hJ12 _ ⟨rfl, and_t hc13 rfl⟩
      · skip
        refine JL.skip (.bool rfl rfl rfl hc13) rfl ?_
        refine JL.skip (.bool rfl rfl rfl hc13) rfl ?_
        refine JL.pick_f (b := ((y4.2 == 0) && (y8.2 == 0))) rfl hc13 .none rfl ?_
        exact hJ12 _ ⟨rfl, and_f hc13 rfl⟩
    · rintro f ⟨hf3, hf24⟩
      refine (JL.norm (i := 3) hf3 (JL.norm (i := 24) hf24 ?_))
      refine JL.move .none rfl ?_
      refine JL.cut 4 (fun f => f 29 = .bool ((((y4.2 == 0) && (y8.2 == 0)) && (y4.1 == 1)) && ((y8.1.Low == 65) && (y8.1.High == 76)))) ?_ ?_
      · intro hJ14
        rcases bcases (((y4.2 == 0) && (y8.2 == 0)) && (y4.1 == 1)) with hc15 | hc15
        · skip
          refine JL.loadOwn 0 az_39 rfl rfl rfl (.some rfl rfl rfl hc15) rfl ?_
          refine JL.build (l := [.int .i64 65, .int .i64 76]) (by kernel_rfl) (.some rfl rfl rfl hc15) rfl ?_
          refine JL.eqAgg eqg_39 rfl rfl (fun w => eqa_39 y8.1.Low y8.1.High 65 76 w) (.some rfl rfl rfl hc15) rfl ?_
          refine JL.pick_t (b := (((y4.2 == 0) && (y8.2 == 0)) && (y4.1 == 1))) rfl hc15 .none rfl ?_
          exact hJ14 _ (and_t hc15 rfl)
        · skip
          refine JL.skip (.bool rfl rfl rfl hc15) rfl ?_
          refine JL.skip (.bool rfl rfl rfl hc15) rfl ?_
          refine JL.skip (.bool rfl rfl rfl hc15) rfl ?_
          refine JL.pick_f (b := (((y4.2 == 0) && (y8.2 == 0)) && (y4.1 == 1))) rfl hc15 .none rfl ?_
          exact hJ14 _ (and_f hc15 rfl)
      · rintro f hf29
        refine (JL.norm (i := 29) hf29 ?_)
        refine JL.assign .none rfl ?_
        refine JL.done hQ ?_
        refine JQ.go ?_
        refine JC.ret ?_
        obtain rfl := Option.some.inj hF
        exact JQ.outS rfl (.tmp .nil) rfl

-- 86 ferrule/ferruletop.down
def F_top_down (n : Nat) (a : Int) (b : Int) : Option Int :=
  (nz b).bind fun _ => (nz b).bind fun _ => (if decide ((a.tmod b) < 0) = true then (some (w64 ((w64 (a.tdiv b)) - 1))) else (some (w64 (a.tdiv b)))).bind fun n_4 => some n_4
set_option maxRecDepth 100000 in
set_option maxHeartbeats 40000000 in
theorem c_top_down (n : Nat) (H : Hp) (a : Int) (b : Int) (y : Int) (hF : F_top_down n a b = some y) : SC Try.prog 86 [.int .i64 a, .int .i64 b] (.int .i64 y) H := by
  rw [F_top_down] at hF
  refine SC.of (N := 16) Try.func86 rfl rfl rfl fun w => ?_
  refine JC.seq ?_
  refine JC.region (by rfl) ?_
  intro hQ
  refine JL.assign .none rfl ?_
  refine JL.done hQ ?_
  refine JQ.go ?_
  refine JC.seq ?_
  refine JC.region (by rfl) ?_
  intro hQ
  refine JL.move .none rfl ?_
  refine JL.move .none rfl ?_
  obtain ⟨u1, hu1, hF⟩ := bind_some hF
  refine JL.div rfl rfl (nz_some hu1) rfl .none rfl ?_
  refine JL.assign .none rfl ?_
  refine JL.done hQ ?_
  refine JQ.go ?_
  refine JC.seq ?_
  refine JC.seq ?_
  refine JC.region (by rfl) ?_
  intro hQ
  refine JL.move .none rfl ?_
  refine JL.move .none rfl ?_
  obtain ⟨u2, hu2, hF⟩ := bind_some hF
  refine JL.div rfl rfl (nz_some hu2) rfl .none rfl ?_
  refine JL.bin rfl rfl rfl .none rfl ?_
  refine JL.done hQ ?_
  refine JQ.go ?_
  obtain ⟨r6, hlr6, hKr6⟩ := bind_some hF
  refine JC.join (fun (n_4 : Int) H5 f bs gs => f 5 = .int .i64 n_4 ∧ bs = [] ∧ gs = [] ∧ HSub H H5 ∧ n_4 = r6) ?_ ?_
  · have hF := hlr6
    rcases ite_some hF with ⟨hc7, hF⟩ | ⟨hc7, hF⟩
    · refine JC.cond_t (b := decide ((a.tmod b) < 0)) rfl hc7 ?_
      refine JC.region (by rfl) ?_
      intro hQ
      refine JL.move .none rfl ?_
      refine JL.bin rfl rfl rfl .none rfl ?_
      refine JL.assign .none rfl ?_
      refine JL.done hQ ?_
      obtain rfl := Option.some.inj hF
      exact JQ.join (w64 ((w64 (a.tdiv b)) - 1)) ⟨rfl, rfl, rfl, (HSub.refl _), rfl⟩
    · refine JC.cond_f (b := decide ((a.tmod b) < 0)) rfl hc7 ?_
      refine JC.skip ?_
      obtain rfl := Option.some.inj hF
      exact JQ.join (w64 (a.tdiv b)) ⟨rfl, rfl, rfl, (HSub.refl _), rfl⟩
  · rintro n_4 H5 f bs gs ⟨hf5, rfl, rfl, hs5, rfl⟩
    have hF := hKr6
    try dsimp only at hF
    refine (JQ.norm (i := 5) hf5 ?_)
    refine JQ.go ?_
    refine JC.seq ?_
    refine JC.region (by rfl) ?_
    intro hQ
    refine JL.move .none rfl ?_
    refine JL.assign .none rfl ?_
    refine JL.done hQ ?_
    refine JQ.go ?_
    refine JC.ret ?_
    obtain rfl := Option.some.inj hF
    exact JQ.outS rfl (.tmp .nil) rfl

-- 37 ferrule/ferruletop.lifted
def F_top_lifted (n : Nat) (c : Frac) : Option Int :=
  (F_top_down n (w64 (100 * c.Num)) c.Den).bind fun y2 => some (min 200 (max 0 (w64 (100 + y2))))
set_option maxRecDepth 100000 in
set_option maxHeartbeats 40000000 in
theorem c_top_lifted (n : Nat) (H : Hp) (c : Frac) (y : Int) (hF : F_top_lifted n c = some y) : SC Try.prog 37 [.agg [.int .i64 c.Num, .int .i64 c.Den].toArray] (.int .i64 y) H := by
  rw [F_top_lifted] at hF
  refine SC.of (N := 12) Try.func37 rfl rfl rfl fun w => ?_
  refine JC.seq ?_
  refine JC.region (by rfl) ?_
  intro hQ
  refine JL.box (cs := [.int .i64 c.Num, .int .i64 c.Den]) rfl .none rfl ?_
  intro b1
  refine JL.assign .none rfl ?_
  refine JL.done hQ ?_
  refine JQ.go ?_
  refine JC.seq ?_
  refine JC.region (by rfl) ?_
  intro hQ
  refine JL.fieldAddr fo_51_0 rfl .none rfl ?_
  refine JL.loadOwn 0 az_3 rfl rfl rfl .none rfl ?_
  refine JL.bin rfl rfl rfl .none rfl ?_
  refine JL.fieldAddr fo_51_1 rfl .none rfl ?_
  refine JL.loadOwn 0 az_3 rfl rfl rfl .none rfl ?_
  obtain ⟨y2, hy2, hF⟩ := bind_some hF
  refine JL.callS (c_top_down n H (w64 (100 * c.Num)) c.Den y2 hy2) rfl en_86 .none rfl ?_
  refine JL.bin rfl rfl rfl .none rfl ?_
  refine JL.max rfl rfl .none rfl ?_
  refine JL.min rfl rfl .none rfl ?_
  refine JL.assign .none rfl ?_
  refine JL.done hQ ?_
  refine JQ.go ?_
  refine JC.ret ?_
  obtain rfl := Option.some.inj hF
  exact JQ.outS rfl (.tmp .nil) rfl

-- 143 ferrule/gusts.ask$1
def F_gusts_ask_1 (n : Nat) (g : Gust) (c_0 : Canopy) : Option Bool :=
  (F_gusts_within n g.Force 0 99).bind fun y2 => (if (!y2) = true then (some true) else ((F_gusts_within n g.At 0 (w64 ((c_0.Ribs.length : Int) - 1))).bind fun y7 => some (!y7)) : Option Bool).bind fun p4 => some p4
set_option maxRecDepth 100000 in
set_option maxHeartbeats 40000000 in
theorem c_gusts_ask_1 (n : Nat) (H : Hp) (g : Gust) (c_0 : Canopy) (c_0_v0 : Value) (hc_0_0 : SL H 7 R_Section c_0_v0 c_0.Frame.Sections) (c_0_v7 : Value) (hc_0_7 : SL H 2 R_Span c_0_v7 c_0.Ribs) (c_0_v8 : Value) (hc_0_8 : SL H 1 RInt c_0_v8 c_0.Shares) (c_0_b : Nat) (c_0_c : Cells H c_0_b 0 [c_0_v0, .int .i64 c_0.Frame.Low, .int .i64 c_0.Frame.High, .int .i64 c_0.Frame.Ease.Num, .int .i64 c_0.Frame.Ease.Den, .int .i64 c_0.Frame.Rod, .int .i64 c_0.Frame.Case, c_0_v7, c_0_v8]) (y : Bool) (hF : F_gusts_ask_1 n g c_0 = some y) : SC Try.prog 143 [.agg [.int .i64 g.Force, .int .i64 g.At].toArray, .pointer (some ⟨c_0_b, 0, none⟩)] (.bool y) H := by
  rw [F_gusts_ask_1] at hF
  refine SC.of (N := 18) Try.func143 rfl rfl rfl fun w => ?_
  refine JC.seq ?_
  refine JC.region (by rfl) ?_
  intro hQ
  refine JL.box (cs := [.int .i64 g.Force, .int .i64 g.At]) rfl .none rfl ?_
  intro b1
  refine JL.assign .none rfl ?_
  refine JL.done hQ ?_
  refine JQ.go ?_
  refine JC.seq ?_
  refine JC.region (by rfl) ?_
  intro hQ
  refine JL.fieldAddr fo_86_0 rfl .none rfl ?_
  refine JL.loadOwn 0 az_3 rfl rfl rfl .none rfl ?_
  obtain ⟨y2, hy2, hF⟩ := bind_some hF
  refine JL.callS (c_gusts_within n H g.Force 0 99 y2 hy2) rfl en_137 .none rfl ?_
  refine JL.not rfl .none rfl ?_
  refine JL.move .none rfl ?_
  obtain ⟨p4, hp4, hF⟩ := bind_some hF
  refine JL.cut 9 (fun f => f 17 = .bool p4) ?_ ?_
  · intro hJ5
    rcases ite_some hp4 with ⟨hc6, hF⟩ | ⟨hc6, hF⟩
    · skip
      refine JL.skip (.bool rfl rfl rfl hc6) rfl ?_
      refine JL.skip (.bool rfl rfl rfl hc6) rfl ?_
      refine JL.skip (.bool rfl rfl rfl hc6) rfl ?_
      refine JL.skip (.bool rfl rfl rfl hc6) rfl ?_
      refine JL.skip (.bool rfl rfl rfl hc6) rfl ?_
      refine JL.skip (.bool rfl rfl rfl hc6) rfl ?_
      refine JL.skip (.bool rfl rfl rfl hc6) rfl ?_
      refine JL.skip (.bool rfl rfl rfl hc6) rfl ?_
      refine JL.pick_t (b := (!y2)) rfl hc6 .none rfl ?_
      obtain rfl := Option.some.inj hF
      exact hJ5 _ (rfl)
    · skip
      refine JL.fieldAddr fo_86_1 rfl (.some rfl rfl rfl hc6) rfl ?_
      refine JL.loadOwn 0 az_3 rfl rfl rfl (.some rfl rfl rfl hc6) rfl ?_
      refine JL.fieldAddr fo_76_1 rfl (.some rfl rfl rfl hc6) rfl ?_
      refine JL.loadH 7 az_24 rfl c_0_c rfl (.some rfl rfl rfl hc6) rfl ?_
      refine JL.lenSL (R := R_Span) ul_24 hc_0_7 (.some rfl rfl rfl hc6) rfl ?_
      refine JL.bin rfl rfl rfl (.some rfl rfl rfl hc6) rfl ?_
      obtain ⟨y7, hy7, hF⟩ := bind_some hF
      refine JL.callS (c_gusts_within n H g.At 0 (w64 ((c_0.Ribs.length : Int) - 1)) y7 hy7) rfl en_137 (.some rfl rfl rfl hc6) rfl ?_
      refine JL.not rfl (.some rfl rfl rfl hc6) rfl ?_
      refine JL.pick_f (b := (!y2)) rfl hc6 .none rfl ?_
      obtain rfl := Option.some.inj hF
      exact hJ5 _ (rfl)
  · rintro f hf17
    refine (JL.norm (i := 17) hf17 ?_)
    refine JL.assign .none rfl ?_
    refine JL.done hQ ?_
    refine JQ.go ?_
    refine JC.ret ?_
    obtain rfl := Option.some.inj hF
    exact JQ.outS rfl (.tmp .nil) rfl

-- 179 slices.IndexFunc[[]ferrule/api.Gust,ferrule/api.Gust]
def F_slices_IndexFunc___api_Gust_api_Gust__s1 (n : Nat) (s : List Gust) (f_ : Gust → Option Bool) : Int → Option (Int ⊕ (Int ⊕ Unit))
  | x_55 => if decide (x_55 < (s.length : Int)) = true then ((geti s x_55).bind fun y60 => (f_ y60).bind fun y65 => if y65 = true then (some (Sum.inr (Sum.inl x_55))) else (some (Sum.inl (w64 (x_55 + 1))))) else (some (Sum.inr (Sum.inr ())))
def F_slices_IndexFunc___api_Gust_api_Gust_ (n : Nat) (s : List Gust) (f_ : Gust → Option Bool) : Option Int :=
  (loopO n (F_slices_IndexFunc___api_Gust_api_Gust__s1 n s f_) 0).bind fun r34 => match r34 with | .inl o => some o | .inr _ => some (-1)
set_option maxRecDepth 100000 in
set_option maxHeartbeats 40000000 in
theorem c_slices_IndexFunc___api_Gust_api_Gust_ (n : Nat) (H : Hp) (s : List Gust) (s_v0 : Value) (hs_0 : SL H 2 R_Gust s_v0 s) (f_ : Gust → Option Bool) (f__k : Nat) (f__c : List Value) (f__e : Ent Try.prog f__k) (f__h : ∀ H', HSub H H' → ∀ (a0_ : Gust) (y : Bool), f_ a0_ = some y → SC Try.prog f__k ([.agg [.int .i64 a0_.Force, .int .i64 a0_.At].toArray] ++ f__c) (.bool y) H') (y : Int) (hF : F_slices_IndexFunc___api_Gust_api_Gust_ n s f_ = some y) : SC Try.prog 179 [s_v0, .func (.func f__k) #[] f__c.toArray] (.int .i64 y) H := by
  rw [F_slices_IndexFunc___api_Gust_api_Gust_] at hF
  refine SC.of (N := 19) Try.func179 rfl rfl rfl fun w => ?_
  refine JC.seq ?_
  refine JC.region (by rfl) ?_
  intro hQ
  refine JL.assign .none rfl ?_
  refine JL.done hQ ?_
  refine JQ.go ?_
  refine JC.seq ?_
  refine JC.seq ?_
  refine JC.region (by rfl) ?_
  intro hQ
  refine JL.move .none rfl ?_
  refine JL.lenSL (R := R_Gust) ul_103 hs_0 .none rfl ?_
  refine JL.move .none rfl ?_
  refine JL.done hQ ?_
  refine JQ.go ?_
  obtain ⟨r34, hlr34, hKr34⟩ := bind_some hF
  refine JC.join (fun (_ : Unit) H33 f bs gs => bs = [] ∧ gs = [] ∧ HSub H H33 ∧ Sum.inr () = r34) ?_ ?_
  · skip
    refine JC.block ?_
    refine JC.loop hlr34 (fun (x_55 : Int) H56 f bs gs => f 0 = s_v0 ∧ f 1 = .func (.func f__k) #[] f__c.toArray ∧ f 7 = .int .i64 (s.length : Int) ∧ f 8 = .int .i64 x_55 ∧ bs = [] ∧ gs = [] ∧ HSub H H56) ⟨rfl, rfl, rfl, rfl, rfl, rfl, (HSub.refl _)⟩ ?_
    rintro x_55 x58 H56 f bs gs ⟨hf0, hf1, hf7, hf8, rfl, rfl, hs56⟩ hF hr57
    rw [F_slices_IndexFunc___api_Gust_api_Gust__s1] at hF
    refine (JC.norm (i := 0) hf0 (JC.norm (i := 1) hf1 (JC.norm (i := 7) hf7 (JC.norm (i := 8) hf8 ?_))))
    refine JC.seq ?_
    refine JC.region (by rfl) ?_
    intro hQ
    refine JL.bin rfl rfl rfl .none rfl ?_
    refine JL.done hQ ?_
    refine JQ.go ?_
    refine JC.seq ?_
    rcases ite_some hF with ⟨hc59, hF⟩ | ⟨hc59, hF⟩
    · refine JC.cond_t (b := decide (x_55 < (s.length : Int))) rfl hc59 ?_
      refine JC.skip ?_
      refine JQ.go ?_
      refine JC.seq ?_
      refine JC.block ?_
      refine JC.seq ?_
      refine JC.region (by rfl) ?_
      intro hQ
      refine JL.move .none rfl ?_
      refine JL.assign .none rfl ?_
      refine JL.done hQ ?_
      refine JQ.go ?_
      refine JC.seq ?_
      refine JC.region (by rfl) ?_
      intro hQ
      refine JL.move .none rfl ?_
      refine JL.move .none rfl ?_
      refine JL.move .none rfl ?_
      obtain ⟨y60, hy60, hF⟩ := bind_some hF
      refine JL.indexSL (R := R_Gust) sl_103 (SL.mono R_Gust_mono hs56 hs_0) rfl hy60 .none rfl ?_
      rintro b61 o62 cs63 hc64 - rfl
      refine JL.loadH 0 az_86 rfl hc64 rfl .none rfl ?_
      obtain ⟨y65, hy65, hF⟩ := bind_some hF
      refine JL.callV rfl (f__h H56 hs56 y60 y65 hy65) rfl f__e .none rfl ?_
      refine JL.done hQ ?_
      refine JQ.go ?_
      rcases ite_some hF with ⟨hc66, hF⟩ | ⟨hc66, hF⟩
      · refine JC.cond_t (b := y65) rfl hc66 ?_
        refine JC.seq ?_
        refine JC.region (by rfl) ?_
        intro hQ
        refine JL.move .none rfl ?_
        refine JL.assign .none rfl ?_
        refine JL.done hQ ?_
        refine JQ.go ?_
        refine JC.fresh (fun f => f 4 = .int .i64 x_55) rfl ?_
        rintro f hf4
        refine (JC.norm (i := 4) hf4 ?_)
        refine JC.ret ?_
        refine JQ.ret_block ?_
        refine JQ.ret_then ?_
        refine JQ.ret_then ?_
        refine JQ.ret_block ?_
        refine JQ.ret_join ?_
        refine JQ.ret_then ?_
        obtain rfl := Option.some.inj hF
        have ehr57 := hr57 _ rfl
        subst ehr57
        have hF := hKr34
        try dsimp only at hF
        obtain rfl := Option.some.inj hF
        exact JQ.outS rfl (.tmp .nil) rfl
      · refine JC.cond_f (b := y65) rfl hc66 ?_
        refine JC.skip ?_
        refine JQ.normal_block ?_
        refine JQ.go ?_
        refine JC.region (by rfl) ?_
        intro hQ
        refine JL.bin rfl rfl rfl .none rfl ?_
        refine JL.move .none rfl ?_
        refine JL.done hQ ?_
        obtain rfl := Option.some.inj hF
        exact JQ.next rfl ⟨rfl, rfl, rfl, rfl, rfl, rfl, hs56⟩
    · refine JC.cond_f (b := decide (x_55 < (s.length : Int))) rfl hc59 ?_
      refine JC.exit ?_
      refine JQ.exit_then ?_
      refine JQ.exit_then ?_
      refine JQ.exit_block ?_
      obtain rfl := Option.some.inj hF
      have ehr57 := hr57 _ rfl
      subst ehr57
      exact JQ.join () ⟨rfl, rfl, hs56, rfl⟩
  · rintro _ H33 f bs gs ⟨rfl, rfl, hs33, rfl⟩
    have hF := hKr34
    try dsimp only at hF
    refine JQ.go ?_
    refine JC.seq ?_
    refine JC.region (by rfl) ?_
    intro hQ
    refine JL.assign .none rfl ?_
    refine JL.done hQ ?_
    refine JQ.go ?_
    refine JC.ret ?_
    obtain rfl := Option.some.inj hF
    exact JQ.outS rfl (.tmp .nil) rfl

-- 144 slices.ContainsFunc[[]ferrule/api.Gust,ferrule/api.Gust]
def F_slices_ContainsFunc___api_Gust_api_Gust_ (n : Nat) (s : List Gust) (f_ : Gust → Option Bool) : Option Bool :=
  (F_slices_IndexFunc___api_Gust_api_Gust_ n s f_).bind fun y1 => some (decide (0 ≤ y1))
set_option maxRecDepth 100000 in
set_option maxHeartbeats 40000000 in
theorem c_slices_ContainsFunc___api_Gust_api_Gust_ (n : Nat) (H : Hp) (s : List Gust) (s_v0 : Value) (hs_0 : SL H 2 R_Gust s_v0 s) (f_ : Gust → Option Bool) (f__k : Nat) (f__c : List Value) (f__e : Ent Try.prog f__k) (f__h : ∀ H', HSub H H' → ∀ (a0_ : Gust) (y : Bool), f_ a0_ = some y → SC Try.prog f__k ([.agg [.int .i64 a0_.Force, .int .i64 a0_.At].toArray] ++ f__c) (.bool y) H') (y : Bool) (hF : F_slices_ContainsFunc___api_Gust_api_Gust_ n s f_ = some y) : SC Try.prog 144 [s_v0, .func (.func f__k) #[] f__c.toArray] (.bool y) H := by
  rw [F_slices_ContainsFunc___api_Gust_api_Gust_] at hF
  refine SC.of (N := 9) Try.func144 rfl rfl rfl fun w => ?_
  refine JC.seq ?_
  refine JC.region (by rfl) ?_
  intro hQ
  refine JL.assign .none rfl ?_
  refine JL.done hQ ?_
  refine JQ.go ?_
  refine JC.seq ?_
  refine JC.region (by rfl) ?_
  intro hQ
  refine JL.move .none rfl ?_
  refine JL.move .none rfl ?_
  obtain ⟨y1, hy1, hF⟩ := bind_some hF
  refine JL.callS (c_slices_IndexFunc___api_Gust_api_Gust_ n H s s_v0 hs_0 f_ f__k f__c f__e (fun H' hs' => f__h H' hs') y1 hy1) rfl en_179 .none rfl ?_
  refine JL.bin rfl rfl rfl .none rfl ?_
  refine JL.assign .none rfl ?_
  refine JL.done hQ ?_
  refine JQ.go ?_
  refine JC.ret ?_
  obtain rfl := Option.some.inj hF
  exact JQ.outS rfl (.tmp .nil) rfl

end Go.Proofs.Yteihdclpiekmaaa
