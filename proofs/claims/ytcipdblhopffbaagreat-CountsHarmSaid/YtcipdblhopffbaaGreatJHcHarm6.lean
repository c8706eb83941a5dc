/-
  A part of the proof of HcHarm: the texts HaGenK7, HaGenK8.
-/
import Derived.Test.YtcipdblhopffbaaGreatJHcHarm5
section
set_option maxRecDepth 100000
set_option maxHeartbeats 40000000
namespace Go.Proofs.YtcipdblhopffbaaGreat
open Go Go.RowKit Go.Dec
set_option linter.unusedVariables false
-- 118 ferrule/frames.Cosine
def F_frames_Cosine_s1 (n : Nat) (y6 : Int) : (Int × Int × Int × Int) → frames_sides → Option ((Int × Int × Int × Int) ⊕ Unit)
 | (z_82, z_83, z_84, z_85), x17 => (F_frames_sides_cosine n x17 y6).bind fun y91 => (if (z_85 == 0) = true then (some true) else ((F_frames_compare n y91 (Frac.mk z_84 z_85)).bind fun y97 => some (decide (y97 < 0))) : Option Bool).bind fun p94 => (if p94 = true then (some (y91.Num, y91.Den)) else (some (z_84, z_85))).bind fun r102 => match r102 with | (z_99, z_100) => (if (z_83 == 0) = true then (some true) else ((F_frames_compare n y91 (Frac.mk z_82 z_83)).bind fun y108 => some (decide (0 < y108))) : Option Bool).bind fun p105 => (if p105 = true then (some (y91.Num, y91.Den)) else (some (z_82, z_83))).bind fun r113 => match r113 with | (z_110, z_111) => some (Sum.inl (z_110, z_111, z_99, z_100))
def F_frames_Cosine (n : Nat) (f_ : Frame) (section_ : Int) (r : Int) : Option (Frac × Frac × Int) :=
 (F_frames_ask n f_ section_ r).bind fun y4 => if (y4 != 0) = true then (some ((Frac.mk 0 0), (Frac.mk 0 0), y4)) else ((F_frames_distance n f_ section_ r).bind fun y6 => if (y6 == 0) = true then (some ((Frac.mk 0 0), (Frac.mk 0 0), 3)) else ((geti f_.Sections section_).bind fun y9 => (F_frames_truths n y9).bind fun y14 => (I_frames_truths_1 n y14 (F_frames_Cosine_s1 n y6) (0, 0, 0, 0)).bind fun r87 => match r87 with | .inl (z_82, z_83, z_84, z_85) => (F_frames_reduced n (Frac.mk z_84 z_85)).bind fun y118 => (F_frames_reduced n (Frac.mk z_82 z_83)).bind fun y119 => some (y118, y119, 0) | .inr _ => none))
theorem c_frames_Cosine (n : Nat) (H : Hp) (f_ : Frame) (f__v0 : Value) (hf__0 : SL H 7 R_Section f__v0 f_.Sections) (section_ : Int) (r : Int) (y : Frac × Frac × Int) (hF : F_frames_Cosine n f_ section_ r = some y) : SC Tryz.prog 118 [.agg [f__v0, .int .i64 f_.Low, .int .i64 f_.High, .int .i64 f_.Ease.Num, .int .i64 f_.Ease.Den, .int .i64 f_.Rod, .int .i64 f_.Case].toArray, .int .i64 section_, .int .i64 r] (.tuple [.agg [.int .i64 y.1.Num, .int .i64 y.1.Den].toArray, .agg [.int .i64 y.2.1.Num, .int .i64 y.2.1.Den].toArray, .int .i64 y.2.2].toArray) H := by
 rw [F_frames_Cosine] at hF
 refine SC.ofM (N := 64) Tryz.func118 rfl rfl rfl fun w => ?_
 refine JC.seq (JC.region (by rfl) ?_)
 intro hQ
 refine JL.box (cs := [f__v0, .int .i64 f_.Low, .int .i64 f_.High, .int .i64 f_.Ease.Num, .int .i64 f_.Ease.Den, .int .i64 f_.Rod, .int .i64 f_.Case]) rfl .none rfl ?_
 intro b1
 refine JL.alloc ze_24 .none rfl ?_
 intro b2
 refine JL.alloc ze_24 .none rfl ?_
 intro b3
 refine JL.assign .none rfl (JL.done hQ (JQ.go (JC.seq (JC.seq (JC.region (by rfl) ?_)))))
 intro hQ
 refine JL.loadOwn 2 az_26 rfl rfl rfl .none rfl (JL.move .none rfl (JL.move .none rfl ?_))
 obtain ⟨y4, hy4, hF⟩ := bind_some hF
 refine JL.callS (c_frames_ask n H f_ f__v0 hf__0 section_ r y4 hy4) rfl en_123 .none rfl ?_
 refine JL.assign .none rfl (JL.done hQ (JQ.go (JC.seq (JC.region (by rfl) ?_))))
 intro hQ
 refine JL.move .none rfl (JL.bin rfl rfl rfl .none rfl (JL.done hQ (JQ.go ?_)))
 rcases ite_some hF with ⟨hc5, hF⟩ | ⟨hc5, hF⟩
 ·refine JC.cond_t (b := (y4 != 0)) rfl hc5 ?_
  refine JC.seq (JC.region (by rfl) ?_)
  intro hQ
  refine JL.build (l := [.int .i64 0, .int .i64 0]) (by kernel_rfl) .none rfl ?_
  refine JL.build (l := [.int .i64 0, .int .i64 0]) (by kernel_rfl) .none rfl ?_
  refine JL.move .none rfl (JL.storeOwn 1 (cs := [.int .i64 0, .int .i64 0]) az_24 rfl rfl rfl (one_cons rfl (one_cons rfl one_nil)) rfl rfl .none ?_)
  refine JL.storeOwn 0 (cs := [.int .i64 0, .int .i64 0]) az_24 rfl rfl rfl (one_cons rfl (one_cons rfl one_nil)) rfl rfl .none ?_
  refine JL.assign .none rfl (JL.done hQ (JQ.go (JC.fresh (fun f => f 6 = .pointer (some ⟨b2, 0, none⟩) ∧ f 7 = .pointer (some ⟨b3, 0, none⟩) ∧ f 8 = .int .i64 y4) ⟨rfl, rfl, rfl⟩ ?_)))
  rintro f ⟨hf6, hf7, hf8⟩
  refine (JC.norm (i := 6) hf6 (JC.norm (i := 7) hf7 (JC.norm (i := 8) hf8 ?_)))
  refine JC.ret (JQ.ret_then ?_)
  obtain rfl := Option.some.inj hF
  exact JQ.outSM rfl .nil (.cell 1 az_24 rfl rfl rfl (.cell 0 az_24 rfl rfl rfl (.tmp .nil))) rfl
 ·refine JC.cond_f (b := (y4 != 0)) rfl hc5 ?_
  refine JC.skip (JQ.go (JC.fresh (fun f => f 1 = .int .i64 section_ ∧ f 2 = .int .i64 r ∧ f 3 = .pointer (some ⟨b1, 0, none⟩) ∧ f 6 = .pointer (some ⟨b2, 0, none⟩) ∧ f 7 = .pointer (some ⟨b3, 0, none⟩) ∧ f 8 = .int .i64 0) ⟨rfl, rfl, rfl, rfl, rfl, rfl⟩ ?_))
  rintro f ⟨hf1, hf2, hf3, hf6, hf7, hf8⟩
  refine (JC.norm (i := 1) hf1 (JC.norm (i := 2) hf2 (JC.norm (i := 3) hf3 (JC.norm (i := 6) hf6 (JC.norm (i := 7) hf7 (JC.norm (i := 8) hf8 ?_))))))
  refine JC.seq (JC.region (by rfl) ?_)
  intro hQ
  refine JL.loadOwn 2 az_26 rfl rfl rfl .none rfl (JL.move .none rfl (JL.move .none rfl ?_))
  obtain ⟨y6, hy6, hF⟩ := bind_some hF
  refine JL.callS (c_frames_distance n H f_ f__v0 hf__0 section_ r y6 hy6) rfl en_124 .none rfl ?_
  refine JL.alloc ze_3 .none rfl ?_
  intro b7
  refine JL.storeOwn 0 (cs := [.int .i64 y6]) az_3 rfl rfl rfl (one_cons rfl one_nil) rfl rfl .none ?_
  refine JL.done hQ (JQ.go (JC.seq (JC.seq (JC.region (by rfl) ?_))))
  intro hQ
  refine JL.loadOwn 0 az_3 rfl rfl rfl .none rfl (JL.bin rfl rfl rfl .none rfl (JL.done hQ (JQ.go ?_)))
  rcases ite_some hF with ⟨hc8, hF⟩ | ⟨hc8, hF⟩
  ·refine JC.cond_t (b := (y6 == 0)) rfl hc8 ?_
   refine JC.seq (JC.region (by rfl) ?_)
   intro hQ
   refine JL.build (l := [.int .i64 0, .int .i64 0]) (by kernel_rfl) .none rfl ?_
   refine JL.build (l := [.int .i64 0, .int .i64 0]) (by kernel_rfl) .none rfl ?_
   refine JL.storeOwn 2 (cs := [.int .i64 0, .int .i64 0]) az_24 rfl rfl rfl (one_cons rfl (one_cons rfl one_nil)) rfl rfl .none ?_
   refine JL.storeOwn 1 (cs := [.int .i64 0, .int .i64 0]) az_24 rfl rfl rfl (one_cons rfl (one_cons rfl one_nil)) rfl rfl .none ?_
   refine JL.assign .none rfl (JL.done hQ (JQ.go (JC.fresh (fun f => f 6 = .pointer (some ⟨b2, 0, none⟩) ∧ f 7 = .pointer (some ⟨b3, 0, none⟩) ∧ f 8 = .int .i64 3) ⟨rfl, rfl, rfl⟩ ?_)))
   rintro f ⟨hf6, hf7, hf8⟩
   refine (JC.norm (i := 6) hf6 (JC.norm (i := 7) hf7 (JC.norm (i := 8) hf8 ?_)))
   refine JC.ret (JQ.ret_then ?_)
   obtain rfl := Option.some.inj hF
   exact JQ.outSM rfl .nil (.cell 2 az_24 rfl rfl rfl (.cell 1 az_24 rfl rfl rfl (.tmp .nil))) rfl
  ·refine JC.cond_f (b := (y6 == 0)) rfl hc8 ?_
   refine JC.skip (JQ.go (JC.seq (JC.seq (JC.region (by rfl) ?_))))
   intro hQ
   refine JL.fieldAddr fo_26_0 rfl .none rfl (JL.loadOwn 3 az_22 rfl rfl rfl .none rfl (JL.move .none rfl ?_))
   obtain ⟨y9, hy9, hF⟩ := bind_some hF
   refine JL.indexSL (R := R_Section) sl_22 hf__0 rfl hy9 .none rfl ?_
   rintro b10 o11 cs12 hc13 - rfl
   refine JL.loadH 0 az_124 rfl hc13 rfl .none rfl ?_
   obtain ⟨y14, hy14, hF⟩ := bind_some hF
   refine JL.callH (c_frames_truths n H y9 y14 hy14) rfl en_125 .none rfl ?_
   rintro H15 vv16 hs15 ⟨y14_b0, rfl, hy14_b0⟩
   refine JL.done hQ (JQ.go (JC.fresh (fun f => f 6 = .pointer (some ⟨b2, 0, none⟩) ∧ f 7 = .pointer (some ⟨b3, 0, none⟩) ∧ f 8 = .int .i64 0 ∧ f 10 = .pointer (some ⟨b7, 0, none⟩) ∧ f 35 = .func (.func 131) #[] [.pointer (some ⟨y14_b0, 0, none⟩)].toArray) ⟨rfl, rfl, rfl, rfl, rfl⟩ ?_))
   rintro f ⟨hf6, hf7, hf8, hf10, hf35⟩
   refine (JC.norm (i := 6) hf6 (JC.norm (i := 7) hf7 (JC.norm (i := 8) hf8 (JC.norm (i := 10) hf10 (JC.norm (i := 35) hf35 ?_)))))
   refine JC.block ?_
   obtain ⟨r87, hl88, hF⟩ := bind_some hF
   refine JC.mask [true, true, true, false] [] ?_
   refine JC.rangeFunc (ρ := Unit) (V := (VPlain fun (x : frames_sides) => .agg [.int .i64 x.arm, .int .i64 x.stretch].toArray)) (F := fun _ _ step s => I_frames_truths_1 n y14 step s) rfl en_131 (it_frames_truths_1 n H15 y14 y14_b0 hy14_b0) rfl hl88 (fun (z : Int × Int × Int × Int) H86 fr gs => match z with | (z_82, z_83, z_84, z_85) => fr = [(b7, .cells [.int .i64 y6].toArray 3), (b3, .cells [.int .i64 z_82, .int .i64 z_83].toArray 24), (b2, .cells [.int .i64 z_84, .int .i64 z_85].toArray 24)] ∧ gs = [] ∧ HSub H15 H86) (fun _ _ _ _ _ => False) ⟨rfl, rfl, (HSub.refl _)⟩ ?_ ?_ ?_
   ·rintro l18 ⟨z_82, z_83, z_84, z_85⟩ x17 y89 v19 own T20 H86 fr gs ⟨rfl, rfl, hs86⟩ hF ⟨rfl, rfl⟩ -
    rw [F_frames_Cosine_s1] at hF
    refine JC.region (by rfl) ?_
    intro hQ
    refine JL.alloc ze_173 .none rfl ?_
    intro b90
    refine JL.storeOwn 0 (cs := [.int .i64 x17.arm, .int .i64 x17.stretch]) az_173 rfl rfl rfl (one_cons rfl (one_cons rfl one_nil)) rfl rfl .none ?_
    refine JL.done hQ (JQ.assigned [(b90, .cells [.int .i64 x17.arm, .int .i64 x17.stretch].toArray 173), (b7, .cells [.int .i64 y6].toArray 3), (b3, .cells [.int .i64 z_82, .int .i64 z_83].toArray 24), (b2, .cells [.int .i64 z_84, .int .i64 z_85].toArray 24)] (fun T21 => ?_))
    refine JC.block (JC.seq (JC.region (by rfl) ?_))
    intro hQ
    refine JL.loadOwn 0 az_173 rfl rfl rfl .none rfl (JL.loadOwn 1 az_3 rfl rfl rfl .none rfl ?_)
    obtain ⟨y91, hy91, hF⟩ := bind_some hF
    refine JL.callS (c_frames_sides_cosine n H86 x17 y6 y91 hy91) rfl en_126 .none rfl ?_
    refine JL.alloc ze_24 .none rfl ?_
    intro b92
    refine JL.storeOwn 0 (cs := [.int .i64 y91.Num, .int .i64 y91.Den]) az_24 rfl rfl rfl (one_cons rfl (one_cons rfl one_nil)) rfl rfl .none ?_
    refine JL.done hQ (JQ.go (JC.seq (JC.seq (JC.region (by rfl) ?_))))
    intro hQ
    refine JL.fieldAddr fo_24_1 rfl .none rfl (JL.loadOwn 4 az_3 rfl rfl rfl .none rfl (JL.bin rfl rfl rfl .none rfl (JL.move .none rfl ?_)))
    obtain ⟨p94, hp94, hF⟩ := bind_some hF
    refine JL.cut 5 (fun f => f 6 = .pointer (some ⟨b2, 0, none⟩) ∧ f 7 = .pointer (some ⟨b3, 0, none⟩) ∧ f 12 = .pointer (some ⟨b92, 0, none⟩) ∧ f 48 = .bool p94) ?_ ?_
    ·intro hJ95
     rcases ite_some hp94 with ⟨hc96, hF⟩ | ⟨hc96, hF⟩
     ·skip
      refine JL.skip (.bool rfl rfl rfl hc96) rfl (JL.skip (.bool rfl rfl rfl hc96) rfl (JL.skip (.bool rfl rfl rfl hc96) rfl (JL.skip (.bool rfl rfl rfl hc96) rfl (JL.pick_t (b := (z_85 == 0)) rfl hc96 .none rfl ?_))))
      obtain rfl := Option.some.inj hF
      exact hJ95 _ ⟨rfl, rfl, rfl, rfl⟩
     ·skip
      refine JL.loadOwn 0 az_24 rfl rfl rfl (.some rfl rfl rfl hc96) rfl (JL.loadOwn 4 az_24 rfl rfl rfl (.some rfl rfl rfl hc96) rfl ?_)
      obtain ⟨y97, hy97, hF⟩ := bind_some hF
      refine JL.callS (c_frames_compare n H86 y91 (Frac.mk z_84 z_85) y97 hy97) rfl en_127 (.some rfl rfl rfl hc96) rfl ?_
      refine JL.bin rfl rfl rfl (.some rfl rfl rfl hc96) rfl (JL.pick_f (b := (z_85 == 0)) rfl hc96 .none rfl ?_)
      obtain rfl := Option.some.inj hF
      exact hJ95 _ ⟨rfl, rfl, rfl, rfl⟩
    ·rintro f ⟨hf6, hf7, hf12, hf48⟩
     refine (JL.norm (i := 6) hf6 (JL.norm (i := 7) hf7 (JL.norm (i := 12) hf12 (JL.norm (i := 48) hf48 ?_))))
     refine JL.done hQ (JQ.go ?_)
     obtain ⟨r102, hlr102, hKr102⟩ := bind_some hF
     refine JC.join (fun (x : Int × Int) H101 f bs gs => match x with | (z_99, z_100) => f 7 = .pointer (some ⟨b3, 0, none⟩) ∧ f 12 = .pointer (some ⟨b92, 0, none⟩) ∧ bs = ((b92, .cells [.int .i64 y91.Num, .int .i64 y91.Den].toArray 24) :: (b7, .cells [.int .i64 y6].toArray 3) :: (b3, .cells [.int .i64 z_82, .int .i64 z_83].toArray 24) :: (b2, .cells [.int .i64 z_99, .int .i64 z_100].toArray 24) :: T21) ∧ gs = [] ∧ HSub H86 H101 ∧ (z_99, z_100) = r102) ?_ ?_
     ·have hF := hlr102
      rcases ite_some hF with ⟨hc103, hF⟩ | ⟨hc103, hF⟩
      ·refine JC.cond_t (b := p94) rfl hc103 ?_
       refine JC.region (by rfl) ?_
       intro hQ
       refine JL.loadOwn 0 az_24 rfl rfl rfl .none rfl (JL.storeOwn 4 (cs := [.int .i64 y91.Num, .int .i64 y91.Den]) az_24 rfl rfl rfl (one_cons rfl (one_cons rfl one_nil)) rfl rfl .none ?_)
       refine JL.done hQ ?_
       obtain rfl := Option.some.inj hF
       refine JQ.mask [true, false, true, true, true] [] ?_
       exact JQ.join (y91.Num, y91.Den) ⟨rfl, rfl, rfl, rfl, (HSub.refl _), rfl⟩
      ·refine JC.cond_f (b := p94) rfl hc103 ?_
       refine JC.skip ?_
       obtain rfl := Option.some.inj hF
       refine JQ.mask [true, false, true, true, true] [] ?_
       exact JQ.join (z_84, z_85) ⟨rfl, rfl, rfl, rfl, (HSub.refl _), rfl⟩
     ·rintro ⟨z_99, z_100⟩ H101 f bs gs ⟨hf7, hf12, rfl, rfl, hs101, rfl⟩
      have hF := hKr102
      try dsimp only at hF
      refine (JQ.norm (i := 7) hf7 (JQ.norm (i := 12) hf12 ?_))
      refine JQ.go (JC.seq (JC.region (by rfl) ?_))
      intro hQ
      refine JL.fieldAddr fo_24_1 rfl .none rfl (JL.loadOwn 2 az_3 rfl rfl rfl .none rfl (JL.bin rfl rfl rfl .none rfl (JL.move .none rfl ?_)))
      obtain ⟨p105, hp105, hF⟩ := bind_some hF
      refine JL.cut 5 (fun f => f 7 = .pointer (some ⟨b3, 0, none⟩) ∧ f 12 = .pointer (some ⟨b92, 0, none⟩) ∧ f 58 = .bool p105) ?_ ?_
      ·intro hJ106
       rcases ite_some hp105 with ⟨hc107, hF⟩ | ⟨hc107, hF⟩
       ·skip
        refine JL.skip (.bool rfl rfl rfl hc107) rfl (JL.skip (.bool rfl rfl rfl hc107) rfl (JL.skip (.bool rfl rfl rfl hc107) rfl (JL.skip (.bool rfl rfl rfl hc107) rfl (JL.pick_t (b := (z_83 == 0)) rfl hc107 .none rfl ?_))))
        obtain rfl := Option.some.inj hF
        exact hJ106 _ ⟨rfl, rfl, rfl⟩
       ·skip
        refine JL.loadOwn 0 az_24 rfl rfl rfl (.some rfl rfl rfl hc107) rfl (JL.loadOwn 2 az_24 rfl rfl rfl (.some rfl rfl rfl hc107) rfl ?_)
        obtain ⟨y108, hy108, hF⟩ := bind_some hF
        refine JL.callS (c_frames_compare n H101 y91 (Frac.mk z_82 z_83) y108 hy108) rfl en_127 (.some rfl rfl rfl hc107) rfl ?_
        refine JL.bin rfl rfl rfl (.some rfl rfl rfl hc107) rfl (JL.pick_f (b := (z_83 == 0)) rfl hc107 .none rfl ?_)
        obtain rfl := Option.some.inj hF
        exact hJ106 _ ⟨rfl, rfl, rfl⟩
      ·rintro f ⟨hf7, hf12, hf58⟩
       refine (JL.norm (i := 7) hf7 (JL.norm (i := 12) hf12 (JL.norm (i := 58) hf58 ?_)))
       refine JL.done hQ (JQ.go ?_)
       obtain ⟨r113, hlr113, hKr113⟩ := bind_some hF
       refine JC.join (fun (x : Int × Int) H112 f bs gs => match x with | (z_110, z_111) => bs = ((b7, .cells [.int .i64 y6].toArray 3) :: (b3, .cells [.int .i64 z_110, .int .i64 z_111].toArray 24) :: (b2, .cells [.int .i64 z_99, .int .i64 z_100].toArray 24) :: T21) ∧ gs = [] ∧ HSub H101 H112 ∧ (z_110, z_111) = r113) ?_ ?_
       ·have hF := hlr113
        rcases ite_some hF with ⟨hc114, hF⟩ | ⟨hc114, hF⟩
        ·refine JC.cond_t (b := p105) rfl hc114 ?_
         refine JC.region (by rfl) ?_
         intro hQ
         refine JL.loadOwn 0 az_24 rfl rfl rfl .none rfl (JL.storeOwn 2 (cs := [.int .i64 y91.Num, .int .i64 y91.Den]) az_24 rfl rfl rfl (one_cons rfl (one_cons rfl one_nil)) rfl rfl .none ?_)
         refine JL.done hQ ?_
         obtain rfl := Option.some.inj hF
         refine JQ.mask [false, true, true, true] [] ?_
         exact JQ.join (y91.Num, y91.Den) ⟨rfl, rfl, (HSub.refl _), rfl⟩
        ·refine JC.cond_f (b := p105) rfl hc114 ?_
         refine JC.skip ?_
         obtain rfl := Option.some.inj hF
         refine JQ.mask [false, true, true, true] [] ?_
         exact JQ.join (z_82, z_83) ⟨rfl, rfl, (HSub.refl _), rfl⟩
       ·rintro ⟨z_110, z_111⟩ H112 f bs gs ⟨rfl, rfl, hs112, rfl⟩
        have hF := hKr113
        try dsimp only at hF
        refine JQ.normal_block ?_
        obtain rfl := Option.some.inj hF
        refine JQ.round rfl [(b7, .cells [.int .i64 y6].toArray 3), (b3, .cells [.int .i64 z_110, .int .i64 z_111].toArray 24), (b2, .cells [.int .i64 z_99, .int .i64 z_100].toArray 24)] (HSub.trans hs101 hs112) ?_
        exact ⟨rfl, rfl, (HSub.trans hs86 (HSub.trans hs101 hs112))⟩
   ·rintro D115 ⟨z_82, z_83, z_84, z_85⟩ H86 fr gs rfl ⟨rfl, rfl, hs86⟩ -
    try dsimp only at hF
    refine JQ.normal_block (JQ.go (JC.seq ?_))
    obtain ⟨y118, hy118, hF⟩ := bind_some hF
    obtain ⟨y119, hy119, hF⟩ := bind_some hF
    refine JC.mixed 4 7 (tf 0 7) [(b7, .cells [.int .i64 y6].toArray 3), (b3, .cells [.int .i64 z_82, .int .i64 z_83].toArray 24), (b2, .cells [.int .i64 z_84, .int .i64 z_85].toArray 24), (D115, .deferred (some []))] (by rfl) mo_ (by kernel_rfl) (by kernel_rfl) ?_
    intro hQ hE
    refine JA.cut 4 (tf 3 4) (fun H120 f bs gs => f 6 = .pointer (some ⟨b2, 0, none⟩) ∧ f 7 = .pointer (some ⟨b3, 0, none⟩) ∧ f 8 = .int .i64 0 ∧ f 61 = .agg [.int .i64 y118.Num, .int .i64 y118.Den].toArray ∧ f 62 = .agg [.int .i64 z_82, .int .i64 z_83].toArray ∧ bs = [(b7, .cells [.int .i64 y6].toArray 3), (b3, .cells [.int .i64 z_82, .int .i64 z_83].toArray 24), (b2, .cells [.int .i64 z_84, .int .i64 z_85].toArray 24), (D115, .deferred (some []))] ∧ gs = [] ∧ HSub H86 H120) ?_ ?_
    ·rintro H120 f bs gs ⟨hf6, hf7, hf8, hf61, hf62, rfl, rfl, hs120⟩
     refine (JA.norm (i := 6) hf6 (JA.norm (i := 7) hf7 (JA.norm (i := 8) hf8 (JA.norm (i := 61) hf61 (JA.norm (i := 62) hf62 ?_)))))
     refine JA.many [3] (by kernel_rfl) (by simp) (all_one ⟨_, (tf 4 3), rfl, (by kernel_rfl), ?_⟩)
     refine JL.callS (c_frames_reduced n H120 (Frac.mk z_82 z_83) y119 hy119) rfl en_128 .none rfl ?_
     refine JA.after hE hs120 (.cons_cons _ (.cons_cons _ (.cons_cons _ (.cons_cons _ (List.nil_sublist _))))) ?_
     refine JA.many [4] (by kernel_rfl) (by simp) (all_one ⟨_, (tf 5 2), rfl, (by kernel_rfl), ?_⟩)
     refine JL.storeOwn 2 (cs := [.int .i64 y118.Num, .int .i64 y118.Den]) az_24 rfl rfl rfl (one_cons rfl (one_cons rfl one_nil)) rfl rfl .none ?_
     refine JA.sink (by kernel_rfl) ?_
     refine JA.many [5] (by kernel_rfl) (by simp) (all_one ⟨_, (tf 6 1), rfl, (by kernel_rfl), ?_⟩)
     refine JL.storeOwn 1 (cs := [.int .i64 y119.Num, .int .i64 y119.Den]) az_24 rfl rfl rfl (one_cons rfl (one_cons rfl one_nil)) rfl rfl .none ?_
     refine JA.sink (by kernel_rfl) ?_
     refine JA.many [6] (by kernel_rfl) (by simp) (all_one ⟨_, (tf 7 0), rfl, (by kernel_rfl), ?_⟩)
     refine JL.assign .none rfl (JA.sink (by kernel_rfl) ?_)
     refine JA.done hQ (by kernel_rfl) ?_
     refine JQ.go (JC.ret ?_)
     obtain rfl := Option.some.inj hF
     exact JQ.outSM rfl (.cons 3 rfl .nil) (.cell 2 az_24 rfl rfl rfl (.cell 1 az_24 rfl rfl rfl (.tmp .nil))) rfl
    intro nd119_0
    refine JA.tk 0 (tf 1 6) hQ rfl hE (.cons_cons _ (.cons_cons _ (.cons_cons _ (.cons_cons _ (List.nil_sublist _))))) ?_
    refine JL.loadOwn 2 az_24 rfl rfl rfl .none rfl (JA.cont ?_)
    refine JA.many [1, 2] (by kernel_rfl) (by simp) (all_cons ⟨_, (tf 2 5), rfl, (by kernel_rfl), ?_⟩ (all_one ⟨_, #[true, false, true, false, false, false, false], rfl, (by kernel_rfl), ?_⟩))
    ·skip
     refine JL.callS (c_frames_reduced n H86 (Frac.mk z_84 z_85) y118 hy118) rfl en_128 .none rfl ?_
     refine JA.after hE (HSub.refl _) (.cons_cons _ (.cons_cons _ (.cons_cons _ (.cons_cons _ (List.nil_sublist _))))) ?_
     refine JA.many [2] (by kernel_rfl) (by simp) (all_one ⟨_, (tf 3 4), rfl, (by kernel_rfl), ?_⟩)
     refine JL.loadOwn 1 az_24 rfl rfl rfl .none rfl (JA.after hE (HSub.refl _) (.cons_cons _ (.cons_cons _ (.cons_cons _ (.cons_cons _ (List.nil_sublist _))))) ?_)
     exact nd119_0 _ _ _ _ ⟨rfl, rfl, rfl, rfl, rfl, rfl, rfl, (HSub.refl _)⟩
    ·skip
     refine JL.loadOwn 1 az_24 rfl rfl rfl .none rfl (JA.after hE (HSub.refl _) (.cons_cons _ (.cons_cons _ (.cons_cons _ (.cons_cons _ (List.nil_sublist _))))) ?_)
     refine JA.many [1] (by kernel_rfl) (by simp) (all_one ⟨_, (tf 3 4), rfl, (by kernel_rfl), ?_⟩)
     refine JL.callS (c_frames_reduced n H86 (Frac.mk z_84 z_85) y118 hy118) rfl en_128 .none rfl ?_
     refine JA.after hE (HSub.refl _) (.cons_cons _ (.cons_cons _ (.cons_cons _ (.cons_cons _ (List.nil_sublist _))))) ?_
     exact nd119_0 _ _ _ _ ⟨rfl, rfl, rfl, rfl, rfl, rfl, rfl, (HSub.refl _)⟩
   ·rintro _ _ _ _ _ _ _ h; exact h.elim
-- 120 ferrule/gusts.down
def F_gusts_down (n : Nat) (a : Int) (b : Int) : Option Int :=
 (nz b).bind fun _ => (nz b).bind fun _ => (if decide ((a.tmod b) < 0) = true then (some (w64 ((w64 (a.tdiv b)) - 1))) else (some (w64 (a.tdiv b)))).bind fun q_4 => some q_4
theorem c_gusts_down (n : Nat) (H : Hp) (a : Int) (b : Int) (y : Int) (hF : F_gusts_down n a b = some y) : SC Tryz.prog 120 [.int .i64 a, .int .i64 b] (.int .i64 y) H := by
 rw [F_gusts_down] at hF
 refine SC.of (N := 16) Tryz.func120 rfl rfl rfl fun w => ?_
 refine JC.seq (JC.region (by rfl) ?_)
 intro hQ
 refine JL.assign .none rfl (JL.done hQ (JQ.go (JC.seq (JC.region (by rfl) ?_))))
 intro hQ
 refine JL.move .none rfl (JL.move .none rfl ?_)
 obtain ⟨u1, hu1, hF⟩ := bind_some hF
 refine JL.div rfl rfl (nz_some hu1) rfl .none rfl ?_
 refine JL.assign .none rfl (JL.done hQ (JQ.go (JC.seq (JC.seq (JC.region (by rfl) ?_)))))
 intro hQ
 refine JL.move .none rfl (JL.move .none rfl ?_)
 obtain ⟨u2, hu2, hF⟩ := bind_some hF
 refine JL.div rfl rfl (nz_some hu2) rfl .none rfl ?_
 refine JL.bin rfl rfl rfl .none rfl (JL.done hQ (JQ.go ?_))
 obtain ⟨r6, hlr6, hKr6⟩ := bind_some hF
 refine JC.join (fun (q_4 : Int) H5 f bs gs => f 5 = .int .i64 q_4 ∧ bs = [] ∧ gs = [] ∧ HSub H H5 ∧ q_4 = r6) ?_ ?_
 ·have hF := hlr6
  rcases ite_some hF with ⟨hc7, hF⟩ | ⟨hc7, hF⟩
  ·refine JC.cond_t (b := decide ((a.tmod b) < 0)) rfl hc7 ?_
   refine JC.region (by rfl) ?_
   intro hQ
   refine JL.move .none rfl (JL.bin rfl rfl rfl .none rfl (JL.assign .none rfl (JL.done hQ ?_)))
   obtain rfl := Option.some.inj hF
   exact JQ.join (w64 ((w64 (a.tdiv b)) - 1)) ⟨rfl, rfl, rfl, (HSub.refl _), rfl⟩
  ·refine JC.cond_f (b := decide ((a.tmod b) < 0)) rfl hc7 ?_
   refine JC.skip ?_
   obtain rfl := Option.some.inj hF
   exact JQ.join (w64 (a.tdiv b)) ⟨rfl, rfl, rfl, (HSub.refl _), rfl⟩
 ·rintro q_4 H5 f bs gs ⟨hf5, rfl, rfl, hs5, rfl⟩
  have hF := hKr6
  try dsimp only at hF
  refine (JQ.norm (i := 5) hf5 ?_)
  refine JQ.go (JC.seq (JC.region (by rfl) ?_))
  intro hQ
  refine JL.move .none rfl (JL.assign .none rfl (JL.done hQ (JQ.go (JC.ret ?_))))
  obtain rfl := Option.some.inj hF
  exact JQ.outS rfl (.tmp .nil) rfl
-- 119 ferrule/gusts.lift$1
def F_gusts_lift_1 (n : Nat) (c : Frac) : Option Int :=
 (F_gusts_down n (w64 (100 * c.Num)) c.Den).bind fun y2 => some (min 200 (max 0 (w64 (100 + y2))))
theorem c_gusts_lift_1 (n : Nat) (H : Hp) (c : Frac) (y : Int) (hF : F_gusts_lift_1 n c = some y) : SC Tryz.prog 119 [.agg [.int .i64 c.Num, .int .i64 c.Den].toArray] (.int .i64 y) H := by
 rw [F_gusts_lift_1] at hF
 refine SC.of (N := 12) Tryz.func119 rfl rfl rfl fun w => ?_
 refine JC.seq (JC.region (by rfl) ?_)
 intro hQ
 refine JL.box (cs := [.int .i64 c.Num, .int .i64 c.Den]) rfl .none rfl ?_
 intro b1
 refine JL.assign .none rfl (JL.done hQ (JQ.go (JC.seq (JC.region (by rfl) ?_))))
 intro hQ
 refine JL.fieldAddr fo_24_0 rfl .none rfl (JL.loadOwn 0 az_3 rfl rfl rfl .none rfl (JL.bin rfl rfl rfl .none rfl (JL.fieldAddr fo_24_1 rfl .none rfl (JL.loadOwn 0 az_3 rfl rfl rfl .none rfl ?_))))
 obtain ⟨y2, hy2, hF⟩ := bind_some hF
 refine JL.callS (c_gusts_down n H (w64 (100 * c.Num)) c.Den y2 hy2) rfl en_120 .none rfl ?_
 refine JL.bin rfl rfl rfl .none rfl (JL.max rfl rfl .none rfl ?_)
 refine JL.min rfl rfl .none rfl ?_
 refine JL.assign .none rfl (JL.done hQ (JQ.go (JC.ret ?_)))
 obtain rfl := Option.some.inj hF
 exact JQ.outS rfl (.tmp .nil) rfl
-- 111 ferrule/gusts.lift
def F_gusts_lift (n : Nat) (d : Canopy) : Option Span :=
 (F_frames_Cosine n d.Frame 0 d.Frame.Low).bind fun y3 => (F_gusts_lift_1 n y3.1).bind fun y8 => (F_gusts_lift_1 n y3.2.1).bind fun y9 => some (Span.mk y8 y9)
theorem c_gusts_lift (n : Nat) (H : Hp) (d : Canopy) (d_v0 : Value) (hd_0 : SL H 7 R_Section d_v0 d.Frame.Sections) (d_v7 : Value) (hd_7 : SL H 2 R_Span d_v7 d.Ribs) (d_v8 : Value) (hd_8 : SL H 1 RInt d_v8 d.Shares) (y : Span) (hF : F_gusts_lift n d = some y) : SC Tryz.prog 111 [.agg [d_v0, .int .i64 d.Frame.Low, .int .i64 d.Frame.High, .int .i64 d.Frame.Ease.Num, .int .i64 d.Frame.Ease.Den, .int .i64 d.Frame.Rod, .int .i64 d.Frame.Case, d_v7, d_v8].toArray] (.agg [.int .i64 y.Low, .int .i64 y.High].toArray) H := by
 rw [F_gusts_lift] at hF
 refine SC.of (N := 24) Tryz.func111 rfl rfl rfl fun w => ?_
 refine JC.seq (JC.region (by rfl) ?_)
 intro hQ
 refine JL.box (cs := [d_v0, .int .i64 d.Frame.Low, .int .i64 d.Frame.High, .int .i64 d.Frame.Ease.Num, .int .i64 d.Frame.Ease.Den, .int .i64 d.Frame.Rod, .int .i64 d.Frame.Case, d_v7, d_v8]) rfl .none rfl ?_
 intro b1
 refine JL.alloc ze_42 .none rfl ?_
 intro b2
 refine JL.done hQ (JQ.go (JC.seq (JC.region (by rfl) ?_)))
 intro hQ
 refine JL.fieldAddr fo_30_0 rfl .none rfl (JL.loadOwn 1 az_26 rfl rfl rfl .none rfl (JL.fieldAddr fo_30_0 rfl .none rfl (JL.fieldAddr fo_26_1 rfl .none rfl (JL.loadOwn 1 az_3 rfl rfl rfl .none rfl ?_))))
 obtain ⟨y3, hy3, hF⟩ := bind_some hF
 refine JL.callS (c_frames_Cosine n H d.Frame d_v0 hd_0 0 d.Frame.Low y3 hy3) rfl en_118 .none rfl ?_
 refine JL.move .none rfl (JL.extract rfl rfl .none rfl (JL.extract rfl rfl .none rfl (JL.extract rfl rfl .none rfl (JL.alloc ze_24 .none rfl ?_))))
 intro b4
 refine JL.alloc ze_24 .none rfl ?_
 intro b5
 refine JL.storeOwn 1 (cs := [.int .i64 y3.1.Num, .int .i64 y3.1.Den]) az_24 rfl rfl rfl (one_cons rfl (one_cons rfl one_nil)) rfl rfl .none ?_
 refine JL.storeOwn 0 (cs := [.int .i64 y3.2.1.Num, .int .i64 y3.2.1.Den]) az_24 rfl rfl rfl (one_cons rfl (one_cons rfl one_nil)) rfl rfl .none ?_
 refine JL.assign .none rfl (JL.done hQ (JQ.go (JC.fresh (fun f => f 2 = .pointer (some ⟨b2, 0, none⟩) ∧ f 3 = .pointer (some ⟨b4, 0, none⟩) ∧ f 4 = .pointer (some ⟨b5, 0, none⟩)) ⟨rfl, rfl, rfl⟩ ?_)))
 rintro f ⟨hf2, hf3, hf4⟩
 refine (JC.norm (i := 2) hf2 (JC.norm (i := 3) hf3 (JC.norm (i := 4) hf4 ?_)))
 refine JC.seq (JC.region (by rfl) ?_)
 intro hQ
 refine JL.assign .none rfl (JL.done hQ (JQ.go (JC.seq ?_)))
 obtain ⟨y8, hy8, hF⟩ := bind_some hF
 obtain ⟨y9, hy9, hF⟩ := bind_some hF
 refine JC.mixed 7 8 (tf 0 8) [(b5, .cells [.int .i64 y3.2.1.Num, .int .i64 y3.2.1.Den].toArray 24), (b4, .cells [.int .i64 y3.1.Num, .int .i64 y3.1.Den].toArray 24), (b2, .cells [.int .i64 0, .int .i64 0].toArray 42), (b1, .cells [d_v0, .int .i64 d.Frame.Low, .int .i64 d.Frame.High, .int .i64 d.Frame.Ease.Num, .int .i64 d.Frame.Ease.Den, .int .i64 d.Frame.Rod, .int .i64 d.Frame.Case, d_v7, d_v8].toArray 30)] (by rfl) mo_ (by kernel_rfl) (by kernel_rfl) ?_
 intro hQ hE
 refine JA.tk 0 (tf 1 7) hQ rfl hE (.cons_cons _ (.cons_cons _ (.cons_cons _ (.cons_cons _ (List.nil_sublist _))))) ?_
 refine JL.move .none rfl (JA.cont ?_)
 refine JA.tk 1 (tf 2 6) hQ rfl hE (.cons_cons _ (.cons_cons _ (.cons_cons _ (.cons_cons _ (List.nil_sublist _))))) ?_
 refine JL.loadOwn 1 az_24 rfl rfl rfl .none rfl (JA.cont ?_)
 refine JA.tk 3 #[true, true, false, true, false, false, false, false] hQ rfl hE (.cons_cons _ (.cons_cons _ (.cons_cons _ (.cons_cons _ (List.nil_sublist _))))) ?_
 refine JL.move .none rfl (JA.cont ?_)
 refine JA.tk 4 #[true, true, false, true, true, false, false, false] hQ rfl hE (.cons_cons _ (.cons_cons _ (.cons_cons _ (.cons_cons _ (List.nil_sublist _))))) ?_
 refine JL.loadOwn 0 az_24 rfl rfl rfl .none rfl (JA.cont ?_)
 refine JA.many [2] (by kernel_rfl) (by simp) (all_one ⟨_, (tf 5 3), rfl, (by kernel_rfl), ?_⟩)
 refine JL.callV (caps := []) rfl (c_gusts_lift_1 n H y3.1 y8 hy8) rfl en_119 .none rfl ?_
 refine JA.after hE (HSub.refl _) (.cons_cons _ (.cons_cons _ (.cons_cons _ (.cons_cons _ (List.nil_sublist _))))) ?_
 refine JA.many [5] (by kernel_rfl) (by simp) (all_one ⟨_, (tf 6 2), rfl, (by kernel_rfl), ?_⟩)
 refine JL.callV (caps := []) rfl (c_gusts_lift_1 n H y3.2.1 y9 hy9) rfl en_119 .none rfl ?_
 refine JA.after hE (HSub.refl _) (.cons_cons _ (.cons_cons _ (.cons_cons _ (.cons_cons _ (List.nil_sublist _))))) ?_
 refine JA.tk 6 (tf 7 1) hQ rfl hE (.cons_cons _ (.cons_cons _ (.cons_cons _ (.cons_cons _ (List.nil_sublist _))))) ?_
 refine JL.build (l := [.int .i64 y8, .int .i64 y9]) (by kernel_rfl) .none rfl ?_
 refine JA.cont ?_
 refine JA.many [7] (by kernel_rfl) (by simp) (all_one ⟨_, (tf 8 0), rfl, (by kernel_rfl), ?_⟩)
 refine JL.storeOwn 2 (cs := [.int .i64 y8, .int .i64 y9]) az_42 rfl rfl rfl (one_cons rfl (one_cons rfl one_nil)) rfl rfl .none ?_
 refine JA.sink (by kernel_rfl) ?_
 refine JA.done hQ (by kernel_rfl) ?_
 refine JQ.go (JC.ret ?_)
 obtain rfl := Option.some.inj hF
 exact JQ.outS rfl (.cell 2 az_42 rfl rfl rfl .nil) rfl
end Go.Proofs.YtcipdblhopffbaaGreat
end
section
set_option maxRecDepth 100000
set_option maxHeartbeats 40000000
namespace Go.Proofs.YtcipdblhopffbaaGreat
open Go Go.RowKit Go.Dec
set_option linter.unusedVariables false
-- 96 ferrule/gusts.ends
def F_gusts_ends_s1 (n : Nat) (d : Canopy) : Int × List Int × List Int → Option ((Int × List Int × List Int) ⊕ (List Int × List Int))
 | (x_1387, out_1388, out_1389) => if decide (x_1387 < (d.Ribs.length : Int)) = true then ((geti d.Ribs x_1387).bind fun y1394 => (lim (out_1388 ++ [y1394.High])).bind fun l1401 => (lim (out_1389 ++ [y1394.Low])).bind fun l1406 => some (Sum.inl ((w64 (x_1387 + 1)), l1401, l1406))) else (some (Sum.inr (out_1388, out_1389)))
def F_gusts_ends (n : Nat) (d : Canopy) : Option (gusts_blown × gusts_blown) :=
 (F_gusts_lift n d).bind fun y4 => (loopO n (F_gusts_ends_s1 n d) (0, ([] : List Int), ([] : List Int))).bind fun r1010 => match r1010 with | (out_1007, out_1008) => some ((gusts_blown.mk y4.Low out_1007 d.Shares), (gusts_blown.mk y4.High out_1008 d.Shares))
theorem c_gusts_ends (n : Nat) (H : Hp) (d : Canopy) (d_v0 : Value) (hd_0 : SL H 7 R_Section d_v0 d.Frame.Sections) (d_v7 : Value) (hd_7 : SL H 2 R_Span d_v7 d.Ribs) (d_v8 : Value) (hd_8 : SL H 1 RInt d_v8 d.Shares) (y : gusts_blown × gusts_blown) (hF : F_gusts_ends n d = some y) : HC Tryz.prog 96 [.agg [d_v0, .int .i64 d.Frame.Low, .int .i64 d.Frame.High, .int .i64 d.Frame.Ease.Num, .int .i64 d.Frame.Ease.Den, .int .i64 d.Frame.Rod, .int .i64 d.Frame.Case, d_v7, d_v8].toArray] H (fun H' v => ∃ ra_v1 ra_v2 rb_v1 rb_v2 : Value, v = .tuple [.agg [.int .i64 y.1.lift, ra_v1, ra_v2].toArray, .agg [.int .i64 y.2.lift, rb_v1, rb_v2].toArray].toArray ∧ SL H' 1 RInt ra_v1 y.1.ribs ∧ SL H' 1 RInt ra_v2 y.1.shares ∧ SL H' 1 RInt rb_v1 y.2.ribs ∧ SL H' 1 RInt rb_v2 y.2.shares) := by
 rw [F_gusts_ends] at hF
 refine HC.of (N := 43) Tryz.func96 rfl rfl rfl fun w => ?_
 refine JC.seq (JC.region (by rfl) ?_)
 intro hQ
 refine JL.box (cs := [d_v0, .int .i64 d.Frame.Low, .int .i64 d.Frame.High, .int .i64 d.Frame.Ease.Num, .int .i64 d.Frame.Ease.Den, .int .i64 d.Frame.Rod, .int .i64 d.Frame.Case, d_v7, d_v8]) rfl .none rfl ?_
 intro b1
 refine JL.alloc ze_140 .none rfl ?_
 intro b2
 refine JL.alloc ze_140 .none rfl ?_
 intro b3
 refine JL.done hQ (JQ.go (JC.seq (JC.region (by rfl) ?_)))
 intro hQ
 refine JL.loadOwn 2 az_30 rfl rfl rfl .none rfl ?_
 obtain ⟨y4, hy4, hF⟩ := bind_some hF
 refine JL.callS (c_gusts_lift n H d d_v0 hd_0 d_v7 hd_7 d_v8 hd_8 y4 hy4) rfl en_111 .none rfl ?_
 refine JL.alloc ze_42 .none rfl ?_
 intro b5
 refine JL.storeOwn 0 (cs := [.int .i64 y4.Low, .int .i64 y4.High]) az_42 rfl rfl rfl (one_cons rfl (one_cons rfl one_nil)) rfl rfl .none ?_
 refine JL.done hQ (JQ.go (JC.seq ?_))
 obtain ⟨a9, c10, rfl, hh11⟩ := hd_0
 have hd_0 : SL H 7 R_Section (.slice a9 d.Frame.Sections.length c10) d.Frame.Sections := ⟨a9, c10, rfl, hh11⟩
 obtain ⟨a12, c13, rfl, hh14⟩ := hd_7
 have hd_7 : SL H 2 R_Span (.slice a12 d.Ribs.length c13) d.Ribs := ⟨a12, c13, rfl, hh14⟩
 obtain ⟨a15, c16, rfl, hh17⟩ := hd_8
 have hd_8 : SL H 1 RInt (.slice a15 d.Shares.length c16) d.Shares := ⟨a15, c16, rfl, hh17⟩
 refine JC.mixed 12 12 (tf 0 12) [(b5, .cells [.int .i64 y4.Low, .int .i64 y4.High].toArray 42), (b1, .cells [(.slice a9 d.Frame.Sections.length c10), .int .i64 d.Frame.Low, .int .i64 d.Frame.High, .int .i64 d.Frame.Ease.Num, .int .i64 d.Frame.Ease.Den, .int .i64 d.Frame.Rod, .int .i64 d.Frame.Case, (.slice a12 d.Ribs.length c13), (.slice a15 d.Shares.length c16)].toArray 30)] (by rfl) mo_ (by kernel_rfl) (by kernel_rfl) ?_
 intro hQ hE
 refine JA.tk 0 (tf 1 11) hQ rfl hE (.cons_cons _ (.cons _ (.cons _ (.cons_cons _ (List.nil_sublist _))))) ?_
 refine JL.fieldAddr fo_42_0 rfl .none rfl (JA.cont ?_)
 refine JA.tk 1 (tf 2 10) hQ rfl hE (.cons_cons _ (.cons _ (.cons _ (.cons_cons _ (List.nil_sublist _))))) ?_
 refine JL.loadOwn 0 az_3 rfl rfl rfl .none rfl (JA.cont ?_)
 refine JA.tk 2 (tf 3 9) hQ rfl hE (.cons_cons _ (.cons _ (.cons _ (.cons_cons _ (List.nil_sublist _))))) ?_
 refine JL.fieldAddr fo_30_2 rfl .none rfl (JA.cont ?_)
 refine JA.tk 3 (tf 4 8) hQ rfl hE (.cons_cons _ (.cons _ (.cons _ (.cons_cons _ (List.nil_sublist _))))) ?_
 refine JL.loadOwn 1 az_28 rfl rfl rfl .none rfl (JA.cont ?_)
 refine JA.tk 4 (tf 5 7) hQ rfl hE (.cons_cons _ (.cons _ (.cons _ (.cons_cons _ (List.nil_sublist _))))) ?_
 refine JL.build (l := [.int .i64 y4.Low, .slice none 0 0, (.slice a15 d.Shares.length c16)]) (by kernel_rfl) .none rfl ?_
 refine JA.cont ?_
 refine JA.tk 5 (tf 6 6) hQ rfl hE (.cons_cons _ (.cons _ (.cons _ (.cons_cons _ (List.nil_sublist _))))) ?_
 refine JL.fieldAddr fo_42_1 rfl .none rfl (JA.cont ?_)
 refine JA.tk 6 (tf 7 5) hQ rfl hE (.cons_cons _ (.cons _ (.cons _ (.cons_cons _ (List.nil_sublist _))))) ?_
 refine JL.loadOwn 0 az_3 rfl rfl rfl .none rfl (JA.cont ?_)
 refine JA.tk 7 (tf 8 4) hQ rfl hE (.cons_cons _ (.cons _ (.cons _ (.cons_cons _ (List.nil_sublist _))))) ?_
 refine JL.fieldAddr fo_30_2 rfl .none rfl (JA.cont ?_)
 refine JA.tk 8 (tf 9 3) hQ rfl hE (.cons_cons _ (.cons _ (.cons _ (.cons_cons _ (List.nil_sublist _))))) ?_
 refine JL.loadOwn 1 az_28 rfl rfl rfl .none rfl (JA.cont ?_)
 refine JA.tk 9 (tf 10 2) hQ rfl hE (.cons_cons _ (.cons _ (.cons _ (.cons_cons _ (List.nil_sublist _))))) ?_
 refine JL.build (l := [.int .i64 y4.High, .slice none 0 0, (.slice a15 d.Shares.length c16)]) (by kernel_rfl) .none rfl ?_
 refine JA.cont ?_
 refine JA.many [10] (by kernel_rfl) (by simp) (all_one ⟨_, (tf 11 1), rfl, (by kernel_rfl), ?_⟩)
 refine JL.storeOwn 2 (cs := [.int .i64 y4.Low, .slice none 0 0, (.slice a15 d.Shares.length c16)]) az_140 rfl rfl rfl (one_cons rfl (one_cons rfl (one_cons (SL.one hd_8) one_nil))) rfl rfl .none ?_
 refine JA.after hE (HSub.refl _) (.cons_cons _ (.cons _ (.cons _ (.cons_cons _ (List.nil_sublist _))))) ?_
 refine JA.many [11] (by kernel_rfl) (by simp) (all_one ⟨_, (tf 12 0), rfl, (by kernel_rfl), ?_⟩)
 refine JL.storeOwn 1 (cs := [.int .i64 y4.High, .slice none 0 0, (.slice a15 d.Shares.length c16)]) az_140 rfl rfl rfl (one_cons rfl (one_cons rfl (one_cons (SL.one hd_8) one_nil))) rfl rfl .none ?_
 refine JA.after hE (HSub.refl _) (.cons_cons _ (.cons _ (.cons _ (.cons_cons _ (List.nil_sublist _))))) ?_
 refine JA.done hQ (by kernel_rfl) ?_
 refine JQ.go (JC.fresh (fun f => f 1 = .pointer (some ⟨b1, 0, none⟩) ∧ f 2 = .pointer (some ⟨b2, 0, none⟩) ∧ f 3 = .pointer (some ⟨b3, 0, none⟩)) ⟨rfl, rfl, rfl⟩ ?_)
 rintro f ⟨hf1, hf2, hf3⟩
 refine (JC.norm (i := 1) hf1 (JC.norm (i := 2) hf2 (JC.norm (i := 3) hf3 ?_)))
 refine JC.seq (JC.seq (JC.region (by rfl) ?_))
 intro hQ
 refine JL.fieldAddr fo_30_1 rfl .none rfl (JL.loadOwn 3 az_27 rfl rfl rfl .none rfl (JL.lenSL (R := R_Span) ul_27 hd_7 .none rfl ?_))
 refine JL.move .none rfl (JL.done hQ (JQ.go (JC.newNil (e := 3) (sz := 1) ?_)))
 refine JC.newNil (e := 3) (sz := 1) ?_
 obtain ⟨r1010, hlr1010, hKr1010⟩ := bind_some hF
 refine JC.join (fun (x : List Int × List Int) H1009 f bs gs => match x with | (out_1007, out_1008) => ∃ (vout_1007 : Value) (xsout_1007 : List Value) (vout_1008 : Value) (xsout_1008 : List Value), f 2 = .pointer (some ⟨b2, 0, none⟩) ∧ f 3 = .pointer (some ⟨b3, 0, none⟩) ∧ bs = [(b3, .cells [.int .i64 y4.High, vout_1008, (.slice a15 d.Shares.length c16)].toArray 140), (b2, .cells [.int .i64 y4.Low, vout_1007, (.slice a15 d.Shares.length c16)].toArray 140)] ∧ gs = [⟨vout_1007, 3, 1, out_1007.length, xsout_1007⟩, ⟨vout_1008, 3, 1, out_1008.length, xsout_1008⟩] ∧ CH H1009 1 RInt xsout_1007 out_1007 ∧ CH H1009 1 RInt xsout_1008 out_1008 ∧ HSub H H1009 ∧ (out_1007, out_1008) = r1010) ?_ ?_
 ·skip
  refine JC.block (JC.mask [false, true, true, false] [true, true] ?_)
  refine JC.loop hlr1010 (fun (x : Int × List Int × List Int) H1390 f bs gs => match x with | (x_1387, out_1388, out_1389) => ∃ (vout_1388 : Value) (xsout_1388 : List Value) (vout_1389 : Value) (xsout_1389 : List Value), f 2 = .pointer (some ⟨b2, 0, none⟩) ∧ f 3 = .pointer (some ⟨b3, 0, none⟩) ∧ f 20 = (.slice a12 d.Ribs.length c13) ∧ f 21 = .int .i64 (d.Ribs.length : Int) ∧ f 22 = .int .i64 x_1387 ∧ bs = [(b3, .cells [.int .i64 y4.High, vout_1389, (.slice a15 d.Shares.length c16)].toArray 140), (b2, .cells [.int .i64 y4.Low, vout_1388, (.slice a15 d.Shares.length c16)].toArray 140)] ∧ gs = [⟨vout_1388, 3, 1, out_1388.length, xsout_1388⟩, ⟨vout_1389, 3, 1, out_1389.length, xsout_1389⟩] ∧ CH H1390 1 RInt xsout_1388 out_1388 ∧ CH H1390 1 RInt xsout_1389 out_1389 ∧ HSub H H1390) ⟨(.slice none 0 0), [], (.slice none 0 0), [], rfl, rfl, rfl, rfl, rfl, rfl, rfl, CH.nil, CH.nil, (HSub.refl _)⟩ ?_
  rintro ⟨x_1387, out_1388, out_1389⟩ x1392 H1390 f bs gs ⟨vout_1388, xsout_1388, vout_1389, xsout_1389, hf2, hf3, hf20, hf21, hf22, rfl, rfl, hout_1388, hout_1389, hs1390⟩ hF hr1391
  rw [F_gusts_ends_s1] at hF
  refine (JC.norm (i := 2) hf2 (JC.norm (i := 3) hf3 (JC.norm (i := 20) hf20 (JC.norm (i := 21) hf21 (JC.norm (i := 22) hf22 ?_)))))
  refine JC.seq (JC.region (by rfl) ?_)
  intro hQ
  refine JL.bin rfl rfl rfl .none rfl (JL.done hQ (JQ.go (JC.seq ?_)))
  rcases ite_some hF with ⟨hc1393, hF⟩ | ⟨hc1393, hF⟩
  ·refine JC.cond_t (b := decide (x_1387 < (d.Ribs.length : Int))) rfl hc1393 ?_
   refine JC.skip (JQ.go (JC.seq (JC.block (JC.seq (JC.region (by rfl) ?_)))))
   intro hQ
   obtain ⟨y1394, hy1394, hF⟩ := bind_some hF
   refine JL.indexSL (R := R_Span) sl_27 (SL.mono R_Span_mono hs1390 hd_7) rfl hy1394 .none rfl ?_
   rintro b1395 o1396 cs1397 hc1398 - rfl
   refine JL.loadH 0 az_42 rfl hc1398 rfl .none rfl ?_
   refine JL.alloc ze_42 .none rfl ?_
   intro b1399
   refine JL.storeOwn 0 (cs := [.int .i64 y1394.Low, .int .i64 y1394.High]) az_42 rfl rfl rfl (one_cons rfl (one_cons rfl one_nil)) rfl rfl .none ?_
   refine JL.done hQ (JQ.go ?_)
   obtain ⟨l1401, hl1401, hF⟩ := bind_some hF
   obtain ⟨l1406, hl1406, hF⟩ := bind_some hF
   refine JC.mixed 16 16 (tf 0 16) [(b1399, .cells [.int .i64 y1394.Low, .int .i64 y1394.High].toArray 42)] (by rfl) mo_ (by kernel_rfl) (by kernel_rfl) ?_
   intro hQ hE
   refine JA.cut 4 #[true, true, true, true, true, true, true, true, true, true, true, false, true, false, false, false] (fun H1525 f bs gs => ∃ (b1516 : Nat) (b1492 : Nat) (v1498 : Value) (xs1499 : List Value), f 2 = .pointer (some ⟨b2, 0, none⟩) ∧ f 3 = .pointer (some ⟨b3, 0, none⟩) ∧ f 20 = (.slice a12 d.Ribs.length c13) ∧ f 21 = .int .i64 (d.Ribs.length : Int) ∧ f 22 = .int .i64 x_1387 ∧ f 31 = v1498 ∧ f 33 = vout_1389 ∧ f 36 = .slice (some ⟨b1516, 0, none⟩) 1 1 ∧ f 38 = .pointer (some ⟨b2, 1, none⟩) ∧ bs = [(b1516, .cells [.int .i64 y1394.Low].toArray 3), (b1492, .cells [.int .i64 y1394.High].toArray 3), (b1399, .cells [.int .i64 y1394.Low, .int .i64 y1394.High].toArray 42), (b3, .cells [.int .i64 y4.High, vout_1389, (.slice a15 d.Shares.length c16)].toArray 140), (b2, .cells [.int .i64 y4.Low, vout_1388, (.slice a15 d.Shares.length c16)].toArray 140)] ∧ gs = [⟨v1498, 3, 1, l1401.length, xs1499⟩, ⟨vout_1389, 3, 1, out_1389.length, xsout_1389⟩] ∧ CH H1525 1 RInt xs1499 l1401 ∧ HSub H1390 H1525) ?_ ?_
   ·rintro H1525 f bs gs ⟨b1516, b1492, v1498, xs1499, hf2, hf3, hf20, hf21, hf22, hf31, hf33, hf36, hf38, rfl, rfl, hm1526, hs1525⟩
    refine (JA.norm (i := 2) hf2 (JA.norm (i := 3) hf3 (JA.norm (i := 20) hf20 (JA.norm (i := 21) hf21 (JA.norm (i := 22) hf22 (JA.norm (i := 31) hf31 (JA.norm (i := 33) hf33 (JA.norm (i := 36) hf36 (JA.norm (i := 38) hf38 ?_)))))))))
    refine JA.many [11] (by kernel_rfl) (by simp) (all_one ⟨_, (tf 13 3), rfl, (by kernel_rfl), ?_⟩)
    refine JL.appO (R := RInt) 1 0 (l := out_1389) (m := [y1394.Low]) ap_28 rfl ⟨rfl, rfl⟩ rfl (CH.mono RInt.mono hs1525 hout_1389) rfl rfl rfl (CH.cons (cs := [.int .i64 y1394.Low]) rfl rfl CH.nil) rfl (one_cons rfl one_nil) hl1406 .none rfl ?_
    intro v1527 xs1528 hch1529
    refine JA.after hE hs1525 (.cons _ (.cons _ (.cons_cons _ (.cons _ (.cons _ (List.nil_sublist _)))))) ?_
    refine JA.many [13] (by kernel_rfl) (by simp) (all_one ⟨_, (tf 14 2), rfl, (by kernel_rfl), ?_⟩)
    refine JL.oneG 0 rfl (fun ho1530 => ?_)
    refine JL.storeOwn 4 (cs := [v1498]) az_28 rfl ho1530.2 rfl (one_cons ho1530.1 one_nil) rfl rfl .none ?_
    refine JA.after hE hs1525 (.cons _ (.cons _ (.cons_cons _ (.cons _ (.cons _ (List.nil_sublist _)))))) ?_
    refine JA.take 14 (listed' := (tf 15 1)) hQ rfl (by kernel_rfl) (by kernel_rfl) (by kernel_rfl) (by kernel_rfl) (by kernel_rfl) hE hs1525 (.cons _ (.cons _ (.cons_cons _ (.cons _ (.cons _ (List.nil_sublist _)))))) ?_
    refine JL.fieldAddr fo_140_1 rfl .none rfl (JA.cont ?_)
    refine JA.many [15] (by kernel_rfl) (by simp) (all_one ⟨_, (tf 16 0), rfl, (by kernel_rfl), ?_⟩)
    refine JL.oneG 1 rfl (fun ho1531 => ?_)
    refine JL.storeOwn 3 (cs := [v1527]) az_28 rfl ho1531.2 rfl (one_cons ho1531.1 one_nil) rfl rfl .none ?_
    refine JA.after hE hs1525 (.cons _ (.cons _ (.cons_cons _ (.cons _ (.cons _ (List.nil_sublist _)))))) ?_
    refine JA.done hQ (by kernel_rfl) ?_
    refine JQ.normal_block (JQ.go (JC.region (by rfl) ?_))
    intro hQ
    refine JL.bin rfl rfl rfl .none rfl (JL.move .none rfl (JL.done hQ ?_))
    obtain rfl := Option.some.inj hF
    refine JQ.mask [false, false, false, true, true] [true, true] ?_
    exact JQ.next rfl ⟨v1498, xs1499, v1527, xs1528, rfl, rfl, rfl, rfl, rfl, rfl, rfl, hm1526, hch1529, (HSub.trans hs1390 hs1525)⟩
   intro nd1524_0
   refine JA.cut 5 #[true, true, true, true, true, true, true, true, true, true, false, false, true, false, false, false] (fun H1532 f bs gs => ∃ (b1492 : Nat) (v1498 : Value) (xs1499 : List Value), f 2 = .pointer (some ⟨b2, 0, none⟩) ∧ f 3 = .pointer (some ⟨b3, 0, none⟩) ∧ f 20 = (.slice a12 d.Ribs.length c13) ∧ f 21 = .int .i64 (d.Ribs.length : Int) ∧ f 22 = .int .i64 x_1387 ∧ f 31 = v1498 ∧ f 33 = vout_1389 ∧ f 35 = .int .i64 y1394.Low ∧ f 38 = .pointer (some ⟨b2, 1, none⟩) ∧ bs = [(b1492, .cells [.int .i64 y1394.High].toArray 3), (b1399, .cells [.int .i64 y1394.Low, .int .i64 y1394.High].toArray 42), (b3, .cells [.int .i64 y4.High, vout_1389, (.slice a15 d.Shares.length c16)].toArray 140), (b2, .cells [.int .i64 y4.Low, vout_1388, (.slice a15 d.Shares.length c16)].toArray 140)] ∧ gs = [⟨v1498, 3, 1, l1401.length, xs1499⟩, ⟨vout_1389, 3, 1, out_1389.length, xsout_1389⟩] ∧ CH H1532 1 RInt xs1499 l1401 ∧ HSub H1390 H1532) ?_ ?_
   ·rintro H1532 f bs gs ⟨b1492, v1498, xs1499, hf2, hf3, hf20, hf21, hf22, hf31, hf33, hf35, hf38, rfl, rfl, hm1533, hs1532⟩
    refine (JA.norm (i := 2) hf2 (JA.norm (i := 3) hf3 (JA.norm (i := 20) hf20 (JA.norm (i := 21) hf21 (JA.norm (i := 22) hf22 (JA.norm (i := 31) hf31 (JA.norm (i := 33) hf33 (JA.norm (i := 35) hf35 (JA.norm (i := 38) hf38 ?_)))))))))
    refine JA.many [10] (by kernel_rfl) (by simp) (all_one ⟨_, #[true, true, true, true, true, true, true, true, true, true, true, false, true, false, false, false], rfl, (by kernel_rfl), ?_⟩)
    refine JL.buildSlice (e := 3) (l := [.int .i64 y1394.Low]) (by kernel_rfl) .none rfl ?_
    intro b1534
    refine JA.after hE hs1532 (.cons _ (.cons _ (.cons_cons _ (.cons _ (.cons _ (List.nil_sublist _)))))) ?_
    exact nd1524_0 _ _ _ _ ⟨b1534, b1492, v1498, xs1499, rfl, rfl, rfl, rfl, rfl, rfl, rfl, rfl, rfl, rfl, rfl, hm1533, hs1532⟩
   intro nd1524_1
   refine JA.cut 5 #[true, true, true, true, true, true, true, false, true, true, true, false, true, false, false, false] (fun H1535 f bs gs => ∃ (b1507 : Nat) (b1492 : Nat) (v1498 : Value) (xs1499 : List Value), f 2 = .pointer (some ⟨b2, 0, none⟩) ∧ f 3 = .pointer (some ⟨b3, 0, none⟩) ∧ f 20 = (.slice a12 d.Ribs.length c13) ∧ f 21 = .int .i64 (d.Ribs.length : Int) ∧ f 22 = .int .i64 x_1387 ∧ f 31 = v1498 ∧ f 32 = .pointer (some ⟨b3, 1, none⟩) ∧ f 36 = .slice (some ⟨b1507, 0, none⟩) 1 1 ∧ f 38 = .pointer (some ⟨b2, 1, none⟩) ∧ bs = [(b1507, .cells [.int .i64 y1394.Low].toArray 3), (b1492, .cells [.int .i64 y1394.High].toArray 3), (b1399, .cells [.int .i64 y1394.Low, .int .i64 y1394.High].toArray 42), (b3, .cells [.int .i64 y4.High, vout_1389, (.slice a15 d.Shares.length c16)].toArray 140), (b2, .cells [.int .i64 y4.Low, vout_1388, (.slice a15 d.Shares.length c16)].toArray 140)] ∧ gs = [⟨v1498, 3, 1, l1401.length, xs1499⟩, ⟨vout_1389, 3, 1, out_1389.length, xsout_1389⟩] ∧ CH H1535 1 RInt xs1499 l1401 ∧ HSub H1390 H1535) ?_ ?_
   ·rintro H1535 f bs gs ⟨b1507, b1492, v1498, xs1499, hf2, hf3, hf20, hf21, hf22, hf31, hf32, hf36, hf38, rfl, rfl, hm1536, hs1535⟩
    refine (JA.norm (i := 2) hf2 (JA.norm (i := 3) hf3 (JA.norm (i := 20) hf20 (JA.norm (i := 21) hf21 (JA.norm (i := 22) hf22 (JA.norm (i := 31) hf31 (JA.norm (i := 32) hf32 (JA.norm (i := 36) hf36 (JA.norm (i := 38) hf38 ?_)))))))))
    refine JA.many [7] (by kernel_rfl) (by simp) (all_one ⟨_, #[true, true, true, true, true, true, true, true, true, true, true, false, true, false, false, false], rfl, (by kernel_rfl), ?_⟩)
    refine JL.loadOwn 3 az_28 rfl rfl rfl .none rfl (JA.after hE hs1535 (.cons _ (.cons _ (.cons_cons _ (.cons _ (.cons _ (List.nil_sublist _)))))) ?_)
    exact nd1524_0 _ _ _ _ ⟨b1507, b1492, v1498, xs1499, rfl, rfl, rfl, rfl, rfl, rfl, rfl, rfl, rfl, rfl, rfl, hm1536, hs1535⟩
   intro nd1524_2
   refine JA.cut 6 #[true, true, true, true, true, false, true, true, true, true, true, false, false, false, false, false] (fun H1537 f bs gs => ∃ (b1511 : Nat) (b1492 : Nat), f 2 = .pointer (some ⟨b2, 0, none⟩) ∧ f 3 = .pointer (some ⟨b3, 0, none⟩) ∧ f 20 = (.slice a12 d.Ribs.length c13) ∧ f 21 = .int .i64 (d.Ribs.length : Int) ∧ f 22 = .int .i64 x_1387 ∧ f 27 = vout_1388 ∧ f 30 = .slice (some ⟨b1492, 0, none⟩) 1 1 ∧ f 33 = vout_1389 ∧ f 36 = .slice (some ⟨b1511, 0, none⟩) 1 1 ∧ bs = [(b1511, .cells [.int .i64 y1394.Low].toArray 3), (b1492, .cells [.int .i64 y1394.High].toArray 3), (b1399, .cells [.int .i64 y1394.Low, .int .i64 y1394.High].toArray 42), (b3, .cells [.int .i64 y4.High, vout_1389, (.slice a15 d.Shares.length c16)].toArray 140), (b2, .cells [.int .i64 y4.Low, vout_1388, (.slice a15 d.Shares.length c16)].toArray 140)] ∧ gs = [⟨vout_1388, 3, 1, out_1388.length, xsout_1388⟩, ⟨vout_1389, 3, 1, out_1389.length, xsout_1389⟩] ∧ HSub H1390 H1537) ?_ ?_
   ·rintro H1537 f bs gs ⟨b1511, b1492, hf2, hf3, hf20, hf21, hf22, hf27, hf30, hf33, hf36, rfl, rfl, hs1537⟩
    refine (JA.norm (i := 2) hf2 (JA.norm (i := 3) hf3 (JA.norm (i := 20) hf20 (JA.norm (i := 21) hf21 (JA.norm (i := 22) hf22 (JA.norm (i := 27) hf27 (JA.norm (i := 30) hf30 (JA.norm (i := 33) hf33 (JA.norm (i := 36) hf36 ?_)))))))))
    refine JA.many [5] (by kernel_rfl) (by simp) (all_one ⟨_, (tf 11 5), rfl, (by kernel_rfl), ?_⟩)
    refine JL.appO (R := RInt) 0 1 (l := out_1388) (m := [y1394.High]) ap_28 rfl ⟨rfl, rfl⟩ rfl (CH.mono RInt.mono hs1537 hout_1388) rfl rfl rfl (CH.cons (cs := [.int .i64 y1394.High]) rfl rfl CH.nil) rfl (one_cons rfl one_nil) hl1401 .none rfl ?_
    intro v1538 xs1539 hch1540
    refine JA.after hE hs1537 (.cons _ (.cons _ (.cons_cons _ (.cons _ (.cons _ (List.nil_sublist _)))))) ?_
    refine JA.take 12 (listed' := #[true, true, true, true, true, true, true, true, true, true, true, false, true, false, false, false]) hQ rfl (by kernel_rfl) (by kernel_rfl) (by kernel_rfl) (by kernel_rfl) (by kernel_rfl) hE hs1537 (.cons _ (.cons _ (.cons_cons _ (.cons _ (.cons _ (List.nil_sublist _)))))) ?_
    refine JL.fieldAddr fo_140_1 rfl .none rfl (JA.cont ?_)
    exact nd1524_0 _ _ _ _ ⟨b1511, b1492, v1538, xs1539, rfl, rfl, rfl, rfl, rfl, rfl, rfl, rfl, rfl, rfl, rfl, hch1540, hs1537⟩
   intro nd1524_3
   refine JA.cut 7 #[true, true, true, true, true, false, true, true, true, true, false, false, false, false, false, false] (fun H1541 f bs gs => ∃ (b1492 : Nat), f 2 = .pointer (some ⟨b2, 0, none⟩) ∧ f 3 = .pointer (some ⟨b3, 0, none⟩) ∧ f 20 = (.slice a12 d.Ribs.length c13) ∧ f 21 = .int .i64 (d.Ribs.length : Int) ∧ f 22 = .int .i64 x_1387 ∧ f 27 = vout_1388 ∧ f 30 = .slice (some ⟨b1492, 0, none⟩) 1 1 ∧ f 33 = vout_1389 ∧ f 35 = .int .i64 y1394.Low ∧ bs = [(b1492, .cells [.int .i64 y1394.High].toArray 3), (b1399, .cells [.int .i64 y1394.Low, .int .i64 y1394.High].toArray 42), (b3, .cells [.int .i64 y4.High, vout_1389, (.slice a15 d.Shares.length c16)].toArray 140), (b2, .cells [.int .i64 y4.Low, vout_1388, (.slice a15 d.Shares.length c16)].toArray 140)] ∧ gs = [⟨vout_1388, 3, 1, out_1388.length, xsout_1388⟩, ⟨vout_1389, 3, 1, out_1389.length, xsout_1389⟩] ∧ HSub H1390 H1541) ?_ ?_
   ·rintro H1541 f bs gs ⟨b1492, hf2, hf3, hf20, hf21, hf22, hf27, hf30, hf33, hf35, rfl, rfl, hs1541⟩
    refine (JA.norm (i := 2) hf2 (JA.norm (i := 3) hf3 (JA.norm (i := 20) hf20 (JA.norm (i := 21) hf21 (JA.norm (i := 22) hf22 (JA.norm (i := 27) hf27 (JA.norm (i := 30) hf30 (JA.norm (i := 33) hf33 (JA.norm (i := 35) hf35 ?_)))))))))
    refine JA.many [5, 10] (by kernel_rfl) (by simp) (all_cons ⟨_, (tf 10 6), rfl, (by kernel_rfl), ?_⟩ (all_one ⟨_, #[true, true, true, true, true, false, true, true, true, true, true, false, false, false, false, false], rfl, (by kernel_rfl), ?_⟩))
    ·skip
     refine JL.appO (R := RInt) 0 0 (l := out_1388) (m := [y1394.High]) ap_28 rfl ⟨rfl, rfl⟩ rfl (CH.mono RInt.mono hs1541 hout_1388) rfl rfl rfl (CH.cons (cs := [.int .i64 y1394.High]) rfl rfl CH.nil) rfl (one_cons rfl one_nil) hl1401 .none rfl ?_
     intro v1542 xs1543 hch1544
     refine JA.after hE hs1541 (.cons _ (.cons_cons _ (.cons _ (.cons _ (List.nil_sublist _))))) ?_
     refine JA.take 12 (listed' := #[true, true, true, true, true, true, true, true, true, true, false, false, true, false, false, false]) hQ rfl (by kernel_rfl) (by kernel_rfl) (by kernel_rfl) (by kernel_rfl) (by kernel_rfl) hE hs1541 (.cons _ (.cons_cons _ (.cons _ (.cons _ (List.nil_sublist _))))) ?_
     refine JL.fieldAddr fo_140_1 rfl .none rfl (JA.cont ?_)
     exact nd1524_1 _ _ _ _ ⟨b1492, v1542, xs1543, rfl, rfl, rfl, rfl, rfl, rfl, rfl, rfl, rfl, rfl, rfl, hch1544, hs1541⟩
    ·skip
     refine JL.buildSlice (e := 3) (l := [.int .i64 y1394.Low]) (by kernel_rfl) .none rfl ?_
     intro b1545
     refine JA.after hE hs1541 (.cons _ (.cons _ (.cons_cons _ (.cons _ (.cons _ (List.nil_sublist _)))))) ?_
     exact nd1524_3 _ _ _ _ ⟨b1545, b1492, rfl, rfl, rfl, rfl, rfl, rfl, rfl, rfl, rfl, rfl, rfl, hs1541⟩
   intro nd1524_4
   refine JA.cut 7 #[true, true, true, true, true, false, true, false, true, true, true, false, false, false, false, false] (fun H1546 f bs gs => ∃ (b1501 : Nat) (b1492 : Nat), f 2 = .pointer (some ⟨b2, 0, none⟩) ∧ f 3 = .pointer (some ⟨b3, 0, none⟩) ∧ f 20 = (.slice a12 d.Ribs.length c13) ∧ f 21 = .int .i64 (d.Ribs.length : Int) ∧ f 22 = .int .i64 x_1387 ∧ f 27 = vout_1388 ∧ f 30 = .slice (some ⟨b1492, 0, none⟩) 1 1 ∧ f 32 = .pointer (some ⟨b3, 1, none⟩) ∧ f 36 = .slice (some ⟨b1501, 0, none⟩) 1 1 ∧ bs = [(b1501, .cells [.int .i64 y1394.Low].toArray 3), (b1492, .cells [.int .i64 y1394.High].toArray 3), (b1399, .cells [.int .i64 y1394.Low, .int .i64 y1394.High].toArray 42), (b3, .cells [.int .i64 y4.High, vout_1389, (.slice a15 d.Shares.length c16)].toArray 140), (b2, .cells [.int .i64 y4.Low, vout_1388, (.slice a15 d.Shares.length c16)].toArray 140)] ∧ gs = [⟨vout_1388, 3, 1, out_1388.length, xsout_1388⟩, ⟨vout_1389, 3, 1, out_1389.length, xsout_1389⟩] ∧ HSub H1390 H1546) ?_ ?_
   ·rintro H1546 f bs gs ⟨b1501, b1492, hf2, hf3, hf20, hf21, hf22, hf27, hf30, hf32, hf36, rfl, rfl, hs1546⟩
    refine (JA.norm (i := 2) hf2 (JA.norm (i := 3) hf3 (JA.norm (i := 20) hf20 (JA.norm (i := 21) hf21 (JA.norm (i := 22) hf22 (JA.norm (i := 27) hf27 (JA.norm (i := 30) hf30 (JA.norm (i := 32) hf32 (JA.norm (i := 36) hf36 ?_)))))))))
    refine JA.many [5, 7] (by kernel_rfl) (by simp) (all_cons ⟨_, #[true, true, true, true, true, true, true, false, true, true, true, false, false, false, false, false], rfl, (by kernel_rfl), ?_⟩ (all_one ⟨_, #[true, true, true, true, true, false, true, true, true, true, true, false, false, false, false, false], rfl, (by kernel_rfl), ?_⟩))
    ·skip
     refine JL.appO (R := RInt) 0 1 (l := out_1388) (m := [y1394.High]) ap_28 rfl ⟨rfl, rfl⟩ rfl (CH.mono RInt.mono hs1546 hout_1388) rfl rfl rfl (CH.cons (cs := [.int .i64 y1394.High]) rfl rfl CH.nil) rfl (one_cons rfl one_nil) hl1401 .none rfl ?_
     intro v1547 xs1548 hch1549
     refine JA.after hE hs1546 (.cons _ (.cons _ (.cons_cons _ (.cons _ (.cons _ (List.nil_sublist _)))))) ?_
     refine JA.take 12 (listed' := #[true, true, true, true, true, true, true, false, true, true, true, false, true, false, false, false]) hQ rfl (by kernel_rfl) (by kernel_rfl) (by kernel_rfl) (by kernel_rfl) (by kernel_rfl) hE hs1546 (.cons _ (.cons _ (.cons_cons _ (.cons _ (.cons _ (List.nil_sublist _)))))) ?_
     refine JL.fieldAddr fo_140_1 rfl .none rfl (JA.cont ?_)
     exact nd1524_2 _ _ _ _ ⟨b1501, b1492, v1547, xs1548, rfl, rfl, rfl, rfl, rfl, rfl, rfl, rfl, rfl, rfl, rfl, hch1549, hs1546⟩
    ·skip
     refine JL.loadOwn 3 az_28 rfl rfl rfl .none rfl (JA.after hE hs1546 (.cons _ (.cons _ (.cons_cons _ (.cons _ (.cons _ (List.nil_sublist _)))))) ?_)
     exact nd1524_3 _ _ _ _ ⟨b1501, b1492, rfl, rfl, rfl, rfl, rfl, rfl, rfl, rfl, rfl, rfl, rfl, hs1546⟩
   intro nd1524_5
   refine JA.cut 7 #[true, true, true, true, false, false, true, true, true, true, true, false, false, false, false, false] (fun H1550 f bs gs => ∃ (b1503 : Nat), f 2 = .pointer (some ⟨b2, 0, none⟩) ∧ f 3 = .pointer (some ⟨b3, 0, none⟩) ∧ f 20 = (.slice a12 d.Ribs.length c13) ∧ f 21 = .int .i64 (d.Ribs.length : Int) ∧ f 22 = .int .i64 x_1387 ∧ f 27 = vout_1388 ∧ f 29 = .int .i64 y1394.High ∧ f 33 = vout_1389 ∧ f 36 = .slice (some ⟨b1503, 0, none⟩) 1 1 ∧ bs = [(b1503, .cells [.int .i64 y1394.Low].toArray 3), (b1399, .cells [.int .i64 y1394.Low, .int .i64 y1394.High].toArray 42), (b3, .cells [.int .i64 y4.High, vout_1389, (.slice a15 d.Shares.length c16)].toArray 140), (b2, .cells [.int .i64 y4.Low, vout_1388, (.slice a15 d.Shares.length c16)].toArray 140)] ∧ gs = [⟨vout_1388, 3, 1, out_1388.length, xsout_1388⟩, ⟨vout_1389, 3, 1, out_1389.length, xsout_1389⟩] ∧ HSub H1390 H1550) ?_ ?_
   ·rintro H1550 f bs gs ⟨b1503, hf2, hf3, hf20, hf21, hf22, hf27, hf29, hf33, hf36, rfl, rfl, hs1550⟩
    refine (JA.norm (i := 2) hf2 (JA.norm (i := 3) hf3 (JA.norm (i := 20) hf20 (JA.norm (i := 21) hf21 (JA.norm (i := 22) hf22 (JA.norm (i := 27) hf27 (JA.norm (i := 29) hf29 (JA.norm (i := 33) hf33 (JA.norm (i := 36) hf36 ?_)))))))))
    refine JA.many [4] (by kernel_rfl) (by simp) (all_one ⟨_, #[true, true, true, true, true, false, true, true, true, true, true, false, false, false, false, false], rfl, (by kernel_rfl), ?_⟩)
    refine JL.buildSlice (e := 3) (l := [.int .i64 y1394.High]) (by kernel_rfl) .none rfl ?_
    intro b1551
    refine JA.after hE hs1550 (.cons _ (.cons _ (.cons_cons _ (.cons _ (.cons _ (List.nil_sublist _)))))) ?_
    refine JA.perm (swapAt_perm 0 _) ?_
    exact nd1524_3 _ _ _ _ ⟨b1503, b1551, rfl, rfl, rfl, rfl, rfl, rfl, rfl, rfl, rfl, rfl, rfl, hs1550⟩
   intro nd1524_6
   refine JA.cut 7 #[true, false, true, true, true, false, true, true, true, true, true, false, false, false, false, false] (fun H1552 f bs gs => ∃ (b1505 : Nat) (b1490 : Nat), f 2 = .pointer (some ⟨b2, 0, none⟩) ∧ f 3 = .pointer (some ⟨b3, 0, none⟩) ∧ f 20 = (.slice a12 d.Ribs.length c13) ∧ f 21 = .int .i64 (d.Ribs.length : Int) ∧ f 22 = .int .i64 x_1387 ∧ f 26 = .pointer (some ⟨b2, 1, none⟩) ∧ f 30 = .slice (some ⟨b1490, 0, none⟩) 1 1 ∧ f 33 = vout_1389 ∧ f 36 = .slice (some ⟨b1505, 0, none⟩) 1 1 ∧ bs = [(b1505, .cells [.int .i64 y1394.Low].toArray 3), (b1490, .cells [.int .i64 y1394.High].toArray 3), (b1399, .cells [.int .i64 y1394.Low, .int .i64 y1394.High].toArray 42), (b3, .cells [.int .i64 y4.High, vout_1389, (.slice a15 d.Shares.length c16)].toArray 140), (b2, .cells [.int .i64 y4.Low, vout_1388, (.slice a15 d.Shares.length c16)].toArray 140)] ∧ gs = [⟨vout_1388, 3, 1, out_1388.length, xsout_1388⟩, ⟨vout_1389, 3, 1, out_1389.length, xsout_1389⟩] ∧ HSub H1390 H1552) ?_ ?_
   ·rintro H1552 f bs gs ⟨b1505, b1490, hf2, hf3, hf20, hf21, hf22, hf26, hf30, hf33, hf36, rfl, rfl, hs1552⟩
    refine (JA.norm (i := 2) hf2 (JA.norm (i := 3) hf3 (JA.norm (i := 20) hf20 (JA.norm (i := 21) hf21 (JA.norm (i := 22) hf22 (JA.norm (i := 26) hf26 (JA.norm (i := 30) hf30 (JA.norm (i := 33) hf33 (JA.norm (i := 36) hf36 ?_)))))))))
    refine JA.many [1] (by kernel_rfl) (by simp) (all_one ⟨_, #[true, true, true, true, true, false, true, true, true, true, true, false, false, false, false, false], rfl, (by kernel_rfl), ?_⟩)
    refine JL.loadOwn 4 az_28 rfl rfl rfl .none rfl (JA.after hE hs1552 (.cons _ (.cons _ (.cons_cons _ (.cons _ (.cons _ (List.nil_sublist _)))))) ?_)
    exact nd1524_3 _ _ _ _ ⟨b1505, b1490, rfl, rfl, rfl, rfl, rfl, rfl, rfl, rfl, rfl, rfl, rfl, hs1552⟩
   intro nd1524_7
   refine JA.cut 8 #[true, true, true, true, true, false, true, false, true, true, false, false, false, false, false, false] (fun H1553 f bs gs => ∃ (b1492 : Nat), f 2 = .pointer (some ⟨b2, 0, none⟩) ∧ f 3 = .pointer (some ⟨b3, 0, none⟩) ∧ f 20 = (.slice a12 d.Ribs.length c13) ∧ f 21 = .int .i64 (d.Ribs.length : Int) ∧ f 22 = .int .i64 x_1387 ∧ f 27 = vout_1388 ∧ f 30 = .slice (some ⟨b1492, 0, none⟩) 1 1 ∧ f 32 = .pointer (some ⟨b3, 1, none⟩) ∧ f 35 = .int .i64 y1394.Low ∧ bs = [(b1492, .cells [.int .i64 y1394.High].toArray 3), (b1399, .cells [.int .i64 y1394.Low, .int .i64 y1394.High].toArray 42), (b3, .cells [.int .i64 y4.High, vout_1389, (.slice a15 d.Shares.length c16)].toArray 140), (b2, .cells [.int .i64 y4.Low, vout_1388, (.slice a15 d.Shares.length c16)].toArray 140)] ∧ gs = [⟨vout_1388, 3, 1, out_1388.length, xsout_1388⟩, ⟨vout_1389, 3, 1, out_1389.length, xsout_1389⟩] ∧ HSub H1390 H1553) ?_ ?_
   ·rintro H1553 f bs gs ⟨b1492, hf2, hf3, hf20, hf21, hf22, hf27, hf30, hf32, hf35, rfl, rfl, hs1553⟩
    refine (JA.norm (i := 2) hf2 (JA.norm (i := 3) hf3 (JA.norm (i := 20) hf20 (JA.norm (i := 21) hf21 (JA.norm (i := 22) hf22 (JA.norm (i := 27) hf27 (JA.norm (i := 30) hf30 (JA.norm (i := 32) hf32 (JA.norm (i := 35) hf35 ?_)))))))))
    refine JA.many [5, 7, 10] (by kernel_rfl) (by simp) (all_cons ⟨_, #[true, true, true, true, true, true, true, false, true, true, false, false, false, false, false, false], rfl, (by kernel_rfl), ?_⟩ (all_cons ⟨_, #[true, true, true, true, true, false, true, true, true, true, false, false, false, false, false, false], rfl, (by kernel_rfl), ?_⟩ (all_one ⟨_, #[true, true, true, true, true, false, true, false, true, true, true, false, false, false, false, false], rfl, (by kernel_rfl), ?_⟩)))
    ·skip
     refine JL.appO (R := RInt) 0 0 (l := out_1388) (m := [y1394.High]) ap_28 rfl ⟨rfl, rfl⟩ rfl (CH.mono RInt.mono hs1553 hout_1388) rfl rfl rfl (CH.cons (cs := [.int .i64 y1394.High]) rfl rfl CH.nil) rfl (one_cons rfl one_nil) hl1401 .none rfl ?_
     intro v1554 xs1555 hch1556
     refine JA.after hE hs1553 (.cons _ (.cons_cons _ (.cons _ (.cons _ (List.nil_sublist _))))) ?_
     refine JA.take 12 (listed' := #[true, true, true, true, true, true, true, false, true, true, false, false, true, false, false, false]) hQ rfl (by kernel_rfl) (by kernel_rfl) (by kernel_rfl) (by kernel_rfl) (by kernel_rfl) hE hs1553 (.cons _ (.cons_cons _ (.cons _ (.cons _ (List.nil_sublist _))))) ?_
     refine JL.fieldAddr fo_140_1 rfl .none rfl (JA.cont ?_)
     refine JA.many [7, 10] (by kernel_rfl) (by simp) (all_cons ⟨_, #[true, true, true, true, true, true, true, true, true, true, false, false, true, false, false, false], rfl, (by kernel_rfl), ?_⟩ (all_one ⟨_, #[true, true, true, true, true, true, true, false, true, true, true, false, true, false, false, false], rfl, (by kernel_rfl), ?_⟩))
     ·skip
      refine JL.loadOwn 2 az_28 rfl rfl rfl .none rfl (JA.after hE hs1553 (.cons _ (.cons_cons _ (.cons _ (.cons _ (List.nil_sublist _))))) ?_)
      exact nd1524_1 _ _ _ _ ⟨b1492, v1554, xs1555, rfl, rfl, rfl, rfl, rfl, rfl, rfl, rfl, rfl, rfl, rfl, hch1556, hs1553⟩
     ·skip
      refine JL.buildSlice (e := 3) (l := [.int .i64 y1394.Low]) (by kernel_rfl) .none rfl ?_
      intro b1557
      refine JA.after hE hs1553 (.cons _ (.cons _ (.cons_cons _ (.cons _ (.cons _ (List.nil_sublist _)))))) ?_
      exact nd1524_2 _ _ _ _ ⟨b1557, b1492, v1554, xs1555, rfl, rfl, rfl, rfl, rfl, rfl, rfl, rfl, rfl, rfl, rfl, hch1556, hs1553⟩
    ·skip
     refine JL.loadOwn 2 az_28 rfl rfl rfl .none rfl (JA.after hE hs1553 (.cons _ (.cons_cons _ (.cons _ (.cons _ (List.nil_sublist _))))) ?_)
     exact nd1524_4 _ _ _ _ ⟨b1492, rfl, rfl, rfl, rfl, rfl, rfl, rfl, rfl, rfl, rfl, rfl, hs1553⟩
    ·skip
     refine JL.buildSlice (e := 3) (l := [.int .i64 y1394.Low]) (by kernel_rfl) .none rfl ?_
     intro b1558
     refine JA.after hE hs1553 (.cons _ (.cons _ (.cons_cons _ (.cons _ (.cons _ (List.nil_sublist _)))))) ?_
     exact nd1524_5 _ _ _ _ ⟨b1558, b1492, rfl, rfl, rfl, rfl, rfl, rfl, rfl, rfl, rfl, rfl, rfl, hs1553⟩
   intro nd1524_8
   refine JA.cut 8 #[true, true, true, true, false, false, true, true, true, true, false, false, false, false, false, false] (fun H1559 f bs gs => f 2 = .pointer (some ⟨b2, 0, none⟩) ∧ f 3 = .pointer (some ⟨b3, 0, none⟩) ∧ f 20 = (.slice a12 d.Ribs.length c13) ∧ f 21 = .int .i64 (d.Ribs.length : Int) ∧ f 22 = .int .i64 x_1387 ∧ f 27 = vout_1388 ∧ f 29 = .int .i64 y1394.High ∧ f 33 = vout_1389 ∧ f 35 = .int .i64 y1394.Low ∧ bs = [(b1399, .cells [.int .i64 y1394.Low, .int .i64 y1394.High].toArray 42), (b3, .cells [.int .i64 y4.High, vout_1389, (.slice a15 d.Shares.length c16)].toArray 140), (b2, .cells [.int .i64 y4.Low, vout_1388, (.slice a15 d.Shares.length c16)].toArray 140)] ∧ gs = [⟨vout_1388, 3, 1, out_1388.length, xsout_1388⟩, ⟨vout_1389, 3, 1, out_1389.length, xsout_1389⟩] ∧ HSub H1390 H1559) ?_ ?_
   ·rintro H1559 f bs gs ⟨hf2, hf3, hf20, hf21, hf22, hf27, hf29, hf33, hf35, rfl, rfl, hs1559⟩
    refine (JA.norm (i := 2) hf2 (JA.norm (i := 3) hf3 (JA.norm (i := 20) hf20 (JA.norm (i := 21) hf21 (JA.norm (i := 22) hf22 (JA.norm (i := 27) hf27 (JA.norm (i := 29) hf29 (JA.norm (i := 33) hf33 (JA.norm (i := 35) hf35 ?_)))))))))
    refine JA.many [4, 10] (by kernel_rfl) (by simp) (all_cons ⟨_, #[true, true, true, true, true, false, true, true, true, true, false, false, false, false, false, false], rfl, (by kernel_rfl), ?_⟩ (all_one ⟨_, #[true, true, true, true, false, false, true, true, true, true, true, false, false, false, false, false], rfl, (by kernel_rfl), ?_⟩))
    ·skip
     refine JL.buildSlice (e := 3) (l := [.int .i64 y1394.High]) (by kernel_rfl) .none rfl ?_
     intro b1560
     refine JA.after hE hs1559 (.cons _ (.cons_cons _ (.cons _ (.cons _ (List.nil_sublist _))))) ?_
     exact nd1524_4 _ _ _ _ ⟨b1560, rfl, rfl, rfl, rfl, rfl, rfl, rfl, rfl, rfl, rfl, rfl, hs1559⟩
    ·skip
     refine JL.buildSlice (e := 3) (l := [.int .i64 y1394.Low]) (by kernel_rfl) .none rfl ?_
     intro b1561
     refine JA.after hE hs1559 (.cons _ (.cons_cons _ (.cons _ (.cons _ (List.nil_sublist _))))) ?_
     exact nd1524_6 _ _ _ _ ⟨b1561, rfl, rfl, rfl, rfl, rfl, rfl, rfl, rfl, rfl, rfl, rfl, hs1559⟩
   intro nd1524_9
   refine JA.cut 8 #[true, true, true, true, false, false, true, false, true, true, true, false, false, false, false, false] (fun H1562 f bs gs => ∃ (b1493 : Nat), f 2 = .pointer (some ⟨b2, 0, none⟩) ∧ f 3 = .pointer (some ⟨b3, 0, none⟩) ∧ f 20 = (.slice a12 d.Ribs.length c13) ∧ f 21 = .int .i64 (d.Ribs.length : Int) ∧ f 22 = .int .i64 x_1387 ∧ f 27 = vout_1388 ∧ f 29 = .int .i64 y1394.High ∧ f 32 = .pointer (some ⟨b3, 1, none⟩) ∧ f 36 = .slice (some ⟨b1493, 0, none⟩) 1 1 ∧ bs = [(b1493, .cells [.int .i64 y1394.Low].toArray 3), (b1399, .cells [.int .i64 y1394.Low, .int .i64 y1394.High].toArray 42), (b3, .cells [.int .i64 y4.High, vout_1389, (.slice a15 d.Shares.length c16)].toArray 140), (b2, .cells [.int .i64 y4.Low, vout_1388, (.slice a15 d.Shares.length c16)].toArray 140)] ∧ gs = [⟨vout_1388, 3, 1, out_1388.length, xsout_1388⟩, ⟨vout_1389, 3, 1, out_1389.length, xsout_1389⟩] ∧ HSub H1390 H1562) ?_ ?_
   ·rintro H1562 f bs gs ⟨b1493, hf2, hf3, hf20, hf21, hf22, hf27, hf29, hf32, hf36, rfl, rfl, hs1562⟩
    refine (JA.norm (i := 2) hf2 (JA.norm (i := 3) hf3 (JA.norm (i := 20) hf20 (JA.norm (i := 21) hf21 (JA.norm (i := 22) hf22 (JA.norm (i := 27) hf27 (JA.norm (i := 29) hf29 (JA.norm (i := 32) hf32 (JA.norm (i := 36) hf36 ?_)))))))))
    refine JA.many [4, 7] (by kernel_rfl) (by simp) (all_cons ⟨_, #[true, true, true, true, true, false, true, false, true, true, true, false, false, false, false, false], rfl, (by kernel_rfl), ?_⟩ (all_one ⟨_, #[true, true, true, true, false, false, true, true, true, true, true, false, false, false, false, false], rfl, (by kernel_rfl), ?_⟩))
    ·skip
     refine JL.buildSlice (e := 3) (l := [.int .i64 y1394.High]) (by kernel_rfl) .none rfl ?_
     intro b1563
     refine JA.after hE hs1562 (.cons _ (.cons _ (.cons_cons _ (.cons _ (.cons _ (List.nil_sublist _)))))) ?_
     refine JA.perm (swapAt_perm 0 _) ?_
     exact nd1524_5 _ _ _ _ ⟨b1493, b1563, rfl, rfl, rfl, rfl, rfl, rfl, rfl, rfl, rfl, rfl, rfl, hs1562⟩
    ·skip
     refine JL.loadOwn 2 az_28 rfl rfl rfl .none rfl (JA.after hE hs1562 (.cons _ (.cons_cons _ (.cons _ (.cons _ (List.nil_sublist _))))) ?_)
     exact nd1524_6 _ _ _ _ ⟨b1493, rfl, rfl, rfl, rfl, rfl, rfl, rfl, rfl, rfl, rfl, rfl, hs1562⟩
   intro nd1524_10
   refine JA.cut 8 #[true, false, true, true, true, false, true, true, true, true, false, false, false, false, false, false] (fun H1564 f bs gs => ∃ (b1490 : Nat), f 2 = .pointer (some ⟨b2, 0, none⟩) ∧ f 3 = .pointer (some ⟨b3, 0, none⟩) ∧ f 20 = (.slice a12 d.Ribs.length c13) ∧ f 21 = .int .i64 (d.Ribs.length : Int) ∧ f 22 = .int .i64 x_1387 ∧ f 26 = .pointer (some ⟨b2, 1, none⟩) ∧ f 30 = .slice (some ⟨b1490, 0, none⟩) 1 1 ∧ f 33 = vout_1389 ∧ f 35 = .int .i64 y1394.Low ∧ bs = [(b1490, .cells [.int .i64 y1394.High].toArray 3), (b1399, .cells [.int .i64 y1394.Low, .int .i64 y1394.High].toArray 42), (b3, .cells [.int .i64 y4.High, vout_1389, (.slice a15 d.Shares.length c16)].toArray 140), (b2, .cells [.int .i64 y4.Low, vout_1388, (.slice a15 d.Shares.length c16)].toArray 140)] ∧ gs = [⟨vout_1388, 3, 1, out_1388.length, xsout_1388⟩, ⟨vout_1389, 3, 1, out_1389.length, xsout_1389⟩] ∧ HSub H1390 H1564) ?_ ?_
   ·rintro H1564 f bs gs ⟨b1490, hf2, hf3, hf20, hf21, hf22, hf26, hf30, hf33, hf35, rfl, rfl, hs1564⟩
    refine (JA.norm (i := 2) hf2 (JA.norm (i := 3) hf3 (JA.norm (i := 20) hf20 (JA.norm (i := 21) hf21 (JA.norm (i := 22) hf22 (JA.norm (i := 26) hf26 (JA.norm (i := 30) hf30 (JA.norm (i := 33) hf33 (JA.norm (i := 35) hf35 ?_)))))))))
    refine JA.many [1, 10] (by kernel_rfl) (by simp) (all_cons ⟨_, #[true, true, true, true, true, false, true, true, true, true, false, false, false, false, false, false], rfl, (by kernel_rfl), ?_⟩ (all_one ⟨_, #[true, false, true, true, true, false, true, true, true, true, true, false, false, false, false, false], rfl, (by kernel_rfl), ?_⟩))
    ·skip
     refine JL.loadOwn 3 az_28 rfl rfl rfl .none rfl (JA.after hE hs1564 (.cons _ (.cons_cons _ (.cons _ (.cons _ (List.nil_sublist _))))) ?_)
     exact nd1524_4 _ _ _ _ ⟨b1490, rfl, rfl, rfl, rfl, rfl, rfl, rfl, rfl, rfl, rfl, rfl, hs1564⟩
    ·skip
     refine JL.buildSlice (e := 3) (l := [.int .i64 y1394.Low]) (by kernel_rfl) .none rfl ?_
     intro b1565
     refine JA.after hE hs1564 (.cons _ (.cons _ (.cons_cons _ (.cons _ (.cons _ (List.nil_sublist _)))))) ?_
     exact nd1524_7 _ _ _ _ ⟨b1565, b1490, rfl, rfl, rfl, rfl, rfl, rfl, rfl, rfl, rfl, rfl, rfl, hs1564⟩
   intro nd1524_11
   refine JA.cut 8 #[true, false, true, true, true, false, true, false, true, true, true, false, false, false, false, false] (fun H1566 f bs gs => ∃ (b1494 : Nat) (b1490 : Nat), f 2 = .pointer (some ⟨b2, 0, none⟩) ∧ f 3 = .pointer (some ⟨b3, 0, none⟩) ∧ f 20 = (.slice a12 d.Ribs.length c13) ∧ f 21 = .int .i64 (d.Ribs.length : Int) ∧ f 22 = .int .i64 x_1387 ∧ f 26 = .pointer (some ⟨b2, 1, none⟩) ∧ f 30 = .slice (some ⟨b1490, 0, none⟩) 1 1 ∧ f 32 = .pointer (some ⟨b3, 1, none⟩) ∧ f 36 = .slice (some ⟨b1494, 0, none⟩) 1 1 ∧ bs = [(b1494, .cells [.int .i64 y1394.Low].toArray 3), (b1490, .cells [.int .i64 y1394.High].toArray 3), (b1399, .cells [.int .i64 y1394.Low, .int .i64 y1394.High].toArray 42), (b3, .cells [.int .i64 y4.High, vout_1389, (.slice a15 d.Shares.length c16)].toArray 140), (b2, .cells [.int .i64 y4.Low, vout_1388, (.slice a15 d.Shares.length c16)].toArray 140)] ∧ gs = [⟨vout_1388, 3, 1, out_1388.length, xsout_1388⟩, ⟨vout_1389, 3, 1, out_1389.length, xsout_1389⟩] ∧ HSub H1390 H1566) ?_ ?_
   ·rintro H1566 f bs gs ⟨b1494, b1490, hf2, hf3, hf20, hf21, hf22, hf26, hf30, hf32, hf36, rfl, rfl, hs1566⟩
    refine (JA.norm (i := 2) hf2 (JA.norm (i := 3) hf3 (JA.norm (i := 20) hf20 (JA.norm (i := 21) hf21 (JA.norm (i := 22) hf22 (JA.norm (i := 26) hf26 (JA.norm (i := 30) hf30 (JA.norm (i := 32) hf32 (JA.norm (i := 36) hf36 ?_)))))))))
    refine JA.many [1, 7] (by kernel_rfl) (by simp) (all_cons ⟨_, #[true, true, true, true, true, false, true, false, true, true, true, false, false, false, false, false], rfl, (by kernel_rfl), ?_⟩ (all_one ⟨_, #[true, false, true, true, true, false, true, true, true, true, true, false, false, false, false, false], rfl, (by kernel_rfl), ?_⟩))
    ·skip
     refine JL.loadOwn 4 az_28 rfl rfl rfl .none rfl (JA.after hE hs1566 (.cons _ (.cons _ (.cons_cons _ (.cons _ (.cons _ (List.nil_sublist _)))))) ?_)
     exact nd1524_5 _ _ _ _ ⟨b1494, b1490, rfl, rfl, rfl, rfl, rfl, rfl, rfl, rfl, rfl, rfl, rfl, hs1566⟩
    ·skip
     refine JL.loadOwn 3 az_28 rfl rfl rfl .none rfl (JA.after hE hs1566 (.cons _ (.cons _ (.cons_cons _ (.cons _ (.cons _ (List.nil_sublist _)))))) ?_)
     exact nd1524_7 _ _ _ _ ⟨b1494, b1490, rfl, rfl, rfl, rfl, rfl, rfl, rfl, rfl, rfl, rfl, rfl, hs1566⟩
   intro nd1524_12
   refine JA.cut 8 #[true, false, true, true, false, false, true, true, true, true, true, false, false, false, false, false] (fun H1567 f bs gs => ∃ (b1496 : Nat), f 2 = .pointer (some ⟨b2, 0, none⟩) ∧ f 3 = .pointer (some ⟨b3, 0, none⟩) ∧ f 20 = (.slice a12 d.Ribs.length c13) ∧ f 21 = .int .i64 (d.Ribs.length : Int) ∧ f 22 = .int .i64 x_1387 ∧ f 26 = .pointer (some ⟨b2, 1, none⟩) ∧ f 29 = .int .i64 y1394.High ∧ f 33 = vout_1389 ∧ f 36 = .slice (some ⟨b1496, 0, none⟩) 1 1 ∧ bs = [(b1496, .cells [.int .i64 y1394.Low].toArray 3), (b1399, .cells [.int .i64 y1394.Low, .int .i64 y1394.High].toArray 42), (b3, .cells [.int .i64 y4.High, vout_1389, (.slice a15 d.Shares.length c16)].toArray 140), (b2, .cells [.int .i64 y4.Low, vout_1388, (.slice a15 d.Shares.length c16)].toArray 140)] ∧ gs = [⟨vout_1388, 3, 1, out_1388.length, xsout_1388⟩, ⟨vout_1389, 3, 1, out_1389.length, xsout_1389⟩] ∧ HSub H1390 H1567) ?_ ?_
   ·rintro H1567 f bs gs ⟨b1496, hf2, hf3, hf20, hf21, hf22, hf26, hf29, hf33, hf36, rfl, rfl, hs1567⟩
    refine (JA.norm (i := 2) hf2 (JA.norm (i := 3) hf3 (JA.norm (i := 20) hf20 (JA.norm (i := 21) hf21 (JA.norm (i := 22) hf22 (JA.norm (i := 26) hf26 (JA.norm (i := 29) hf29 (JA.norm (i := 33) hf33 (JA.norm (i := 36) hf36 ?_)))))))))
    refine JA.many [1, 4] (by kernel_rfl) (by simp) (all_cons ⟨_, #[true, true, true, true, false, false, true, true, true, true, true, false, false, false, false, false], rfl, (by kernel_rfl), ?_⟩ (all_one ⟨_, #[true, false, true, true, true, false, true, true, true, true, true, false, false, false, false, false], rfl, (by kernel_rfl), ?_⟩))
    ·skip
     refine JL.loadOwn 3 az_28 rfl rfl rfl .none rfl (JA.after hE hs1567 (.cons _ (.cons_cons _ (.cons _ (.cons _ (List.nil_sublist _))))) ?_)
     exact nd1524_6 _ _ _ _ ⟨b1496, rfl, rfl, rfl, rfl, rfl, rfl, rfl, rfl, rfl, rfl, rfl, hs1567⟩
    ·skip
     refine JL.buildSlice (e := 3) (l := [.int .i64 y1394.High]) (by kernel_rfl) .none rfl ?_
     intro b1568
     refine JA.after hE hs1567 (.cons _ (.cons _ (.cons_cons _ (.cons _ (.cons _ (List.nil_sublist _)))))) ?_
     refine JA.perm (swapAt_perm 0 _) ?_
     exact nd1524_7 _ _ _ _ ⟨b1496, b1568, rfl, rfl, rfl, rfl, rfl, rfl, rfl, rfl, rfl, rfl, rfl, hs1567⟩
   intro nd1524_13
   refine JA.tk 0 (tf 1 15) hQ rfl hE (.cons_cons _ (.cons _ (.cons _ (List.nil_sublist _)))) ?_
   refine JL.fieldAddr fo_140_1 rfl .none rfl (JA.cont ?_)
   refine JA.tk 2 #[true, false, true, false, false, false, false, false, false, false, false, false, false, false, false, false] hQ rfl hE (.cons_cons _ (.cons _ (.cons _ (List.nil_sublist _)))) ?_
   refine JL.fieldAddr fo_42_1 rfl .none rfl (JA.cont ?_)
   refine JA.tk 3 #[true, false, true, true, false, false, false, false, false, false, false, false, false, false, false, false] hQ rfl hE (.cons_cons _ (.cons _ (.cons _ (List.nil_sublist _)))) ?_
   refine JL.loadOwn 0 az_3 rfl rfl rfl .none rfl (JA.cont ?_)
   refine JA.tk 6 #[true, false, true, true, false, false, true, false, false, false, false, false, false, false, false, false] hQ rfl hE (.cons_cons _ (.cons _ (.cons _ (List.nil_sublist _)))) ?_
   refine JL.fieldAddr fo_140_1 rfl .none rfl (JA.cont ?_)
   refine JA.tk 8 #[true, false, true, true, false, false, true, false, true, false, false, false, false, false, false, false] hQ rfl hE (.cons_cons _ (.cons _ (.cons _ (List.nil_sublist _)))) ?_
   refine JL.fieldAddr fo_42_0 rfl .none rfl (JA.cont ?_)
   refine JA.tk 9 #[true, false, true, true, false, false, true, false, true, true, false, false, false, false, false, false] hQ rfl hE (.cons_cons _ (.cons _ (.cons _ (List.nil_sublist _)))) ?_
   refine JL.loadOwn 0 az_3 rfl rfl rfl .none rfl (JA.cont ?_)
   refine JA.many [1, 4, 7, 10] (by kernel_rfl) (by simp) (all_cons ⟨_, #[true, true, true, true, false, false, true, false, true, true, false, false, false, false, false, false], rfl, (by kernel_rfl), ?_⟩ (all_cons ⟨_, #[true, false, true, true, true, false, true, false, true, true, false, false, false, false, false, false], rfl, (by kernel_rfl), ?_⟩ (all_cons ⟨_, #[true, false, true, true, false, false, true, true, true, true, false, false, false, false, false, false], rfl, (by kernel_rfl), ?_⟩ (all_one ⟨_, #[true, false, true, true, false, false, true, false, true, true, true, false, false, false, false, false], rfl, (by kernel_rfl), ?_⟩))))
   ·skip
    refine JL.loadOwn 2 az_28 rfl rfl rfl .none rfl (JA.after hE (HSub.refl _) (.cons_cons _ (.cons _ (.cons _ (List.nil_sublist _)))) ?_)
    refine JA.many [4, 7, 10] (by kernel_rfl) (by simp) (all_cons ⟨_, #[true, true, true, true, true, false, true, false, true, true, false, false, false, false, false, false], rfl, (by kernel_rfl), ?_⟩ (all_cons ⟨_, #[true, true, true, true, false, false, true, true, true, true, false, false, false, false, false, false], rfl, (by kernel_rfl), ?_⟩ (all_one ⟨_, #[true, true, true, true, false, false, true, false, true, true, true, false, false, false, false, false], rfl, (by kernel_rfl), ?_⟩)))
    ·skip
     refine JL.buildSlice (e := 3) (l := [.int .i64 y1394.High]) (by kernel_rfl) .none rfl ?_
     intro b1569
     refine JA.after hE (HSub.refl _) (.cons _ (.cons_cons _ (.cons _ (.cons _ (List.nil_sublist _))))) ?_
     exact nd1524_8 _ _ _ _ ⟨b1569, rfl, rfl, rfl, rfl, rfl, rfl, rfl, rfl, rfl, rfl, rfl, (HSub.refl _)⟩
    ·skip
     refine JL.loadOwn 1 az_28 rfl rfl rfl .none rfl (JA.after hE (HSub.refl _) (.cons_cons _ (.cons _ (.cons _ (List.nil_sublist _)))) ?_)
     exact nd1524_9 _ _ _ _ ⟨rfl, rfl, rfl, rfl, rfl, rfl, rfl, rfl, rfl, rfl, rfl, (HSub.refl _)⟩
    ·skip
     refine JL.buildSlice (e := 3) (l := [.int .i64 y1394.Low]) (by kernel_rfl) .none rfl ?_
     intro b1570
     refine JA.after hE (HSub.refl _) (.cons _ (.cons_cons _ (.cons _ (.cons _ (List.nil_sublist _))))) ?_
     exact nd1524_10 _ _ _ _ ⟨b1570, rfl, rfl, rfl, rfl, rfl, rfl, rfl, rfl, rfl, rfl, rfl, (HSub.refl _)⟩
   ·skip
    refine JL.buildSlice (e := 3) (l := [.int .i64 y1394.High]) (by kernel_rfl) .none rfl ?_
    intro b1571
    refine JA.after hE (HSub.refl _) (.cons _ (.cons_cons _ (.cons _ (.cons _ (List.nil_sublist _))))) ?_
    refine JA.many [1, 7, 10] (by kernel_rfl) (by simp) (all_cons ⟨_, #[true, true, true, true, true, false, true, false, true, true, false, false, false, false, false, false], rfl, (by kernel_rfl), ?_⟩ (all_cons ⟨_, #[true, false, true, true, true, false, true, true, true, true, false, false, false, false, false, false], rfl, (by kernel_rfl), ?_⟩ (all_one ⟨_, #[true, false, true, true, true, false, true, false, true, true, true, false, false, false, false, false], rfl, (by kernel_rfl), ?_⟩)))
    ·skip
     refine JL.loadOwn 3 az_28 rfl rfl rfl .none rfl (JA.after hE (HSub.refl _) (.cons _ (.cons_cons _ (.cons _ (.cons _ (List.nil_sublist _))))) ?_)
     exact nd1524_8 _ _ _ _ ⟨b1571, rfl, rfl, rfl, rfl, rfl, rfl, rfl, rfl, rfl, rfl, rfl, (HSub.refl _)⟩
    ·skip
     refine JL.loadOwn 2 az_28 rfl rfl rfl .none rfl (JA.after hE (HSub.refl _) (.cons _ (.cons_cons _ (.cons _ (.cons _ (List.nil_sublist _))))) ?_)
     exact nd1524_11 _ _ _ _ ⟨b1571, rfl, rfl, rfl, rfl, rfl, rfl, rfl, rfl, rfl, rfl, rfl, (HSub.refl _)⟩
    ·skip
     refine JL.buildSlice (e := 3) (l := [.int .i64 y1394.Low]) (by kernel_rfl) .none rfl ?_
     intro b1572
     refine JA.after hE (HSub.refl _) (.cons _ (.cons _ (.cons_cons _ (.cons _ (.cons _ (List.nil_sublist _)))))) ?_
     exact nd1524_12 _ _ _ _ ⟨b1572, b1571, rfl, rfl, rfl, rfl, rfl, rfl, rfl, rfl, rfl, rfl, rfl, (HSub.refl _)⟩
   ·skip
    refine JL.loadOwn 1 az_28 rfl rfl rfl .none rfl (JA.after hE (HSub.refl _) (.cons_cons _ (.cons _ (.cons _ (List.nil_sublist _)))) ?_)
    refine JA.many [1, 4, 10] (by kernel_rfl) (by simp) (all_cons ⟨_, #[true, true, true, true, false, false, true, true, true, true, false, false, false, false, false, false], rfl, (by kernel_rfl), ?_⟩ (all_cons ⟨_, #[true, false, true, true, true, false, true, true, true, true, false, false, false, false, false, false], rfl, (by kernel_rfl), ?_⟩ (all_one ⟨_, #[true, false, true, true, false, false, true, true, true, true, true, false, false, false, false, false], rfl, (by kernel_rfl), ?_⟩)))
    ·skip
     refine JL.loadOwn 2 az_28 rfl rfl rfl .none rfl (JA.after hE (HSub.refl _) (.cons_cons _ (.cons _ (.cons _ (List.nil_sublist _)))) ?_)
     exact nd1524_9 _ _ _ _ ⟨rfl, rfl, rfl, rfl, rfl, rfl, rfl, rfl, rfl, rfl, rfl, (HSub.refl _)⟩
    ·skip
     refine JL.buildSlice (e := 3) (l := [.int .i64 y1394.High]) (by kernel_rfl) .none rfl ?_
     intro b1573
     refine JA.after hE (HSub.refl _) (.cons _ (.cons_cons _ (.cons _ (.cons _ (List.nil_sublist _))))) ?_
     exact nd1524_11 _ _ _ _ ⟨b1573, rfl, rfl, rfl, rfl, rfl, rfl, rfl, rfl, rfl, rfl, rfl, (HSub.refl _)⟩
    ·skip
     refine JL.buildSlice (e := 3) (l := [.int .i64 y1394.Low]) (by kernel_rfl) .none rfl ?_
     intro b1574
     refine JA.after hE (HSub.refl _) (.cons _ (.cons_cons _ (.cons _ (.cons _ (List.nil_sublist _))))) ?_
     exact nd1524_13 _ _ _ _ ⟨b1574, rfl, rfl, rfl, rfl, rfl, rfl, rfl, rfl, rfl, rfl, rfl, (HSub.refl _)⟩
   ·skip
    refine JL.buildSlice (e := 3) (l := [.int .i64 y1394.Low]) (by kernel_rfl) .none rfl ?_
    intro b1575
    refine JA.after hE (HSub.refl _) (.cons _ (.cons_cons _ (.cons _ (.cons _ (List.nil_sublist _))))) ?_
    refine JA.many [1, 4, 7] (by kernel_rfl) (by simp) (all_cons ⟨_, #[true, true, true, true, false, false, true, false, true, true, true, false, false, false, false, false], rfl, (by kernel_rfl), ?_⟩ (all_cons ⟨_, #[true, false, true, true, true, false, true, false, true, true, true, false, false, false, false, false], rfl, (by kernel_rfl), ?_⟩ (all_one ⟨_, #[true, false, true, true, false, false, true, true, true, true, true, false, false, false, false, false], rfl, (by kernel_rfl), ?_⟩)))
    ·skip
     refine JL.loadOwn 3 az_28 rfl rfl rfl .none rfl (JA.after hE (HSub.refl _) (.cons _ (.cons_cons _ (.cons _ (.cons _ (List.nil_sublist _))))) ?_)
     exact nd1524_10 _ _ _ _ ⟨b1575, rfl, rfl, rfl, rfl, rfl, rfl, rfl, rfl, rfl, rfl, rfl, (HSub.refl _)⟩
    ·skip
     refine JL.buildSlice (e := 3) (l := [.int .i64 y1394.High]) (by kernel_rfl) .none rfl ?_
     intro b1576
     refine JA.after hE (HSub.refl _) (.cons _ (.cons _ (.cons_cons _ (.cons _ (.cons _ (List.nil_sublist _)))))) ?_
     refine JA.perm (swapAt_perm 0 _) ?_
     exact nd1524_12 _ _ _ _ ⟨b1575, b1576, rfl, rfl, rfl, rfl, rfl, rfl, rfl, rfl, rfl, rfl, rfl, (HSub.refl _)⟩
    ·skip
     refine JL.loadOwn 2 az_28 rfl rfl rfl .none rfl (JA.after hE (HSub.refl _) (.cons _ (.cons_cons _ (.cons _ (.cons _ (List.nil_sublist _))))) ?_)
     exact nd1524_13 _ _ _ _ ⟨b1575, rfl, rfl, rfl, rfl, rfl, rfl, rfl, rfl, rfl, rfl, rfl, (HSub.refl _)⟩
  ·refine JC.cond_f (b := decide (x_1387 < (d.Ribs.length : Int))) rfl hc1393 ?_
   refine JC.exit (JQ.exit_then (JQ.exit_then (JQ.exit_block ?_)))
   obtain rfl := Option.some.inj hF
   have ehr1391 := hr1391 _ rfl
   subst ehr1391
   exact JQ.join (out_1388, out_1389) ⟨vout_1388, xsout_1388, vout_1389, xsout_1389, rfl, rfl, rfl, rfl, hout_1388, hout_1389, hs1390, rfl⟩
 ·rintro ⟨out_1007, out_1008⟩ H1009 f bs gs ⟨vout_1007, xsout_1007, vout_1008, xsout_1008, hf2, hf3, rfl, rfl, hout_1007, hout_1008, hs1009, rfl⟩
  have hF := hKr1010
  try dsimp only at hF
  refine (JQ.norm (i := 2) hf2 (JQ.norm (i := 3) hf3 ?_))
  refine JQ.go (JC.seq (JC.mixed 4 4 (tf 0 4) [(b3, .cells [.int .i64 y4.High, vout_1008, (.slice a15 d.Shares.length c16)].toArray 140), (b2, .cells [.int .i64 y4.Low, vout_1007, (.slice a15 d.Shares.length c16)].toArray 140)] (by rfl) mo_ (by kernel_rfl) (by kernel_rfl) ?_))
  intro hQ hE
  refine JA.tk 0 (tf 1 3) hQ rfl hE (.cons_cons _ (.cons_cons _ (List.nil_sublist _))) ?_
  refine JL.loadOwn 1 az_140 rfl rfl rfl .none rfl (JA.cont ?_)
  refine JA.tk 1 (tf 2 2) hQ rfl hE (.cons_cons _ (.cons_cons _ (List.nil_sublist _))) ?_
  refine JL.loadOwn 0 az_140 rfl rfl rfl .none rfl (JA.cont ?_)
  refine JA.many [2] (by kernel_rfl) (by simp) (all_one ⟨_, (tf 3 1), rfl, (by kernel_rfl), ?_⟩)
  refine JL.oneG 0 rfl (fun ho1584 => ?_)
  refine JL.storeOwn 1 (cs := [.int .i64 y4.Low, vout_1007, (.slice a15 d.Shares.length c16)]) az_140 rfl rfl rfl (one_cons rfl (one_cons ho1584.1 (one_cons (SL.one (SL.mono RInt.mono hs1009 hd_8)) one_nil))) rfl rfl .none ?_
  refine JA.after hE (HSub.refl _) (.cons_cons _ (.cons_cons _ (List.nil_sublist _))) ?_
  refine JA.many [3] (by kernel_rfl) (by simp) (all_one ⟨_, (tf 4 0), rfl, (by kernel_rfl), ?_⟩)
  refine JL.oneG 1 rfl (fun ho1585 => ?_)
  refine JL.storeOwn 0 (cs := [.int .i64 y4.High, vout_1008, (.slice a15 d.Shares.length c16)]) az_140 rfl rfl rfl (one_cons rfl (one_cons ho1585.1 (one_cons (SL.one (SL.mono RInt.mono hs1009 hd_8)) one_nil))) rfl rfl .none ?_
  refine JA.after hE (HSub.refl _) (.cons_cons _ (.cons_cons _ (List.nil_sublist _))) ?_
  refine JA.done hQ (by kernel_rfl) ?_
  refine JQ.go (JC.ret (JQ.freezeG 0 (R := RInt) rfl RInt.mono hout_1007 rfl ?_))
  intro H1586 hs1586 hg1587
  refine JQ.freezeG 0 (R := RInt) rfl RInt.mono (CH.mono RInt.mono hs1586 hout_1008) rfl ?_
  intro H1588 hs1588 hg1589
  obtain rfl := Option.some.inj hF
  exact JQ.outH rfl (.cell 1 az_140 rfl rfl rfl (.cell 0 az_140 rfl rfl rfl .nil)) ⟨vout_1007, (.slice a15 d.Shares.length c16), vout_1008, (.slice a15 d.Shares.length c16), rfl, (SL.mono RInt.mono hs1588 hg1587), (SL.mono RInt.mono (HSub.trans hs1009 (HSub.trans hs1586 hs1588)) hd_8), hg1589, (SL.mono RInt.mono (HSub.trans hs1009 (HSub.trans hs1586 hs1588)) hd_8)⟩
end Go.Proofs.YtcipdblhopffbaaGreat
end
