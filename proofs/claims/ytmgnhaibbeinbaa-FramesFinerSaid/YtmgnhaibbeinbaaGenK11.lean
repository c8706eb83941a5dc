/-
  Printed by a program: functions of the translation as plain functions, and their contracts.
-/
import Derived.Test.YtmgnhaibbeinbaaGenK10
namespace Go.Proofs.Ytmgnhaibbeinbaa
open Go Go.RowKit Go.Dec
set_option linter.unusedVariables false
-- 72 ferrule/frames.Turns$1
def F_frames_Turns_1_s1 (n : Nat) (x_ : frames_sides) (c_0 : Frame) (c_1 : Int) : Int → Int → Option (Int ⊕ (Int × Bool))
  | z_67, x7 => (F_frames_distance n c_0 c_1 x7).bind fun y75 => (if ((decide (0 < z_67)) && (decide (0 < y75))) = true then ((F_frames_sides_cosine n x_ z_67).bind fun y95 => (F_frames_sides_cosine n x_ y75).bind fun y96 => (F_frames_compare n y95 y96).bind fun y97 => some (decide (y97 < 0))) else (some false) : Option Bool).bind fun p92 => if p92 = true then (some (Sum.inr (z_67, true))) else (some (Sum.inl y75))
def F_frames_Turns_1 (n : Nat) (x_ : frames_sides) (c_0 : Frame) (c_1 : Int) : Option Bool :=
  (F_frames_positions n c_0).bind fun y4 => (I_frames_positions_1 n y4 (F_frames_Turns_1_s1 n x_ c_0 c_1) 0).bind fun r72 => match r72 with | .inl z_67 => some false | .inr (z_69, z_70) => some z_70
set_option maxRecDepth 100000 in
set_option maxHeartbeats 40000000 in
theorem c_frames_Turns_1 (n : Nat) (H : Hp) (x_ : frames_sides) (c_0 : Frame) (c_0_v0 : Value) (hc_0_0 : SL H 7 R_Section c_0_v0 c_0.Sections) (c_0_b : Nat) (c_0_c : Cells H c_0_b 0 [c_0_v0, .int .i64 c_0.Low, .int .i64 c_0.High, .int .i64 c_0.Ease.Num, .int .i64 c_0.Ease.Den, .int .i64 c_0.Rod, .int .i64 c_0.Case]) (c_1 : Int) (c_1_b : Nat) (c_1_c : Cells H c_1_b 0 [.int .i64 c_1]) (y : Bool) (hF : F_frames_Turns_1 n x_ c_0 c_1 = some y) : SC Try.prog 72 [.agg [.int .i64 x_.arm, .int .i64 x_.stretch].toArray, .pointer (some ⟨c_0_b, 0, none⟩), .pointer (some ⟨c_1_b, 0, none⟩)] (.bool y) H := by
  rw [F_frames_Turns_1] at hF
  refine SC.ofM (N := 32) Try.func72 rfl rfl rfl fun w => ?_
  refine JC.seq ?_
  refine JC.region (by rfl) ?_
  intro hQ
  refine JL.box (cs := [.int .i64 x_.arm, .int .i64 x_.stretch]) rfl .none rfl ?_
  intro b1
  refine JL.alloc ze_4 .none rfl ?_
  intro b2
  refine JL.done hQ ?_
  refine JQ.go ?_
  refine JC.seq ?_
  refine JC.region (by rfl) ?_
  intro hQ
  refine JL.alloc ze_3 .none rfl ?_
  intro b3
  refine JL.storeOwn 0 (cs := [.int .i64 0]) az_3 rfl rfl rfl (one_cons rfl one_nil) rfl rfl .none ?_
  refine JL.done hQ ?_
  refine JQ.go ?_
  refine JC.seq ?_
  refine JC.seq ?_
  refine JC.region (by rfl) ?_
  intro hQ
  refine JL.loadH 0 az_26 rfl c_0_c rfl .none rfl ?_
  obtain ⟨y4, hy4, hF⟩ := bind_some hF
  refine JL.callH (c_frames_positions n H c_0 c_0_v0 hc_0_0 y4 hy4) rfl en_69 .none rfl ?_
  rintro H5 vv6 hs5 ⟨y4_b0, y4_0_v0, rfl, hy4_b0, hy4_0_0⟩
  refine JL.done hQ ?_
  refine JQ.go ?_
  refine JC.block ?_
  obtain ⟨r72, hl73, hF⟩ := bind_some hF
  refine JC.rangeFunc (ρ := Int × Bool) (V := (VPlain fun (x : Int) => .int .i64 x)) (F := fun _ _ step s => I_frames_positions_1 n y4 step s) rfl en_79 (it_frames_positions_1 n H5 y4 y4_0_v0 hy4_0_0 y4_b0 hy4_b0) rfl hl73 (fun (z_67 : Int) H68 fr gs => fr = [(b3, .cells [.int .i64 z_67].toArray 3), (b2, .cells [.bool false].toArray 4), (b1, .cells [.int .i64 x_.arm, .int .i64 x_.stretch].toArray 82)] ∧ gs = [] ∧ HSub H5 H68) (fun (z : Int × Bool) (c : Code) H71 fr gs => match z with | (z_69, z_70) => c = .ret ∧ fr = [(b3, .cells [.int .i64 z_69].toArray 3), (b2, .cells [.bool z_70].toArray 4), (b1, .cells [.int .i64 x_.arm, .int .i64 x_.stretch].toArray 82)] ∧ gs = [] ∧ HSub H5 H71) ⟨rfl, rfl, (HSub.refl _)⟩ ?_ ?_ ?_
  · rintro l8 z_67 x7 y74 v9 own T10 H68 fr gs ⟨rfl, rfl, hs68⟩ hF ⟨rfl, rfl⟩ -
    rw [F_frames_Turns_1_s1] at hF
    refine JC.region (by rfl) ?_
    intro hQ
    refine JL.assign .none rfl ?_
    refine JL.done hQ ?_
    refine JQ.assigned [(b3, .cells [.int .i64 z_67].toArray 3), (b2, .cells [.bool false].toArray 4), (b1, .cells [.int .i64 x_.arm, .int .i64 x_.stretch].toArray 82)] (fun T11 => ?_)
    refine JC.block ?_
    refine JC.seq ?_
    refine JC.region (by rfl) ?_
    intro hQ
    refine JL.loadH 0 az_26 rfl (Cells.mono (HSub.trans hs5 hs68) c_0_c) rfl .none rfl ?_
    refine JL.loadH 0 az_3 rfl (Cells.mono (HSub.trans hs5 hs68) c_1_c) rfl .none rfl ?_
    refine JL.move .none rfl ?_
    obtain ⟨y75, hy75, hF⟩ := bind_some hF
    refine JL.callS (c_frames_distance n H68 c_0 c_0_v0 (SL.mono R_Section_mono (HSub.trans hs5 hs68) hc_0_0) c_1 x7 y75 hy75) rfl en_57 .none rfl ?_
    refine JL.assign .none rfl ?_
    refine JL.done hQ ?_
    refine JQ.go ?_
    refine JC.seq ?_
    refine JC.seq ?_
    refine JC.draw (by rfl) mo_ (by kernel_rfl) ?_
    intro hQ
    refine JL.loadOwn 0 az_3 rfl rfl rfl .none rfl ?_
    refine JL.bin rfl rfl rfl .none rfl ?_
    refine JL.move .none rfl ?_
    refine JL.cut 3 (fun f => f 3 = .pointer (some ⟨b1, 0, none⟩) ∧ f 4 = .pointer (some ⟨b2, 0, none⟩) ∧ f 5 = .pointer (some ⟨b3, 0, none⟩) ∧ f 7 = .int .i64 y75 ∧ f 20 = .bool ((decide (0 < z_67)) && (decide (0 < y75)))) ?_ ?_
    · intro hJ87
      rcases bcases (decide (0 < z_67)) with hc88 | hc88
      · skip
        refine JL.move (.some rfl rfl rfl hc88) rfl ?_
        refine JL.bin rfl rfl rfl (.some rfl rfl rfl hc88) rfl ?_
        refine JL.pick_t (b := decide (0 < z_67)) rfl hc88 .none rfl ?_
        exact hJ87 _ ⟨rfl, rfl, rfl, rfl, and_t hc88 rfl⟩
      · skip
        refine JL.skip (.bool rfl rfl rfl hc88) rfl ?_
        refine JL.skip (.bool rfl rfl rfl hc88) rfl ?_
        refine JL.pick_f (b := decide (0 < z_67)) rfl hc88 .none rfl ?_
        exact hJ87 _ ⟨rfl, rfl, rfl, rfl, and_f hc88 rfl⟩
    · rintro f ⟨hf3, hf4, hf5, hf7, hf20⟩
      refine (JL.norm (i := 3) hf3 (JL.norm (i := 4) hf4 (JL.norm (i := 5) hf5 (JL.norm (i := 7) hf7 (JL.norm (i := 20) hf20 ?_)))))
      refine JL.move .none rfl ?_
      obtain ⟨p92, hp92, hF⟩ := bind_some hF
      refine JL.cut 9 (fun f => f 4 = .pointer (some ⟨b2, 0, none⟩) ∧ f 5 = .pointer (some ⟨b3, 0, none⟩) ∧ f 7 = .int .i64 y75 ∧ f 30 = .bool p92) ?_ ?_
      · intro hJ93
        rcases ite_some hp92 with ⟨hc94, hF⟩ | ⟨hc94, hF⟩
        · skip
          refine JL.loadOwn 2 az_82 rfl rfl rfl (.some rfl rfl rfl hc94) rfl ?_
          refine JL.loadOwn 0 az_3 rfl rfl rfl (.some rfl rfl rfl hc94) rfl ?_
          obtain ⟨y95, hy95, hF⟩ := bind_some hF
          refine JL.callS (c_frames_sides_cosine n H68 x_ z_67 y95 hy95) rfl en_62 (.some rfl rfl rfl hc94) rfl ?_
          refine JL.loadOwn 2 az_82 rfl rfl rfl (.some rfl rfl rfl hc94) rfl ?_
          refine JL.move (.some rfl rfl rfl hc94) rfl ?_
          obtain ⟨y96, hy96, hF⟩ := bind_some hF
          refine JL.callS (c_frames_sides_cosine n H68 x_ y75 y96 hy96) rfl en_62 (.some rfl rfl rfl hc94) rfl ?_
          obtain ⟨y97, hy97, hF⟩ := bind_some hF
          refine JL.callS (c_frames_compare n H68 y95 y96 y97 hy97) rfl en_63 (.some rfl rfl rfl hc94) rfl ?_
          refine JL.bin rfl rfl rfl (.some rfl rfl rfl hc94) rfl ?_
          refine JL.pick_t (b := ((decide (0 < z_67)) && (decide (0 < y75)))) rfl hc94 .none rfl ?_
          obtain rfl := Option.some.inj hF
          exact hJ93 _ ⟨rfl, rfl, rfl, rfl⟩
        · skip
          refine JL.skip (.bool rfl rfl rfl hc94) rfl ?_
          refine JL.skip (.bool rfl rfl rfl hc94) rfl ?_
          refine JL.skip (.bool rfl rfl rfl hc94) rfl ?_
          refine JL.skip (.bool rfl rfl rfl hc94) rfl ?_
          refine JL.skip (.bool rfl rfl rfl hc94) rfl ?_
          refine JL.skip (.bool rfl rfl rfl hc94) rfl ?_
          refine JL.skip (.bool rfl rfl rfl hc94) rfl ?_
          refine JL.skip (.bool rfl rfl rfl hc94) rfl ?_
          refine JL.pick_f (b := ((decide (0 < z_67)) && (decide (0 < y75)))) rfl hc94 .none rfl ?_
          obtain rfl := Option.some.inj hF
          exact hJ93 _ ⟨rfl, rfl, rfl, rfl⟩
      · rintro f ⟨hf4, hf5, hf7, hf30⟩
        refine (JL.norm (i := 4) hf4 (JL.norm (i := 5) hf5 (JL.norm (i := 7) hf7 (JL.norm (i := 30) hf30 ?_))))
        refine JL.doneQ hQ ?_
        refine JQ.go ?_
        rcases ite_some hF with ⟨hc98, hF⟩ | ⟨hc98, hF⟩
        · refine JC.cond_t (b := p92) rfl hc98 ?_
          refine JC.seq ?_
          refine JC.region (by rfl) ?_
          intro hQ
          refine JL.storeOwn 1 (cs := [.bool true]) az_4 rfl rfl rfl (one_cons rfl one_nil) rfl rfl .none ?_
          refine JL.done hQ ?_
          refine JQ.go ?_
          refine JC.ret ?_
          refine JQ.ret_then ?_
          refine JQ.ret_block ?_
          obtain rfl := Option.some.inj hF
          refine JQ.roundRet rfl [(b3, .cells [.int .i64 z_67].toArray 3), (b2, .cells [.bool true].toArray 4), (b1, .cells [.int .i64 x_.arm, .int .i64 x_.stretch].toArray 82)] (HSub.refl _) ?_
          exact ⟨rfl, rfl, rfl, hs68⟩
        · refine JC.cond_f (b := p92) rfl hc98 ?_
          refine JC.skip ?_
          refine JQ.go ?_
          refine JC.region (by rfl) ?_
          intro hQ
          refine JL.move .none rfl ?_
          refine JL.storeOwn 0 (cs := [.int .i64 y75]) az_3 rfl rfl rfl (one_cons rfl one_nil) rfl rfl .none ?_
          refine JL.done hQ ?_
          refine JQ.normal_block ?_
          obtain rfl := Option.some.inj hF
          refine JQ.round rfl [(b3, .cells [.int .i64 y75].toArray 3), (b2, .cells [.bool false].toArray 4), (b1, .cells [.int .i64 x_.arm, .int .i64 x_.stretch].toArray 82)] (HSub.refl _) ?_
          exact ⟨rfl, rfl, hs68⟩
  · rintro D99 z_67 H68 fr gs rfl ⟨rfl, rfl, hs68⟩ -
    try dsimp only at hF
    refine JQ.normal_block ?_
    refine JQ.go ?_
    refine JC.seq ?_
    refine JC.region (by rfl) ?_
    intro hQ
    refine JL.storeOwn 1 (cs := [.bool false]) az_4 rfl rfl rfl (one_cons rfl one_nil) rfl rfl .none ?_
    refine JL.done hQ ?_
    refine JQ.go ?_
    refine JC.ret ?_
    obtain rfl := Option.some.inj hF
    exact JQ.outSM rfl (.cons 3 rfl .nil) (.cell 1 az_4 rfl rfl rfl .nil) rfl
  · rintro D100 ⟨z_69, z_70⟩ _ H71 fr gs rfl ⟨rfl, rfl, rfl, hs71⟩ -
    try dsimp only at hF
    refine JC.ret ?_
    refine JQ.ret_block ?_
    refine JQ.ret_then ?_
    obtain rfl := Option.some.inj hF
    exact JQ.outSM rfl (.cons 3 rfl .nil) (.cell 1 az_4 rfl rfl rfl .nil) rfl

-- 33 ferrule/frames.Turns
def F_frames_Turns (n : Nat) (f_ : Frame) (section_ : Int) : Option (Int × Int) :=
  (F_frames_ask n f_ section_ f_.Low).bind fun y3 => if (y3 != 0) = true then (some (0, y3)) else ((geti f_.Sections section_).bind fun y5 => (F_frames_known n y5 (fun a0_ => F_frames_Turns_1 n a0_ f_ section_)).bind fun y14 => some (y14, 0))
set_option maxRecDepth 100000 in
set_option maxHeartbeats 40000000 in
theorem c_frames_Turns (n : Nat) (H : Hp) (f_ : Frame) (f__v0 : Value) (hf__0 : SL H 7 R_Section f__v0 f_.Sections) (section_ : Int) (y : Int × Int) (hF : F_frames_Turns n f_ section_ = some y) : SC Try.prog 33 [.agg [f__v0, .int .i64 f_.Low, .int .i64 f_.High, .int .i64 f_.Ease.Num, .int .i64 f_.Ease.Den, .int .i64 f_.Rod, .int .i64 f_.Case].toArray, .int .i64 section_] (.tuple [.int .i64 y.1, .int .i64 y.2].toArray) H := by
  rw [F_frames_Turns] at hF
  refine SC.of (N := 22) Try.func33 rfl rfl rfl fun w => ?_
  refine JC.seq ?_
  refine JC.region (by rfl) ?_
  intro hQ
  refine JL.box (cs := [f__v0, .int .i64 f_.Low, .int .i64 f_.High, .int .i64 f_.Ease.Num, .int .i64 f_.Ease.Den, .int .i64 f_.Rod, .int .i64 f_.Case]) rfl .none rfl ?_
  intro b1
  refine JL.box (cs := [.int .i64 section_]) rfl .none rfl ?_
  intro b2
  refine JL.assign .none rfl ?_
  refine JL.assign .none rfl ?_
  refine JL.done hQ ?_
  refine JQ.go ?_
  refine JC.seq ?_
  refine JC.seq ?_
  refine JC.region (by rfl) ?_
  intro hQ
  refine JL.loadOwn 1 az_26 rfl rfl rfl .none rfl ?_
  refine JL.loadOwn 0 az_3 rfl rfl rfl .none rfl ?_
  refine JL.fieldAddr fo_26_1 rfl .none rfl ?_
  refine JL.loadOwn 1 az_3 rfl rfl rfl .none rfl ?_
  obtain ⟨y3, hy3, hF⟩ := bind_some hF
  refine JL.callS (c_frames_ask n H f_ f__v0 hf__0 section_ f_.Low y3 hy3) rfl en_56 .none rfl ?_
  refine JL.assign .none rfl ?_
  refine JL.done hQ ?_
  refine JQ.go ?_
  refine JC.seq ?_
  refine JC.region (by rfl) ?_
  intro hQ
  refine JL.move .none rfl ?_
  refine JL.bin rfl rfl rfl .none rfl ?_
  refine JL.done hQ ?_
  refine JQ.go ?_
  refine JC.fresh (fun f => f 2 = .pointer (some ⟨b1, 0, none⟩) ∧ f 3 = .pointer (some ⟨b2, 0, none⟩) ∧ f 4 = .int .i64 0 ∧ f 5 = .int .i64 0 ∧ f 6 = .int .i64 y3 ∧ f 13 = .bool (y3 != 0)) ⟨rfl, rfl, rfl, rfl, rfl, rfl⟩ ?_
  rintro f ⟨hf2, hf3, hf4, hf5, hf6, hf13⟩
  refine (JC.norm (i := 2) hf2 (JC.norm (i := 3) hf3 (JC.norm (i := 4) hf4 (JC.norm (i := 5) hf5 (JC.norm (i := 6) hf6 (JC.norm (i := 13) hf13 ?_))))))
  rcases ite_some hF with ⟨hc4, hF⟩ | ⟨hc4, hF⟩
  · refine JC.cond_t (b := (y3 != 0)) rfl hc4 ?_
    refine JC.seq ?_
    refine JC.region (by rfl) ?_
    intro hQ
    refine JL.move .none rfl ?_
    refine JL.assign .none rfl ?_
    refine JL.assign .none rfl ?_
    refine JL.done hQ ?_
    refine JQ.go ?_
    refine JC.ret ?_
    refine JQ.ret_then ?_
    obtain rfl := Option.some.inj hF
    exact JQ.outS rfl (.tmp (.tmp .nil)) rfl
  · refine JC.cond_f (b := (y3 != 0)) rfl hc4 ?_
    refine JC.skip ?_
    refine JQ.go ?_
    refine JC.seq ?_
    refine JC.region (by rfl) ?_
    intro hQ
    refine JL.fieldAddr fo_26_0 rfl .none rfl ?_
    refine JL.loadOwn 1 az_22 rfl rfl rfl .none rfl ?_
    refine JL.loadOwn 0 az_3 rfl rfl rfl .none rfl ?_
    obtain ⟨y5, hy5, hF⟩ := bind_some hF
    refine JL.indexSL (R := R_Section) sl_22 hf__0 rfl hy5 .none rfl ?_
    rintro b6 o7 cs8 hc9 - rfl
    refine JL.loadH 0 az_61 rfl hc9 rfl .none rfl ?_
    refine JL.makeFunc .none rfl ?_
    refine JL.freezeC 1 (l := [f__v0, .int .i64 f_.Low, .int .i64 f_.High, .int .i64 f_.Ease.Num, .int .i64 f_.Ease.Den, .int .i64 f_.Rod, .int .i64 f_.Case]) rfl ?_
    intro H10 hs10 hc11
    refine JL.freezeC 0 (l := [.int .i64 section_]) rfl ?_
    intro H12 hs12 hc13
    obtain ⟨y14, hy14, hF⟩ := bind_some hF
    refine JL.callS (c_frames_known n H12 y5 (fun a0_ => F_frames_Turns_1 n a0_ f_ section_) 72 [.pointer (some ⟨b1, 0, none⟩), .pointer (some ⟨b2, 0, none⟩)] en_72 (fun H' hs' a0_ y' hy' => c_frames_Turns_1 n H' a0_ f_ f__v0 (SL.mono R_Section_mono hs' (SL.mono R_Section_mono (HSub.trans hs10 hs12) hf__0)) b1 (Cells.mono hs' (Cells.mono hs12 hc11)) section_ b2 (Cells.mono hs' hc13) y' hy') y14 hy14) rfl en_71 .none rfl ?_
    refine JL.assign .none rfl ?_
    refine JL.assign .none rfl ?_
    refine JL.done hQ ?_
    refine JQ.go ?_
    refine JC.ret ?_
    obtain rfl := Option.some.inj hF
    exact JQ.outS rfl (.tmp (.tmp .nil)) rfl

end Go.Proofs.Ytmgnhaibbeinbaa
