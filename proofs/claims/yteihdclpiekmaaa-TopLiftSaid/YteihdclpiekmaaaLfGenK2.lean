/-
  Printed by a program: functions of the translation as plain functions, and their contracts.
-/
import Derived.Test.YteihdclpiekmaaaLfGenK1
namespace Go.Proofs.Yteihdclpiekmaaa
open Go Go.RowKit Go.Dec
set_option linter.unusedVariables false
-- 133 ferrule/frames.positions
def F_frames_positions (n : Nat) (f_ : Frame) : Option Frame :=
  some f_
set_option maxRecDepth 100000 in
set_option maxHeartbeats 40000000 in
theorem c_frames_positions (n : Nat) (H : Hp) (f_ : Frame) (f__v0 : Value) (hf__0 : SL H 7 R_Section f__v0 f_.Sections) (y : Frame) (hF : F_frames_positions n f_ = some y) : HC Try.prog 133 [.agg [f__v0, .int .i64 f_.Low, .int .i64 f_.High, .int .i64 f_.Ease.Num, .int .i64 f_.Ease.Den, .int .i64 f_.Rod, .int .i64 f_.Case].toArray] H (fun H' v => ∃ b0_ : Nat, ∃ z0_v0 : Value, v = .func (.func 176) #[] [.pointer (some ⟨b0_, 0, none⟩)].toArray ∧ Cells H' b0_ 0 [z0_v0, .int .i64 y.Low, .int .i64 y.High, .int .i64 y.Ease.Num, .int .i64 y.Ease.Den, .int .i64 y.Rod, .int .i64 y.Case] ∧ SL H' 7 R_Section z0_v0 y.Sections) := by
  rw [F_frames_positions] at hF
  refine HC.of (N := 4) Try.func133 rfl rfl rfl fun w => ?_
  refine JC.seq ?_
  refine JC.region (by rfl) ?_
  intro hQ
  refine JL.box (cs := [f__v0, .int .i64 f_.Low, .int .i64 f_.High, .int .i64 f_.Ease.Num, .int .i64 f_.Ease.Den, .int .i64 f_.Rod, .int .i64 f_.Case]) rfl .none rfl ?_
  intro b1
  refine JL.assign .none rfl ?_
  refine JL.done hQ ?_
  refine JQ.go ?_
  refine JC.seq ?_
  refine JC.region (by rfl) ?_
  intro hQ
  refine JL.makeFunc .none rfl ?_
  refine JL.assign .none rfl ?_
  refine JL.done hQ ?_
  refine JQ.go ?_
  refine JC.ret ?_
  refine JQ.freezeC 0 (l := [f__v0, .int .i64 f_.Low, .int .i64 f_.High, .int .i64 f_.Ease.Num, .int .i64 f_.Ease.Den, .int .i64 f_.Rod, .int .i64 f_.Case]) rfl ?_
  intro H2 hs2 hc3
  obtain rfl := Option.some.inj hF
  exact JQ.outH rfl (.tmp .nil) ⟨b1, f__v0, rfl, hc3, (SL.mono R_Section_mono hs2 hf__0)⟩

-- 74 ferrule/frames.distance
def F_frames_distance_s1 (n : Nat) (y2 : List Section) : Int × Int → Option ((Int × Int) ⊕ Int)
  | (r_70, x_71) => if decide (x_71 < (y2.length : Int)) = true then ((geti y2 x_71).bind fun y76 => (nz y76.Gear.Den).bind fun _ => some (Sum.inl ((w64 (y76.Base + (w64 ((w64 (r_70 * y76.Gear.Num)).tdiv y76.Gear.Den)))), (w64 (x_71 + 1))))) else (some (Sum.inr r_70))
def F_frames_distance (n : Nat) (f_ : Frame) (section_ : Int) (r : Int) : Option Int :=
  (slc f_.Sections 1 (w64 (section_ + 1))).bind fun y2 => (loopO n (F_frames_distance_s1 n y2) (r, 0)).bind fun r_43 => some r_43
set_option maxRecDepth 100000 in
set_option maxHeartbeats 40000000 in
theorem c_frames_distance (n : Nat) (H : Hp) (f_ : Frame) (f__v0 : Value) (hf__0 : SL H 7 R_Section f__v0 f_.Sections) (section_ : Int) (r : Int) (y : Int) (hF : F_frames_distance n f_ section_ r = some y) : SC Try.prog 74 [.agg [f__v0, .int .i64 f_.Low, .int .i64 f_.High, .int .i64 f_.Ease.Num, .int .i64 f_.Ease.Den, .int .i64 f_.Rod, .int .i64 f_.Case].toArray, .int .i64 section_, .int .i64 r] (.int .i64 y) H := by
  rw [F_frames_distance] at hF
  refine SC.of (N := 33) Try.func74 rfl rfl rfl fun w => ?_
  refine JC.seq ?_
  refine JC.region (by rfl) ?_
  intro hQ
  refine JL.box (cs := [f__v0, .int .i64 f_.Low, .int .i64 f_.High, .int .i64 f_.Ease.Num, .int .i64 f_.Ease.Den, .int .i64 f_.Rod, .int .i64 f_.Case]) rfl .none rfl ?_
  intro b1
  refine JL.assign .none rfl ?_
  refine JL.done hQ ?_
  refine JQ.go ?_
  refine JC.seq ?_
  refine JC.seq ?_
  refine JC.region (by rfl) ?_
  intro hQ
  refine JL.fieldAddr fo_53_0 rfl .none rfl ?_
  refine JL.loadOwn 0 az_49 rfl rfl rfl .none rfl ?_
  refine JL.move .none rfl ?_
  refine JL.bin rfl rfl rfl .none rfl ?_
  obtain ⟨y2, hy2, hF⟩ := bind_some hF
  refine JL.sliceLoHi (R := R_Section) sl_49 hf__0 rfl rfl hy2 .none rfl ?_
  intro v3 hv4
  refine JL.lenSL (R := R_Section) ul_49 hv4 .none rfl ?_
  refine JL.move .none rfl ?_
  refine JL.done hQ ?_
  refine JQ.go ?_
  obtain ⟨r45, hlr45, hKr45⟩ := bind_some hF
  refine JC.join (fun (r_43 : Int) H44 f bs gs => f 2 = .int .i64 r_43 ∧ bs = [] ∧ gs = [] ∧ HSub H H44 ∧ r_43 = r45) ?_ ?_
  · skip
    refine JC.block ?_
    refine JC.mask [false] [] ?_
    refine JC.loop hlr45 (fun (x : Int × Int) H72 f bs gs => match x with | (r_70, x_71) => f 2 = .int .i64 r_70 ∧ f 13 = v3 ∧ f 14 = .int .i64 (y2.length : Int) ∧ f 15 = .int .i64 x_71 ∧ bs = [] ∧ gs = [] ∧ HSub H H72) ⟨rfl, rfl, rfl, rfl, rfl, rfl, (HSub.refl _)⟩ ?_
    rintro ⟨r_70, x_71⟩ x74 H72 f bs gs ⟨hf2, hf13, hf14, hf15, rfl, rfl, hs72⟩ hF hr73
    rw [F_frames_distance_s1] at hF
    refine (JC.norm (i := 2) hf2 (JC.norm (i := 13) hf13 (JC.norm (i := 14) hf14 (JC.norm (i := 15) hf15 ?_))))
    refine JC.seq ?_
    refine JC.region (by rfl) ?_
    intro hQ
    refine JL.bin rfl rfl rfl .none rfl ?_
    refine JL.done hQ ?_
    refine JQ.go ?_
    refine JC.seq ?_
    rcases ite_some hF with ⟨hc75, hF⟩ | ⟨hc75, hF⟩
    · refine JC.cond_t (b := decide (x_71 < (y2.length : Int))) rfl hc75 ?_
      refine JC.skip ?_
      refine JQ.go ?_
      refine JC.seq ?_
      refine JC.block ?_
      refine JC.seq ?_
      refine JC.region (by rfl) ?_
      intro hQ
      obtain ⟨y76, hy76, hF⟩ := bind_some hF
      refine JL.indexSL (R := R_Section) sl_49 (SL.mono R_Section_mono hs72 hv4) rfl hy76 .none rfl ?_
      rintro b77 o78 cs79 hc80 - rfl
      refine JL.loadH 0 az_68 rfl hc80 rfl .none rfl ?_
      refine JL.alloc ze_68 .none rfl ?_
      intro b81
      refine JL.storeOwn 0 (cs := [.int .i64 y76.Arm.Low, .int .i64 y76.Arm.High, .int .i64 y76.Stretch.Low, .int .i64 y76.Stretch.High, .int .i64 y76.Base, .int .i64 y76.Gear.Num, .int .i64 y76.Gear.Den]) az_68 rfl rfl rfl (one_cons rfl (one_cons rfl (one_cons rfl (one_cons rfl (one_cons rfl (one_cons rfl (one_cons rfl one_nil))))))) rfl rfl .none ?_
      refine JL.done hQ ?_
      refine JQ.go ?_
      refine JC.draw (by rfl) mo_ (by kernel_rfl) ?_
      intro hQ
      refine JL.fieldAddr fo_68_2 rfl .none rfl ?_
      refine JL.loadOwn 0 az_3 rfl rfl rfl .none rfl ?_
      refine JL.move .none rfl ?_
      refine JL.fieldAddr fo_68_3 rfl .none rfl ?_
      refine JL.fieldAddr fo_51_0 rfl .none rfl ?_
      refine JL.loadOwn 0 az_3 rfl rfl rfl .none rfl ?_
      refine JL.bin rfl rfl rfl .none rfl ?_
      refine JL.fieldAddr fo_68_3 rfl .none rfl ?_
      refine JL.fieldAddr fo_51_1 rfl .none rfl ?_
      refine JL.loadOwn 0 az_3 rfl rfl rfl .none rfl ?_
      obtain ⟨u83, hu83, hF⟩ := bind_some hF
      refine JL.div rfl rfl (nz_some hu83) rfl .none rfl ?_
      refine JL.bin rfl rfl rfl .none rfl ?_
      refine JL.assign .none rfl ?_
      refine JL.doneQ hQ ?_
      refine JQ.normal_block ?_
      refine JQ.go ?_
      refine JC.fresh (fun f => f 2 = .int .i64 (w64 (y76.Base + (w64 ((w64 (r_70 * y76.Gear.Num)).tdiv y76.Gear.Den)))) ∧ f 13 = v3 ∧ f 14 = .int .i64 (y2.length : Int) ∧ f 15 = .int .i64 x_71) ⟨rfl, rfl, rfl, rfl⟩ ?_
      rintro f ⟨hf2, hf13, hf14, hf15⟩
      refine (JC.norm (i := 2) hf2 (JC.norm (i := 13) hf13 (JC.norm (i := 14) hf14 (JC.norm (i := 15) hf15 ?_))))
      refine JC.region (by rfl) ?_
      intro hQ
      refine JL.bin rfl rfl rfl .none rfl ?_
      refine JL.move .none rfl ?_
      refine JL.done hQ ?_
      obtain rfl := Option.some.inj hF
      refine JQ.mask [false] [] ?_
      exact JQ.next rfl ⟨rfl, rfl, rfl, rfl, rfl, rfl, hs72⟩
    · refine JC.cond_f (b := decide (x_71 < (y2.length : Int))) rfl hc75 ?_
      refine JC.exit ?_
      refine JQ.exit_then ?_
      refine JQ.exit_then ?_
      refine JQ.exit_block ?_
      obtain rfl := Option.some.inj hF
      have ehr73 := hr73 _ rfl
      subst ehr73
      exact JQ.join r_70 ⟨rfl, rfl, rfl, hs72, rfl⟩
  · rintro r_43 H44 f bs gs ⟨hf2, rfl, rfl, hs44, rfl⟩
    have hF := hKr45
    try dsimp only at hF
    refine (JQ.norm (i := 2) hf2 ?_)
    refine JQ.go ?_
    refine JC.seq ?_
    refine JC.region (by rfl) ?_
    intro hQ
    refine JL.move .none rfl ?_
    refine JL.assign .none rfl ?_
    refine JL.done hQ ?_
    refine JQ.go ?_
    refine JC.ret ?_
    obtain rfl := Option.some.inj hF
    exact JQ.outS rfl (.tmp .nil) rfl

-- 76 (ferrule/frames.sides).cosine
def F_frames_sides_cosine (n : Nat) (x_ : frames_sides) (d : Int) : Option Frac :=
  some (Frac.mk (w64 ((w64 ((w64 (d * d)) + (w64 (x_.arm * x_.arm)))) - (w64 (x_.stretch * x_.stretch)))) (w64 ((w64 (2 * d)) * x_.arm)))
set_option maxRecDepth 100000 in
set_option maxHeartbeats 40000000 in
theorem c_frames_sides_cosine (n : Nat) (H : Hp) (x_ : frames_sides) (d : Int) (y : Frac) (hF : F_frames_sides_cosine n x_ d = some y) : SC Try.prog 76 [.agg [.int .i64 x_.arm, .int .i64 x_.stretch].toArray, .int .i64 d] (.agg [.int .i64 y.Num, .int .i64 y.Den].toArray) H := by
  rw [F_frames_sides_cosine] at hF
  refine SC.of (N := 26) Try.func76 rfl rfl rfl fun w => ?_
  refine JC.seq ?_
  refine JC.region (by rfl) ?_
  intro hQ
  refine JL.box (cs := [.int .i64 x_.arm, .int .i64 x_.stretch]) rfl .none rfl ?_
  intro b1
  refine JL.alloc ze_51 .none rfl ?_
  intro b2
  refine JL.done hQ ?_
  refine JQ.go ?_
  refine JC.seq ?_
  refine JC.region (by rfl) ?_
  intro hQ
  refine JL.move .none rfl ?_
  refine JL.move .none rfl ?_
  refine JL.bin rfl rfl rfl .none rfl ?_
  refine JL.fieldAddr fo_147_0 rfl .none rfl ?_
  refine JL.loadOwn 1 az_3 rfl rfl rfl .none rfl ?_
  refine JL.fieldAddr fo_147_0 rfl .none rfl ?_
  refine JL.loadOwn 1 az_3 rfl rfl rfl .none rfl ?_
  refine JL.bin rfl rfl rfl .none rfl ?_
  refine JL.bin rfl rfl rfl .none rfl ?_
  refine JL.fieldAddr fo_147_1 rfl .none rfl ?_
  refine JL.loadOwn 1 az_3 rfl rfl rfl .none rfl ?_
  refine JL.fieldAddr fo_147_1 rfl .none rfl ?_
  refine JL.loadOwn 1 az_3 rfl rfl rfl .none rfl ?_
  refine JL.bin rfl rfl rfl .none rfl ?_
  refine JL.bin rfl rfl rfl .none rfl ?_
  refine JL.move .none rfl ?_
  refine JL.bin rfl rfl rfl .none rfl ?_
  refine JL.fieldAddr fo_147_0 rfl .none rfl ?_
  refine JL.loadOwn 1 az_3 rfl rfl rfl .none rfl ?_
  refine JL.bin rfl rfl rfl .none rfl ?_
  refine JL.build (l := [.int .i64 (w64 ((w64 ((w64 (d * d)) + (w64 (x_.arm * x_.arm)))) - (w64 (x_.stretch * x_.stretch)))), .int .i64 (w64 ((w64 (2 * d)) * x_.arm))]) (by kernel_rfl) .none rfl ?_
  refine JL.storeOwn 0 (cs := [.int .i64 (w64 ((w64 ((w64 (d * d)) + (w64 (x_.arm * x_.arm)))) - (w64 (x_.stretch * x_.stretch)))), .int .i64 (w64 ((w64 (2 * d)) * x_.arm))]) az_51 rfl rfl rfl (one_cons rfl (one_cons rfl one_nil)) rfl rfl .none ?_
  refine JL.done hQ ?_
  refine JQ.go ?_
  refine JC.fresh (fun f => f 4 = .pointer (some ⟨b2, 0, none⟩)) rfl ?_
  rintro f hf4
  refine (JC.norm (i := 4) hf4 ?_)
  refine JC.ret ?_
  obtain rfl := Option.some.inj hF
  exact JQ.outS rfl (.cell 0 az_51 rfl rfl rfl .nil) rfl

-- 174 cmp.isNaN[int]
def F_cmp_isNaN_int_ (n : Nat) (x_ : Int) : Option Bool :=
  some (x_ != x_)
set_option maxRecDepth 100000 in
set_option maxHeartbeats 40000000 in
theorem c_cmp_isNaN_int_ (n : Nat) (H : Hp) (x_ : Int) (y : Bool) (hF : F_cmp_isNaN_int_ n x_ = some y) : SC Try.prog 174 [.int .i64 x_] (.bool y) H := by
  rw [F_cmp_isNaN_int_] at hF
  refine SC.of (N := 6) Try.func174 rfl rfl rfl fun w => ?_
  refine JC.seq ?_
  refine JC.region (by rfl) ?_
  intro hQ
  refine JL.assign .none rfl ?_
  refine JL.done hQ ?_
  refine JQ.go ?_
  refine JC.seq ?_
  refine JC.region (by rfl) ?_
  intro hQ
  refine JL.move .none rfl ?_
  refine JL.move .none rfl ?_
  refine JL.bin rfl rfl rfl .none rfl ?_
  refine JL.assign .none rfl ?_
  refine JL.done hQ ?_
  refine JQ.go ?_
  refine JC.ret ?_
  obtain rfl := Option.some.inj hF
  exact JQ.outS rfl (.tmp .nil) rfl

-- 126 cmp.Compare[int]
def F_cmp_Compare_int_ (n : Nat) (x_ : Int) (y_ : Int) : Option Int :=
  (F_cmp_isNaN_int_ n x_).bind fun y1 => (F_cmp_isNaN_int_ n y_).bind fun y2 => if y1 = true then (if y2 = true then (some 0) else (some (-1))) else (if y2 = true then (some 1) else (if decide (x_ < y_) = true then (some (-1)) else (if decide (y_ < x_) = true then (some 1) else (some 0))))
set_option maxRecDepth 100000 in
set_option maxHeartbeats 40000000 in
theorem c_cmp_Compare_int_ (n : Nat) (H : Hp) (x_ : Int) (y_ : Int) (y : Int) (hF : F_cmp_Compare_int_ n x_ y_ = some y) : SC Try.prog 126 [.int .i64 x_, .int .i64 y_] (.int .i64 y) H := by
  rw [F_cmp_Compare_int_] at hF
  refine SC.of (N := 20) Try.func126 rfl rfl rfl fun w => ?_
  refine JC.seq ?_
  refine JC.region (by rfl) ?_
  intro hQ
  refine JL.assign .none rfl ?_
  refine JL.done hQ ?_
  refine JQ.go ?_
  refine JC.seq ?_
  refine JC.region (by rfl) ?_
  intro hQ
  refine JL.move .none rfl ?_
  obtain ⟨y1, hy1, hF⟩ := bind_some hF
  refine JL.callS (c_cmp_isNaN_int_ n H x_ y1 hy1) rfl en_174 .none rfl ?_
  refine JL.assign .none rfl ?_
  refine JL.done hQ ?_
  refine JQ.go ?_
  refine JC.seq ?_
  refine JC.region (by rfl) ?_
  intro hQ
  refine JL.move .none rfl ?_
  obtain ⟨y2, hy2, hF⟩ := bind_some hF
  refine JL.callS (c_cmp_isNaN_int_ n H y_ y2 hy2) rfl en_174 .none rfl ?_
  refine JL.assign .none rfl ?_
  refine JL.done hQ ?_
  refine JQ.go ?_
  refine JC.seq ?_
  refine JC.seq ?_
  refine JC.region (by rfl) ?_
  intro hQ
  refine JL.move .none rfl ?_
  refine JL.done hQ ?_
  refine JQ.go ?_
  rcases ite_some hF with ⟨hc3, hF⟩ | ⟨hc3, hF⟩
  · refine JC.cond_t (b := y1) rfl hc3 ?_
    refine JC.seq ?_
    refine JC.seq ?_
    refine JC.region (by rfl) ?_
    intro hQ
    refine JL.move .none rfl ?_
    refine JL.done hQ ?_
    refine JQ.go ?_
    rcases ite_some hF with ⟨hc4, hF⟩ | ⟨hc4, hF⟩
    · refine JC.cond_t (b := y2) rfl hc4 ?_
      refine JC.seq ?_
      refine JC.region (by rfl) ?_
      intro hQ
      refine JL.assign .none rfl ?_
      refine JL.done hQ ?_
      refine JQ.go ?_
      refine JC.ret ?_
      refine JQ.ret_then ?_
      refine JQ.ret_then ?_
      obtain rfl := Option.some.inj hF
      exact JQ.outS rfl (.tmp .nil) rfl
    · refine JC.cond_f (b := y2) rfl hc4 ?_
      refine JC.skip ?_
      refine JQ.go ?_
      refine JC.seq ?_
      refine JC.region (by rfl) ?_
      intro hQ
      refine JL.assign .none rfl ?_
      refine JL.done hQ ?_
      refine JQ.go ?_
      refine JC.ret ?_
      refine JQ.ret_then ?_
      obtain rfl := Option.some.inj hF
      exact JQ.outS rfl (.tmp .nil) rfl
  · refine JC.cond_f (b := y1) rfl hc3 ?_
    refine JC.skip ?_
    refine JQ.go ?_
    refine JC.seq ?_
    refine JC.seq ?_
    refine JC.region (by rfl) ?_
    intro hQ
    refine JL.move .none rfl ?_
    refine JL.done hQ ?_
    refine JQ.go ?_
    rcases ite_some hF with ⟨hc5, hF⟩ | ⟨hc5, hF⟩
    · refine JC.cond_t (b := y2) rfl hc5 ?_
      refine JC.seq ?_
      refine JC.region (by rfl) ?_
      intro hQ
      refine JL.assign .none rfl ?_
      refine JL.done hQ ?_
      refine JQ.go ?_
      refine JC.ret ?_
      refine JQ.ret_then ?_
      obtain rfl := Option.some.inj hF
      exact JQ.outS rfl (.tmp .nil) rfl
    · refine JC.cond_f (b := y2) rfl hc5 ?_
      refine JC.skip ?_
      refine JQ.go ?_
      refine JC.seq ?_
      refine JC.seq ?_
      refine JC.region (by rfl) ?_
      intro hQ
      refine JL.move .none rfl ?_
      refine JL.move .none rfl ?_
      refine JL.bin rfl rfl rfl .none rfl ?_
      refine JL.done hQ ?_
      refine JQ.go ?_
      refine JC.fresh (fun f => f 0 = .int .i64 x_ ∧ f 1 = .int .i64 y_ ∧ f 4 = .int .i64 0 ∧ f 16 = .bool (decide (x_ < y_))) ⟨rfl, rfl, rfl, rfl⟩ ?_
      rintro f ⟨hf0, hf1, hf4, hf16⟩
      refine (JC.norm (i := 0) hf0 (JC.norm (i := 1) hf1 (JC.norm (i := 4) hf4 (JC.norm (i := 16) hf16 ?_))))
      rcases ite_some hF with ⟨hc6, hF⟩ | ⟨hc6, hF⟩
      · refine JC.cond_t (b := decide (x_ < y_)) rfl hc6 ?_
        refine JC.seq ?_
        refine JC.region (by rfl) ?_
        intro hQ
        refine JL.assign .none rfl ?_
        refine JL.done hQ ?_
        refine JQ.go ?_
        refine JC.ret ?_
        refine JQ.ret_then ?_
        obtain rfl := Option.some.inj hF
        exact JQ.outS rfl (.tmp .nil) rfl
      · refine JC.cond_f (b := decide (x_ < y_)) rfl hc6 ?_
        refine JC.skip ?_
        refine JQ.go ?_
        refine JC.seq ?_
        refine JC.seq ?_
        refine JC.region (by rfl) ?_
        intro hQ
        refine JL.move .none rfl ?_
        refine JL.move .none rfl ?_
        refine JL.bin rfl rfl rfl .none rfl ?_
        refine JL.done hQ ?_
        refine JQ.go ?_
        rcases ite_some hF with ⟨hc7, hF⟩ | ⟨hc7, hF⟩
        · refine JC.cond_t (b := decide (y_ < x_)) rfl hc7 ?_
          refine JC.seq ?_
          refine JC.region (by rfl) ?_
          intro hQ
          refine JL.assign .none rfl ?_
          refine JL.done hQ ?_
          refine JQ.go ?_
          refine JC.ret ?_
          refine JQ.ret_then ?_
          obtain rfl := Option.some.inj hF
          exact JQ.outS rfl (.tmp .nil) rfl
        · refine JC.cond_f (b := decide (y_ < x_)) rfl hc7 ?_
          refine JC.skip ?_
          refine JQ.go ?_
          refine JC.seq ?_
          refine JC.region (by rfl) ?_
          intro hQ
          refine JL.assign .none rfl ?_
          refine JL.done hQ ?_
          refine JQ.go ?_
          refine JC.ret ?_
          obtain rfl := Option.some.inj hF
          exact JQ.outS rfl (.tmp .nil) rfl

-- 77 ferrule/frames.compare
def F_frames_compare (n : Nat) (a : Frac) (b : Frac) : Option Int :=
  (F_cmp_Compare_int_ n (w64 (a.Num * b.Den)) (w64 (b.Num * a.Den))).bind fun y3 => some y3
set_option maxRecDepth 100000 in
set_option maxHeartbeats 40000000 in
theorem c_frames_compare (n : Nat) (H : Hp) (a : Frac) (b : Frac) (y : Int) (hF : F_frames_compare n a b = some y) : SC Try.prog 77 [.agg [.int .i64 a.Num, .int .i64 a.Den].toArray, .agg [.int .i64 b.Num, .int .i64 b.Den].toArray] (.int .i64 y) H := by
  rw [F_frames_compare] at hF
  refine SC.of (N := 16) Try.func77 rfl rfl rfl fun w => ?_
  refine JC.seq ?_
  refine JC.region (by rfl) ?_
  intro hQ
  refine JL.box (cs := [.int .i64 a.Num, .int .i64 a.Den]) rfl .none rfl ?_
  intro b1
  refine JL.box (cs := [.int .i64 b.Num, .int .i64 b.Den]) rfl .none rfl ?_
  intro b2
  refine JL.assign .none rfl ?_
  refine JL.done hQ ?_
  refine JQ.go ?_
  refine JC.seq ?_
  refine JC.region (by rfl) ?_
  intro hQ
  refine JL.fieldAddr fo_51_0 rfl .none rfl ?_
  refine JL.loadOwn 1 az_3 rfl rfl rfl .none rfl ?_
  refine JL.fieldAddr fo_51_1 rfl .none rfl ?_
  refine JL.loadOwn 0 az_3 rfl rfl rfl .none rfl ?_
  refine JL.bin rfl rfl rfl .none rfl ?_
  refine JL.fieldAddr fo_51_0 rfl .none rfl ?_
  refine JL.loadOwn 0 az_3 rfl rfl rfl .none rfl ?_
  refine JL.fieldAddr fo_51_1 rfl .none rfl ?_
  refine JL.loadOwn 1 az_3 rfl rfl rfl .none rfl ?_
  refine JL.bin rfl rfl rfl .none rfl ?_
  obtain ⟨y3, hy3, hF⟩ := bind_some hF
  refine JL.callS (c_cmp_Compare_int_ n H (w64 (a.Num * b.Den)) (w64 (b.Num * a.Den)) y3 hy3) rfl en_126 .none rfl ?_
  refine JL.assign .none rfl ?_
  refine JL.done hQ ?_
  refine JQ.go ?_
  refine JC.fresh (fun f => f 4 = .int .i64 y3) rfl ?_
  rintro f hf4
  refine (JC.norm (i := 4) hf4 ?_)
  refine JC.ret ?_
  obtain rfl := Option.some.inj hF
  exact JQ.outS rfl (.tmp .nil) rfl

-- 134 (ferrule/frames.sides).binds
def F_frames_sides_binds (n : Nat) (x_ : frames_sides) (d : Int) (ease : Frac) : Option Bool :=
  if (d == 0) = true then (some true) else ((F_frames_sides_cosine n x_ d).bind fun y4 => (F_frames_compare n y4 (Frac.mk (w64 (ease.Den - ease.Num)) ease.Den)).bind fun y7 => (if decide (0 ≤ y7) = true then (some true) else ((F_frames_compare n y4 (Frac.mk (w64 (-(w64 (ease.Den - ease.Num)))) ease.Den)).bind fun y12 => some (decide (y12 ≤ 0))) : Option Bool).bind fun p9 => some p9)
set_option maxRecDepth 100000 in
set_option maxHeartbeats 40000000 in
theorem c_frames_sides_binds (n : Nat) (H : Hp) (x_ : frames_sides) (d : Int) (ease : Frac) (y : Bool) (hF : F_frames_sides_binds n x_ d ease = some y) : SC Try.prog 134 [.agg [.int .i64 x_.arm, .int .i64 x_.stretch].toArray, .int .i64 d, .agg [.int .i64 ease.Num, .int .i64 ease.Den].toArray] (.bool y) H := by
  rw [F_frames_sides_binds] at hF
  refine SC.of (N := 37) Try.func134 rfl rfl rfl fun w => ?_
  refine JC.seq ?_
  refine JC.region (by rfl) ?_
  intro hQ
  refine JL.box (cs := [.int .i64 x_.arm, .int .i64 x_.stretch]) rfl .none rfl ?_
  intro b1
  refine JL.box (cs := [.int .i64 ease.Num, .int .i64 ease.Den]) rfl .none rfl ?_
  intro b2
  refine JL.assign .none rfl ?_
  refine JL.done hQ ?_
  refine JQ.go ?_
  refine JC.seq ?_
  refine JC.seq ?_
  refine JC.region (by rfl) ?_
  intro hQ
  refine JL.move .none rfl ?_
  refine JL.bin rfl rfl rfl .none rfl ?_
  refine JL.done hQ ?_
  refine JQ.go ?_
  rcases ite_some hF with ⟨hc3, hF⟩ | ⟨hc3, hF⟩
  · refine JC.cond_t (b := (d == 0)) rfl hc3 ?_
    refine JC.seq ?_
    refine JC.region (by rfl) ?_
    intro hQ
    refine JL.assign .none rfl ?_
    refine JL.done hQ ?_
    refine JQ.go ?_
    refine JC.ret ?_
    refine JQ.ret_then ?_
    obtain rfl := Option.some.inj hF
    exact JQ.outS rfl (.tmp .nil) rfl
  · refine JC.cond_f (b := (d == 0)) rfl hc3 ?_
    refine JC.skip ?_
    refine JQ.go ?_
    refine JC.seq ?_
    refine JC.region (by rfl) ?_
    intro hQ
    refine JL.loadOwn 1 az_147 rfl rfl rfl .none rfl ?_
    refine JL.move .none rfl ?_
    obtain ⟨y4, hy4, hF⟩ := bind_some hF
    refine JL.callS (c_frames_sides_cosine n H x_ d y4 hy4) rfl en_76 .none rfl ?_
    refine JL.alloc ze_51 .none rfl ?_
    intro b5
    refine JL.storeOwn 0 (cs := [.int .i64 y4.Num, .int .i64 y4.Den]) az_51 rfl rfl rfl (one_cons rfl (one_cons rfl one_nil)) rfl rfl .none ?_
    refine JL.done hQ ?_
    refine JQ.go ?_
    refine JC.seq ?_
    refine JC.region (by rfl) ?_
    intro hQ
    refine JL.fieldAddr fo_51_1 rfl .none rfl ?_
    refine JL.loadOwn 1 az_3 rfl rfl rfl .none rfl ?_
    refine JL.fieldAddr fo_51_0 rfl .none rfl ?_
    refine JL.loadOwn 1 az_3 rfl rfl rfl .none rfl ?_
    refine JL.bin rfl rfl rfl .none rfl ?_
    refine JL.fieldAddr fo_51_1 rfl .none rfl ?_
    refine JL.loadOwn 1 az_3 rfl rfl rfl .none rfl ?_
    refine JL.build (l := [.int .i64 (w64 (ease.Den - ease.Num)), .int .i64 ease.Den]) (by kernel_rfl) .none rfl ?_
    refine JL.alloc ze_51 .none rfl ?_
    intro b6
    refine JL.storeOwn 0 (cs := [.int .i64 (w64 (ease.Den - ease.Num)), .int .i64 ease.Den]) az_51 rfl rfl rfl (one_cons rfl (one_cons rfl one_nil)) rfl rfl .none ?_
    refine JL.done hQ ?_
    refine JQ.go ?_
    refine JC.fresh (fun f => f 6 = .bool false ∧ f 7 = .pointer (some ⟨b5, 0, none⟩) ∧ f 8 = .pointer (some ⟨b6, 0, none⟩)) ⟨rfl, rfl, rfl⟩ ?_
    rintro f ⟨hf6, hf7, hf8⟩
    refine (JC.norm (i := 6) hf6 (JC.norm (i := 7) hf7 (JC.norm (i := 8) hf8 ?_)))
    refine JC.seq ?_
    refine JC.region (by rfl) ?_
    intro hQ
    refine JL.loadOwn 1 az_51 rfl rfl rfl .none rfl ?_
    refine JL.loadOwn 0 az_51 rfl rfl rfl .none rfl ?_
    obtain ⟨y7, hy7, hF⟩ := bind_some hF
    refine JL.callS (c_frames_compare n H y4 (Frac.mk (w64 (ease.Den - ease.Num)) ease.Den) y7 hy7) rfl en_77 .none rfl ?_
    refine JL.bin rfl rfl rfl .none rfl ?_
    refine JL.move .none rfl ?_
    obtain ⟨p9, hp9, hF⟩ := bind_some hF
    refine JL.cut 10 (fun f => f 36 = .bool p9) ?_ ?_
    · intro hJ10
      rcases ite_some hp9 with ⟨hc11, hF⟩ | ⟨hc11, hF⟩
      · skip
        refine JL.skip (.bool rfl rfl rfl hc11) rfl ?_
        refine JL.skip (.bool rfl rfl rfl hc11) rfl ?_
        refine JL.skip (.bool rfl rfl rfl hc11) rfl ?_
        refine JL.skip (.bool rfl rfl rfl hc11) rfl ?_
        refine JL.skip (.bool rfl rfl rfl hc11) rfl ?_
        refine JL.skip (.bool rfl rfl rfl hc11) rfl ?_
        refine JL.skip (.bool rfl rfl rfl hc11) rfl ?_
        refine JL.skip (.bool rfl rfl rfl hc11) rfl ?_
        refine JL.skip (.bool rfl rfl rfl hc11) rfl ?_
        refine JL.pick_t (b := decide (0 ≤ y7)) rfl hc11 .none rfl ?_
        obtain rfl := Option.some.inj hF
        exact hJ10 _ (rfl)
      · skip
        refine JL.loadOwn 1 az_51 rfl rfl rfl (.some rfl rfl rfl hc11) rfl ?_
        refine JL.fieldAddr fo_51_0 rfl (.some rfl rfl rfl hc11) rfl ?_
        refine JL.loadOwn 0 az_3 rfl rfl rfl (.some rfl rfl rfl hc11) rfl ?_
        refine JL.neg rfl (.some rfl rfl rfl hc11) rfl ?_
        refine JL.fieldAddr fo_51_1 rfl (.some rfl rfl rfl hc11) rfl ?_
        refine JL.loadOwn 0 az_3 rfl rfl rfl (.some rfl rfl rfl hc11) rfl ?_
        refine JL.build (l := [.int .i64 (w64 (-(w64 (ease.Den - ease.Num)))), .int .i64 ease.Den]) (by kernel_rfl) (.some rfl rfl rfl hc11) rfl ?_
        obtain ⟨y12, hy12, hF⟩ := bind_some hF
        refine JL.callS (c_frames_compare n H y4 (Frac.mk (w64 (-(w64 (ease.Den - ease.Num)))) ease.Den) y12 hy12) rfl en_77 (.some rfl rfl rfl hc11) rfl ?_
        refine JL.bin rfl rfl rfl (.some rfl rfl rfl hc11) rfl ?_
        refine JL.pick_f (b := decide (0 ≤ y7)) rfl hc11 .none rfl ?_
        obtain rfl := Option.some.inj hF
        exact hJ10 _ (rfl)
    · rintro f hf36
      refine (JL.norm (i := 36) hf36 ?_)
      refine JL.assign .none rfl ?_
      refine JL.done hQ ?_
      refine JQ.go ?_
      refine JC.ret ?_
      obtain rfl := Option.some.inj hF
      exact JQ.outS rfl (.tmp .nil) rfl

-- 132 ferrule/frames.stuck$1
def F_frames_stuck_1_s1 (n : Nat) (x_ : frames_sides) (c_0 : Frame) (c_1 : Int) : Unit → Int → Option (Unit ⊕ Bool)
  | _, x6 => (F_frames_distance n c_0 c_1 x6).bind fun y29 => (F_frames_sides_binds n x_ y29 c_0.Ease).bind fun y30 => if y30 = true then (some (Sum.inr true)) else (some (Sum.inl ()))
def F_frames_stuck_1 (n : Nat) (x_ : frames_sides) (c_0 : Frame) (c_1 : Int) : Option Bool :=
  (F_frames_positions n c_0).bind fun y3 => (I_frames_positions_1 n y3 (F_frames_stuck_1_s1 n x_ c_0 c_1) ()).bind fun r24 => match r24 with | .inl _ => some false | .inr z_22 => some z_22
set_option maxRecDepth 100000 in
set_option maxHeartbeats 40000000 in
theorem c_frames_stuck_1 (n : Nat) (H : Hp) (x_ : frames_sides) (c_0 : Frame) (c_0_v0 : Value) (hc_0_0 : SL H 7 R_Section c_0_v0 c_0.Sections) (c_0_b : Nat) (c_0_c : Cells H c_0_b 0 [c_0_v0, .int .i64 c_0.Low, .int .i64 c_0.High, .int .i64 c_0.Ease.Num, .int .i64 c_0.Ease.Den, .int .i64 c_0.Rod, .int .i64 c_0.Case]) (c_1 : Int) (c_1_b : Nat) (c_1_c : Cells H c_1_b 0 [.int .i64 c_1]) (y : Bool) (hF : F_frames_stuck_1 n x_ c_0 c_1 = some y) : SC Try.prog 132 [.agg [.int .i64 x_.arm, .int .i64 x_.stretch].toArray, .pointer (some ⟨c_0_b, 0, none⟩), .pointer (some ⟨c_1_b, 0, none⟩)] (.bool y) H := by
  rw [F_frames_stuck_1] at hF
  refine SC.ofM (N := 17) Try.func132 rfl rfl rfl fun w => ?_
  refine JC.seq ?_
  refine JC.region (by rfl) ?_
  intro hQ
  refine JL.box (cs := [.int .i64 x_.arm, .int .i64 x_.stretch]) rfl .none rfl ?_
  intro b1
  refine JL.alloc ze_4 .none rfl ?_
  intro b2
  refine JL.done hQ ?_
  refine JQ.go ?_
  refine JC.seq ?_
  refine JC.seq ?_
  refine JC.region (by rfl) ?_
  intro hQ
  refine JL.loadH 0 az_53 rfl c_0_c rfl .none rfl ?_
  obtain ⟨y3, hy3, hF⟩ := bind_some hF
  refine JL.callH (c_frames_positions n H c_0 c_0_v0 hc_0_0 y3 hy3) rfl en_133 .none rfl ?_
  rintro H4 vv5 hs4 ⟨y3_b0, y3_0_v0, rfl, hy3_b0, hy3_0_0⟩
  refine JL.done hQ ?_
  refine JQ.go ?_
  refine JC.block ?_
  obtain ⟨r24, hl25, hF⟩ := bind_some hF
  refine JC.rangeFunc (ρ := Bool) (V := (VPlain fun (x : Int) => .int .i64 x)) (F := fun _ _ step s => I_frames_positions_1 n y3 step s) rfl en_176 (it_frames_positions_1 n H4 y3 y3_0_v0 hy3_0_0 y3_b0 hy3_b0) rfl hl25 (fun (_ : Unit) H21 fr gs => fr = [(b2, .cells [.bool false].toArray 4), (b1, .cells [.int .i64 x_.arm, .int .i64 x_.stretch].toArray 147)] ∧ gs = [] ∧ HSub H4 H21) (fun (z_22 : Bool) (c : Code) H23 fr gs => c = .ret ∧ fr = [(b2, .cells [.bool z_22].toArray 4), (b1, .cells [.int .i64 x_.arm, .int .i64 x_.stretch].toArray 147)] ∧ gs = [] ∧ HSub H4 H23) ⟨rfl, rfl, (HSub.refl _)⟩ ?_ ?_ ?_
  · rintro l7 _ x6 y26 v8 own T9 H21 fr gs ⟨rfl, rfl, hs21⟩ hF ⟨rfl, rfl⟩ -
    rw [F_frames_stuck_1_s1] at hF
    refine JC.region (by rfl) ?_
    intro hQ
    refine JL.assign .none rfl ?_
    refine JL.done hQ ?_
    refine JQ.assigned [(b2, .cells [.bool false].toArray 4), (b1, .cells [.int .i64 x_.arm, .int .i64 x_.stretch].toArray 147)] (fun T10 => ?_)
    refine JC.block ?_
    refine JC.seq ?_
    refine JC.draw (by rfl) mo_ (by kernel_rfl) ?_
    intro hQ
    refine JL.loadOwn 1 az_147 rfl rfl rfl .none rfl ?_
    refine JL.loadH 0 az_53 rfl (Cells.mono (HSub.trans hs4 hs21) c_0_c) rfl .none rfl ?_
    refine JL.loadH 0 az_3 rfl (Cells.mono (HSub.trans hs4 hs21) c_1_c) rfl .none rfl ?_
    refine JL.move .none rfl ?_
    obtain ⟨y29, hy29, hF⟩ := bind_some hF
    refine JL.callS (c_frames_distance n H21 c_0 c_0_v0 (SL.mono R_Section_mono (HSub.trans hs4 hs21) hc_0_0) c_1 x6 y29 hy29) rfl en_74 .none rfl ?_
    refine JL.fieldAddr fo_53_3 rfl .none rfl ?_
    refine JL.loadH 3 az_51 rfl (Cells.mono (HSub.trans hs4 hs21) c_0_c) rfl .none rfl ?_
    obtain ⟨y30, hy30, hF⟩ := bind_some hF
    refine JL.callS (c_frames_sides_binds n H21 x_ y29 c_0.Ease y30 hy30) rfl en_134 .none rfl ?_
    refine JL.doneQ hQ ?_
    refine JQ.go ?_
    refine JC.fresh (fun f => f 4 = .pointer (some ⟨b2, 0, none⟩) ∧ f 16 = .bool y30) ⟨rfl, rfl⟩ ?_
    rintro f ⟨hf4, hf16⟩
    refine (JC.norm (i := 4) hf4 (JC.norm (i := 16) hf16 ?_))
    rcases ite_some hF with ⟨hc31, hF⟩ | ⟨hc31, hF⟩
    · refine JC.cond_t (b := y30) rfl hc31 ?_
      refine JC.seq ?_
      refine JC.region (by rfl) ?_
      intro hQ
      refine JL.storeOwn 0 (cs := [.bool true]) az_4 rfl rfl rfl (one_cons rfl one_nil) rfl rfl .none ?_
      refine JL.done hQ ?_
      refine JQ.go ?_
      refine JC.ret ?_
      refine JQ.ret_block ?_
      obtain rfl := Option.some.inj hF
      refine JQ.roundRet rfl [(b2, .cells [.bool true].toArray 4), (b1, .cells [.int .i64 x_.arm, .int .i64 x_.stretch].toArray 147)] (HSub.refl _) ?_
      exact ⟨rfl, rfl, rfl, hs21⟩
    · refine JC.cond_f (b := y30) rfl hc31 ?_
      refine JC.skip ?_
      refine JQ.normal_block ?_
      obtain rfl := Option.some.inj hF
      refine JQ.round rfl [(b2, .cells [.bool false].toArray 4), (b1, .cells [.int .i64 x_.arm, .int .i64 x_.stretch].toArray 147)] (HSub.refl _) ?_
      exact ⟨rfl, rfl, hs21⟩
  · rintro D32 _ H21 fr gs rfl ⟨rfl, rfl, hs21⟩ -
    try dsimp only at hF
    refine JQ.normal_block ?_
    refine JQ.go ?_
    refine JC.seq ?_
    refine JC.region (by rfl) ?_
    intro hQ
    refine JL.storeOwn 0 (cs := [.bool false]) az_4 rfl rfl rfl (one_cons rfl one_nil) rfl rfl .none ?_
    refine JL.done hQ ?_
    refine JQ.go ?_
    refine JC.ret ?_
    obtain rfl := Option.some.inj hF
    exact JQ.outSM rfl (.cons 2 rfl .nil) (.cell 0 az_4 rfl rfl rfl .nil) rfl
  · rintro D33 z_22 _ H23 fr gs rfl ⟨rfl, rfl, rfl, hs23⟩ -
    try dsimp only at hF
    refine JC.ret ?_
    refine JQ.ret_block ?_
    refine JQ.ret_then ?_
    obtain rfl := Option.some.inj hF
    exact JQ.outSM rfl (.cons 2 rfl .nil) (.cell 0 az_4 rfl rfl rfl .nil) rfl

-- 131 ferrule/frames.known
def F_frames_known_s1 (n : Nat) (is : frames_sides → Option Bool) : (Int × Int) → frames_sides → Option ((Int × Int) ⊕ Unit)
  | (z_35, z_36), x8 => (is x8).bind fun y42 => (if y42 = true then (some (w64 (z_36 + 1))) else (some z_36)).bind fun z_44 => some (Sum.inl ((w64 (z_35 + 1)), z_44))
def F_frames_known (n : Nat) (s : Section) (is : frames_sides → Option Bool) : Option Int :=
  (F_frames_truths n s).bind fun y5 => (I_frames_truths_1 n y5 (F_frames_known_s1 n is) (0, 0)).bind fun r38 => match r38 with | .inl (z_35, z_36) => if (z_36 == z_35) = true then (some 1) else (if (z_36 == 0) = true then (some 2) else (some 3)) | .inr _ => none
set_option maxRecDepth 100000 in
set_option maxHeartbeats 40000000 in
theorem c_frames_known (n : Nat) (H : Hp) (s : Section) (is : frames_sides → Option Bool) (is_k : Nat) (is_c : List Value) (is_e : Ent Try.prog is_k) (is_h : ∀ H', HSub H H' → ∀ (a0_ : frames_sides) (y : Bool), is a0_ = some y → SC Try.prog is_k ([.agg [.int .i64 a0_.arm, .int .i64 a0_.stretch].toArray] ++ is_c) (.bool y) H') (y : Int) (hF : F_frames_known n s is = some y) : SC Try.prog 131 [.agg [.int .i64 s.Arm.Low, .int .i64 s.Arm.High, .int .i64 s.Stretch.Low, .int .i64 s.Stretch.High, .int .i64 s.Base, .int .i64 s.Gear.Num, .int .i64 s.Gear.Den].toArray, .func (.func is_k) #[] is_c.toArray] (.int .i64 y) H := by
  rw [F_frames_known] at hF
  refine SC.ofM (N := 24) Try.func131 rfl rfl rfl fun w => ?_
  refine JC.seq ?_
  refine JC.region (by rfl) ?_
  intro hQ
  refine JL.box (cs := [.int .i64 s.Arm.Low, .int .i64 s.Arm.High, .int .i64 s.Stretch.Low, .int .i64 s.Stretch.High, .int .i64 s.Base, .int .i64 s.Gear.Num, .int .i64 s.Gear.Den]) rfl .none rfl ?_
  intro b1
  refine JL.box (cs := [.func (.func is_k) #[] is_c.toArray]) rfl .none rfl ?_
  intro b2
  refine JL.assign .none rfl ?_
  refine JL.done hQ ?_
  refine JQ.go ?_
  refine JC.seq ?_
  refine JC.region (by rfl) ?_
  intro hQ
  refine JL.alloc ze_3 .none rfl ?_
  intro b3
  refine JL.alloc ze_3 .none rfl ?_
  intro b4
  refine JL.storeOwn 1 (cs := [.int .i64 0]) az_3 rfl rfl rfl (one_cons rfl one_nil) rfl rfl .none ?_
  refine JL.storeOwn 0 (cs := [.int .i64 0]) az_3 rfl rfl rfl (one_cons rfl one_nil) rfl rfl .none ?_
  refine JL.done hQ ?_
  refine JQ.go ?_
  refine JC.seq ?_
  refine JC.seq ?_
  refine JC.region (by rfl) ?_
  intro hQ
  refine JL.loadOwn 3 az_68 rfl rfl rfl .none rfl ?_
  obtain ⟨y5, hy5, hF⟩ := bind_some hF
  refine JL.callH (c_frames_truths n H s y5 hy5) rfl en_75 .none rfl ?_
  rintro H6 vv7 hs6 ⟨y5_b0, rfl, hy5_b0⟩
  refine JL.done hQ ?_
  refine JQ.go ?_
  refine JC.block ?_
  obtain ⟨r38, hl39, hF⟩ := bind_some hF
  refine JC.mask [true, true, true, false] [] ?_
  refine JC.rangeFunc (ρ := Unit) (V := (VPlain fun (x : frames_sides) => .agg [.int .i64 x.arm, .int .i64 x.stretch].toArray)) (F := fun _ _ step s => I_frames_truths_1 n y5 step s) rfl en_125 (it_frames_truths_1 n H6 y5 y5_b0 hy5_b0) rfl hl39 (fun (z : Int × Int) H37 fr gs => match z with | (z_35, z_36) => fr = [(b4, .cells [.int .i64 z_35].toArray 3), (b3, .cells [.int .i64 z_36].toArray 3), (b2, .cells [.func (.func is_k) #[] is_c.toArray].toArray 193)] ∧ gs = [] ∧ HSub H6 H37) (fun _ _ _ _ _ => False) ⟨rfl, rfl, (HSub.refl _)⟩ ?_ ?_ ?_
  · rintro l9 ⟨z_35, z_36⟩ x8 y40 v10 own T11 H37 fr gs ⟨rfl, rfl, hs37⟩ hF ⟨rfl, rfl⟩ -
    rw [F_frames_known_s1] at hF
    refine JC.region (by rfl) ?_
    intro hQ
    refine JL.alloc ze_147 .none rfl ?_
    intro b41
    refine JL.storeOwn 0 (cs := [.int .i64 x8.arm, .int .i64 x8.stretch]) az_147 rfl rfl rfl (one_cons rfl (one_cons rfl one_nil)) rfl rfl .none ?_
    refine JL.done hQ ?_
    refine JQ.assigned [(b41, .cells [.int .i64 x8.arm, .int .i64 x8.stretch].toArray 147), (b4, .cells [.int .i64 z_35].toArray 3), (b3, .cells [.int .i64 z_36].toArray 3), (b2, .cells [.func (.func is_k) #[] is_c.toArray].toArray 193)] (fun T12 => ?_)
    refine JC.block ?_
    refine JC.seq ?_
    refine JC.region (by rfl) ?_
    intro hQ
    refine JL.loadOwn 1 az_3 rfl rfl rfl .none rfl ?_
    refine JL.bin rfl rfl rfl .none rfl ?_
    refine JL.storeOwn 1 (cs := [.int .i64 (w64 (z_35 + 1))]) az_3 rfl rfl rfl (one_cons rfl one_nil) rfl rfl .none ?_
    refine JL.done hQ ?_
    refine JQ.go ?_
    refine JC.seq ?_
    refine JC.region (by rfl) ?_
    intro hQ
    refine JL.loadOwn 3 az_193 rfl rfl rfl .none rfl ?_
    refine JL.loadOwn 0 az_147 rfl rfl rfl .none rfl ?_
    obtain ⟨y42, hy42, hF⟩ := bind_some hF
    refine JL.callV rfl (is_h H37 (HSub.trans hs6 hs37) x8 y42 hy42) rfl is_e .none rfl ?_
    refine JL.done hQ ?_
    refine JQ.go ?_
    obtain ⟨r46, hlr46, hKr46⟩ := bind_some hF
    refine JC.join (fun (z_44 : Int) H45 f bs gs => bs = ((b4, .cells [.int .i64 (w64 (z_35 + 1))].toArray 3) :: (b3, .cells [.int .i64 z_44].toArray 3) :: (b2, .cells [.func (.func is_k) #[] is_c.toArray].toArray 193) :: T12) ∧ gs = [] ∧ HSub H37 H45 ∧ z_44 = r46) ?_ ?_
    · have hF := hlr46
      rcases ite_some hF with ⟨hc47, hF⟩ | ⟨hc47, hF⟩
      · refine JC.cond_t (b := y42) rfl hc47 ?_
        refine JC.region (by rfl) ?_
        intro hQ
        refine JL.loadOwn 2 az_3 rfl rfl rfl .none rfl ?_
        refine JL.bin rfl rfl rfl .none rfl ?_
        refine JL.storeOwn 2 (cs := [.int .i64 (w64 (z_36 + 1))]) az_3 rfl rfl rfl (one_cons rfl one_nil) rfl rfl .none ?_
        refine JL.done hQ ?_
        obtain rfl := Option.some.inj hF
        refine JQ.mask [false, true, true, true] [] ?_
        exact JQ.join (w64 (z_36 + 1)) ⟨rfl, rfl, (HSub.refl _), rfl⟩
      · refine JC.cond_f (b := y42) rfl hc47 ?_
        refine JC.skip ?_
        obtain rfl := Option.some.inj hF
        refine JQ.mask [false, true, true, true] [] ?_
        exact JQ.join z_36 ⟨rfl, rfl, (HSub.refl _), rfl⟩
    · rintro z_44 H45 f bs gs ⟨rfl, rfl, hs45, rfl⟩
      have hF := hKr46
      try dsimp only at hF
      refine JQ.normal_block ?_
      obtain rfl := Option.some.inj hF
      refine JQ.round rfl [(b4, .cells [.int .i64 (w64 (z_35 + 1))].toArray 3), (b3, .cells [.int .i64 z_44].toArray 3), (b2, .cells [.func (.func is_k) #[] is_c.toArray].toArray 193)] hs45 ?_
      exact ⟨rfl, rfl, (HSub.trans hs37 hs45)⟩
  · rintro D48 ⟨z_35, z_36⟩ H37 fr gs rfl ⟨rfl, rfl, hs37⟩ -
    try dsimp only at hF
    refine JQ.normal_block ?_
    refine JQ.go ?_
    refine JC.seq ?_
    refine JC.seq ?_
    refine JC.region (by rfl) ?_
    intro hQ
    refine JL.loadOwn 1 az_3 rfl rfl rfl .none rfl ?_
    refine JL.done hQ ?_
    refine JQ.go ?_
    refine JC.block ?_
    refine JC.seq ?_
    refine JC.region (by rfl) ?_
    intro hQ
    refine JL.loadOwn 0 az_3 rfl rfl rfl .none rfl ?_
    refine JL.bin rfl rfl rfl .none rfl ?_
    refine JL.assign .none rfl ?_
    refine JL.done hQ ?_
    refine JQ.go ?_
    rcases ite_some hF with ⟨hc49, hF⟩ | ⟨hc49, hF⟩
    · refine JC.cond_t (b := (z_36 == z_35)) rfl hc49 ?_
      refine JC.seq ?_
      refine JC.region (by rfl) ?_
      intro hQ
      refine JL.assign .none rfl ?_
      refine JL.done hQ ?_
      refine JQ.go ?_
      refine JC.ret ?_
      refine JQ.ret_block ?_
      refine JQ.ret_then ?_
      obtain rfl := Option.some.inj hF
      exact JQ.outSM rfl (.cons 3 rfl .nil) (.tmp .nil) rfl
    · refine JC.cond_f (b := (z_36 == z_35)) rfl hc49 ?_
      refine JC.seq ?_
      refine JC.region (by rfl) ?_
      intro hQ
      refine JL.bin rfl rfl rfl .none rfl ?_
      refine JL.assign .none rfl ?_
      refine JL.done hQ ?_
      refine JQ.go ?_
      refine JC.fresh (fun f => f 4 = .int .i64 0 ∧ f 22 = .bool (z_36 == 0)) ⟨rfl, rfl⟩ ?_
      rintro f ⟨hf4, hf22⟩
      refine (JC.norm (i := 4) hf4 (JC.norm (i := 22) hf22 ?_))
      rcases ite_some hF with ⟨hc50, hF⟩ | ⟨hc50, hF⟩
      · refine JC.cond_t (b := (z_36 == 0)) rfl hc50 ?_
        refine JC.seq ?_
        refine JC.region (by rfl) ?_
        intro hQ
        refine JL.assign .none rfl ?_
        refine JL.done hQ ?_
        refine JQ.go ?_
        refine JC.ret ?_
        refine JQ.ret_block ?_
        refine JQ.ret_then ?_
        obtain rfl := Option.some.inj hF
        exact JQ.outSM rfl (.cons 3 rfl .nil) (.tmp .nil) rfl
      · refine JC.cond_f (b := (z_36 == 0)) rfl hc50 ?_
        refine JC.skip ?_
        refine JQ.normal_block ?_
        refine JQ.go ?_
        refine JC.seq ?_
        refine JC.region (by rfl) ?_
        intro hQ
        refine JL.assign .none rfl ?_
        refine JL.done hQ ?_
        refine JQ.go ?_
        refine JC.ret ?_
        obtain rfl := Option.some.inj hF
        exact JQ.outSM rfl (.cons 3 rfl .nil) (.tmp .nil) rfl
  · rintro _ _ _ _ _ _ _ h; exact h.elim

-- 80 ferrule/frames.stuck
def F_frames_stuck (n : Nat) (f_ : Frame) (section_ : Int) : Option Int :=
  (geti f_.Sections section_).bind fun y3 => (F_frames_known n y3 (fun a0_ => F_frames_stuck_1 n a0_ f_ section_)).bind fun y12 => some y12
set_option maxRecDepth 100000 in
set_option maxHeartbeats 40000000 in
theorem c_frames_stuck (n : Nat) (H : Hp) (f_ : Frame) (f__v0 : Value) (hf__0 : SL H 7 R_Section f__v0 f_.Sections) (section_ : Int) (y : Int) (hF : F_frames_stuck n f_ section_ = some y) : SC Try.prog 80 [.agg [f__v0, .int .i64 f_.Low, .int .i64 f_.High, .int .i64 f_.Ease.Num, .int .i64 f_.Ease.Den, .int .i64 f_.Rod, .int .i64 f_.Case].toArray, .int .i64 section_] (.int .i64 y) H := by
  rw [F_frames_stuck] at hF
  refine SC.of (N := 12) Try.func80 rfl rfl rfl fun w => ?_
  refine JC.seq ?_
  refine JC.region (by rfl) ?_
  intro hQ
  refine JL.box (cs := [f__v0, .int .i64 f_.Low, .int .i64 f_.High, .int .i64 f_.Ease.Num, .int .i64 f_.Ease.Den, .int .i64 f_.Rod, .int .i64 f_.Case]) rfl .none rfl ?_
  intro b1
  refine JL.box (cs := [.int .i64 section_]) rfl .none rfl ?_
  intro b2
  refine JL.assign .none rfl ?_
  refine JL.done hQ ?_
  refine JQ.go ?_
  refine JC.seq ?_
  refine JC.region (by rfl) ?_
  intro hQ
  refine JL.fieldAddr fo_53_0 rfl .none rfl ?_
  refine JL.loadOwn 1 az_49 rfl rfl rfl .none rfl ?_
  refine JL.loadOwn 0 az_3 rfl rfl rfl .none rfl ?_
  obtain ⟨y3, hy3, hF⟩ := bind_some hF
  refine JL.indexSL (R := R_Section) sl_49 hf__0 rfl hy3 .none rfl ?_
  rintro b4 o5 cs6 hc7 - rfl
  refine JL.loadH 0 az_68 rfl hc7 rfl .none rfl ?_
  refine JL.makeFunc .none rfl ?_
  refine JL.freezeC 1 (l := [f__v0, .int .i64 f_.Low, .int .i64 f_.High, .int .i64 f_.Ease.Num, .int .i64 f_.Ease.Den, .int .i64 f_.Rod, .int .i64 f_.Case]) rfl ?_
  intro H8 hs8 hc9
  refine JL.freezeC 0 (l := [.int .i64 section_]) rfl ?_
  intro H10 hs10 hc11
  obtain ⟨y12, hy12, hF⟩ := bind_some hF
  refine JL.callS (c_frames_known n H10 y3 (fun a0_ => F_frames_stuck_1 n a0_ f_ section_) 132 [.pointer (some ⟨b1, 0, none⟩), .pointer (some ⟨b2, 0, none⟩)] en_132 (fun H' hs' a0_ y' hy' => c_frames_stuck_1 n H' a0_ f_ f__v0 (SL.mono R_Section_mono hs' (SL.mono R_Section_mono (HSub.trans hs8 hs10) hf__0)) b1 (Cells.mono hs' (Cells.mono hs10 hc9)) section_ b2 (Cells.mono hs' hc11) y' hy') y12 hy12) rfl en_131 .none rfl ?_
  refine JL.assign .none rfl ?_
  refine JL.done hQ ?_
  refine JQ.go ?_
  refine JC.ret ?_
  obtain rfl := Option.some.inj hF
  exact JQ.outS rfl (.tmp .nil) rfl

-- 30 ferrule/frames.Opens
def F_frames_Opens_s1 (n : Nat) (f_ : Frame) : Int × Int → Option ((Int × Int) ⊕ ((Int × Int) ⊕ Int))
  | (out_64, x_65) => if decide (x_65 < (f_.Sections.length : Int)) = true then ((F_frames_stuck n f_ x_65).bind fun y70 => if (y70 == 1) = true then (some (Sum.inr (Sum.inl (2, 0)))) else ((if (y70 == 3) = true then (some 3) else (some out_64)).bind fun out_73 => some (Sum.inl (out_73, (w64 (x_65 + 1)))))) else (some (Sum.inr (Sum.inr out_64)))
def F_frames_Opens (n : Nat) (f_ : Frame) : Option (Int × Int) :=
  (F_frames_Check n f_).bind fun y2 => if (y2 != 0) = true then (some (0, y2)) else ((loopO n (F_frames_Opens_s1 n f_) (1, 0)).bind fun r41 => match r41 with | .inl o => some o | .inr out_39 => some (out_39, 0))
set_option maxRecDepth 100000 in
set_option maxHeartbeats 40000000 in
theorem c_frames_Opens (n : Nat) (H : Hp) (f_ : Frame) (f__v0 : Value) (hf__0 : SL H 7 R_Section f__v0 f_.Sections) (y : Int × Int) (hF : F_frames_Opens n f_ = some y) : SC Try.prog 30 [.agg [f__v0, .int .i64 f_.Low, .int .i64 f_.High, .int .i64 f_.Ease.Num, .int .i64 f_.Ease.Den, .int .i64 f_.Rod, .int .i64 f_.Case].toArray] (.tuple [.int .i64 y.1, .int .i64 y.2].toArray) H := by
  rw [F_frames_Opens] at hF
  refine SC.of (N := 27) Try.func30 rfl rfl rfl fun w => ?_
  refine JC.seq ?_
  refine JC.region (by rfl) ?_
  intro hQ
  refine JL.box (cs := [f__v0, .int .i64 f_.Low, .int .i64 f_.High, .int .i64 f_.Ease.Num, .int .i64 f_.Ease.Den, .int .i64 f_.Rod, .int .i64 f_.Case]) rfl .none rfl ?_
  intro b1
  refine JL.assign .none rfl ?_
  refine JL.assign .none rfl ?_
  refine JL.done hQ ?_
  refine JQ.go ?_
  refine JC.seq ?_
  refine JC.seq ?_
  refine JC.region (by rfl) ?_
  intro hQ
  refine JL.loadOwn 0 az_53 rfl rfl rfl .none rfl ?_
  obtain ⟨y2, hy2, hF⟩ := bind_some hF
  refine JL.callS (c_frames_Check n H f_ f__v0 hf__0 y2 hy2) rfl en_79 .none rfl ?_
  refine JL.assign .none rfl ?_
  refine JL.done hQ ?_
  refine JQ.go ?_
  refine JC.seq ?_
  refine JC.region (by rfl) ?_
  intro hQ
  refine JL.move .none rfl ?_
  refine JL.bin rfl rfl rfl .none rfl ?_
  refine JL.done hQ ?_
  refine JQ.go ?_
  rcases ite_some hF with ⟨hc3, hF⟩ | ⟨hc3, hF⟩
  · refine JC.cond_t (b := (y2 != 0)) rfl hc3 ?_
    refine JC.seq ?_
    refine JC.region (by rfl) ?_
    intro hQ
    refine JL.move .none rfl ?_
    refine JL.assign .none rfl ?_
    refine JL.assign .none rfl ?_
    refine JL.done hQ ?_
    refine JQ.go ?_
    refine JC.ret ?_
    refine JQ.ret_then ?_
    obtain rfl := Option.some.inj hF
    exact JQ.outS rfl (.tmp (.tmp .nil)) rfl
  · refine JC.cond_f (b := (y2 != 0)) rfl hc3 ?_
    refine JC.skip ?_
    refine JQ.go ?_
    refine JC.seq ?_
    refine JC.region (by rfl) ?_
    intro hQ
    refine JL.assign .none rfl ?_
    refine JL.done hQ ?_
    refine JQ.go ?_
    refine JC.seq ?_
    refine JC.seq ?_
    refine JC.region (by rfl) ?_
    intro hQ
    refine JL.fieldAddr fo_53_0 rfl .none rfl ?_
    refine JL.loadOwn 0 az_49 rfl rfl rfl .none rfl ?_
    refine JL.lenSL (R := R_Section) ul_49 hf__0 .none rfl ?_
    refine JL.move .none rfl ?_
    refine JL.done hQ ?_
    refine JQ.go ?_
    refine JC.fresh (fun f => f 1 = .pointer (some ⟨b1, 0, none⟩) ∧ f 2 = .int .i64 0 ∧ f 3 = .int .i64 0 ∧ f 5 = .int .i64 1 ∧ f 14 = .int .i64 (f_.Sections.length : Int) ∧ f 15 = .int .i64 0) ⟨rfl, rfl, rfl, rfl, rfl, rfl⟩ ?_
    rintro f ⟨hf1, hf2, hf3, hf5, hf14, hf15⟩
    refine (JC.norm (i := 1) hf1 (JC.norm (i := 2) hf2 (JC.norm (i := 3) hf3 (JC.norm (i := 5) hf5 (JC.norm (i := 14) hf14 (JC.norm (i := 15) hf15 ?_))))))
    obtain ⟨r41, hlr41, hKr41⟩ := bind_some hF
    refine JC.join (fun (out_39 : Int) H40 f bs gs => f 5 = .int .i64 out_39 ∧ bs = [] ∧ gs = [] ∧ HSub H H40 ∧ Sum.inr out_39 = r41) ?_ ?_
    · skip
      refine JC.block ?_
      refine JC.loop hlr41 (fun (x : Int × Int) H66 f bs gs => match x with | (out_64, x_65) => f 1 = .pointer (some ⟨b1, 0, none⟩) ∧ f 5 = .int .i64 out_64 ∧ f 14 = .int .i64 (f_.Sections.length : Int) ∧ f 15 = .int .i64 x_65 ∧ bs = [(b1, .cells [f__v0, .int .i64 f_.Low, .int .i64 f_.High, .int .i64 f_.Ease.Num, .int .i64 f_.Ease.Den, .int .i64 f_.Rod, .int .i64 f_.Case].toArray 53)] ∧ gs = [] ∧ HSub H H66) ⟨rfl, rfl, rfl, rfl, rfl, rfl, (HSub.refl _)⟩ ?_
      rintro ⟨out_64, x_65⟩ x68 H66 f bs gs ⟨hf1, hf5, hf14, hf15, rfl, rfl, hs66⟩ hF hr67
      rw [F_frames_Opens_s1] at hF
      refine (JC.norm (i := 1) hf1 (JC.norm (i := 5) hf5 (JC.norm (i := 14) hf14 (JC.norm (i := 15) hf15 ?_))))
      refine JC.seq ?_
      refine JC.region (by rfl) ?_
      intro hQ
      refine JL.bin rfl rfl rfl .none rfl ?_
      refine JL.done hQ ?_
      refine JQ.go ?_
      refine JC.seq ?_
      rcases ite_some hF with ⟨hc69, hF⟩ | ⟨hc69, hF⟩
      · refine JC.cond_t (b := decide (x_65 < (f_.Sections.length : Int))) rfl hc69 ?_
        refine JC.skip ?_
        refine JQ.go ?_
        refine JC.seq ?_
        refine JC.block ?_
        refine JC.seq ?_
        refine JC.region (by rfl) ?_
        intro hQ
        refine JL.move .none rfl ?_
        refine JL.assign .none rfl ?_
        refine JL.done hQ ?_
        refine JQ.go ?_
        refine JC.seq ?_
        refine JC.region (by rfl) ?_
        intro hQ
        refine JL.loadOwn 0 az_53 rfl rfl rfl .none rfl ?_
        refine JL.move .none rfl ?_
        obtain ⟨y70, hy70, hF⟩ := bind_some hF
        refine JL.callS (c_frames_stuck n H66 f_ f__v0 (SL.mono R_Section_mono hs66 hf__0) x_65 y70 hy70) rfl en_80 .none rfl ?_
        refine JL.done hQ ?_
        refine JQ.go ?_
        refine JC.block ?_
        refine JC.seq ?_
        refine JC.region (by rfl) ?_
        intro hQ
        refine JL.bin rfl rfl rfl .none rfl ?_
        refine JL.assign .none rfl ?_
        refine JL.done hQ ?_
        refine JQ.go ?_
        rcases ite_some hF with ⟨hc71, hF⟩ | ⟨hc71, hF⟩
        · refine JC.cond_t (b := (y70 == 1)) rfl hc71 ?_
          refine JC.seq ?_
          refine JC.region (by rfl) ?_
          intro hQ
          refine JL.assign .none rfl ?_
          refine JL.assign .none rfl ?_
          refine JL.done hQ ?_
          refine JQ.go ?_
          refine JC.fresh (fun f => f 2 = .int .i64 2 ∧ f 3 = .int .i64 0) ⟨rfl, rfl⟩ ?_
          rintro f ⟨hf2, hf3⟩
          refine (JC.norm (i := 2) hf2 (JC.norm (i := 3) hf3 ?_))
          refine JC.ret ?_
          refine JQ.ret_block ?_
          refine JQ.ret_block ?_
          refine JQ.ret_then ?_
          refine JQ.ret_then ?_
          refine JQ.ret_block ?_
          refine JQ.ret_join ?_
          refine JQ.ret_then ?_
          obtain rfl := Option.some.inj hF
          have ehr67 := hr67 _ rfl
          subst ehr67
          have hF := hKr41
          try dsimp only at hF
          obtain rfl := Option.some.inj hF
          exact JQ.outS rfl (.tmp (.tmp .nil)) rfl
        · refine JC.cond_f (b := (y70 == 1)) rfl hc71 ?_
          refine JC.seq ?_
          refine JC.region (by rfl) ?_
          intro hQ
          refine JL.bin rfl rfl rfl .none rfl ?_
          refine JL.assign .none rfl ?_
          refine JL.done hQ ?_
          refine JQ.go ?_
          refine JC.fresh (fun f => f 1 = .pointer (some ⟨b1, 0, none⟩) ∧ f 5 = .int .i64 out_64 ∧ f 14 = .int .i64 (f_.Sections.length : Int) ∧ f 15 = .int .i64 x_65 ∧ f 23 = .bool (y70 == 3)) ⟨rfl, rfl, rfl, rfl, rfl⟩ ?_
          rintro f ⟨hf1, hf5, hf14, hf15, hf23⟩
          refine (JC.norm (i := 1) hf1 (JC.norm (i := 5) hf5 (JC.norm (i := 14) hf14 (JC.norm (i := 15) hf15 (JC.norm (i := 23) hf23 ?_)))))
          obtain ⟨r75, hlr75, hKr75⟩ := bind_some hF
          refine JC.join (fun (out_73 : Int) H74 f bs gs => f 1 = .pointer (some ⟨b1, 0, none⟩) ∧ f 5 = .int .i64 out_73 ∧ f 14 = .int .i64 (f_.Sections.length : Int) ∧ f 15 = .int .i64 x_65 ∧ bs = [(b1, .cells [f__v0, .int .i64 f_.Low, .int .i64 f_.High, .int .i64 f_.Ease.Num, .int .i64 f_.Ease.Den, .int .i64 f_.Rod, .int .i64 f_.Case].toArray 53)] ∧ gs = [] ∧ HSub H66 H74 ∧ out_73 = r75) ?_ ?_
          · have hF := hlr75
            rcases ite_some hF with ⟨hc76, hF⟩ | ⟨hc76, hF⟩
            · refine JC.cond_t (b := (y70 == 3)) rfl hc76 ?_
              refine JC.region (by rfl) ?_
              intro hQ
              refine JL.assign .none rfl ?_
              refine JL.done hQ ?_
              obtain rfl := Option.some.inj hF
              exact JQ.join 3 ⟨rfl, rfl, rfl, rfl, rfl, rfl, (HSub.refl _), rfl⟩
            · refine JC.cond_f (b := (y70 == 3)) rfl hc76 ?_
              refine JC.skip ?_
              obtain rfl := Option.some.inj hF
              exact JQ.join out_64 ⟨rfl, rfl, rfl, rfl, rfl, rfl, (HSub.refl _), rfl⟩
          · rintro out_73 H74 f bs gs ⟨hf1, hf5, hf14, hf15, rfl, rfl, hs74, rfl⟩
            have hF := hKr75
            try dsimp only at hF
            refine (JQ.norm (i := 1) hf1 (JQ.norm (i := 5) hf5 (JQ.norm (i := 14) hf14 (JQ.norm (i := 15) hf15 ?_))))
            refine JQ.normal_block ?_
            refine JQ.normal_block ?_
            refine JQ.go ?_
            refine JC.region (by rfl) ?_
            intro hQ
            refine JL.bin rfl rfl rfl .none rfl ?_
            refine JL.move .none rfl ?_
            refine JL.done hQ ?_
            obtain rfl := Option.some.inj hF
            exact JQ.next rfl ⟨rfl, rfl, rfl, rfl, rfl, rfl, (HSub.trans hs66 hs74)⟩
      · refine JC.cond_f (b := decide (x_65 < (f_.Sections.length : Int))) rfl hc69 ?_
        refine JC.exit ?_
        refine JQ.exit_then ?_
        refine JQ.exit_then ?_
        refine JQ.exit_block ?_
        obtain rfl := Option.some.inj hF
        have ehr67 := hr67 _ rfl
        subst ehr67
        refine JQ.mask [false] [] ?_
        exact JQ.join out_64 ⟨rfl, rfl, rfl, hs66, rfl⟩
    · rintro out_39 H40 f bs gs ⟨hf5, rfl, rfl, hs40, rfl⟩
      have hF := hKr41
      try dsimp only at hF
      refine (JQ.norm (i := 5) hf5 ?_)
      refine JQ.go ?_
      refine JC.seq ?_
      refine JC.region (by rfl) ?_
      intro hQ
      refine JL.move .none rfl ?_
      refine JL.assign .none rfl ?_
      refine JL.assign .none rfl ?_
      refine JL.done hQ ?_
      refine JQ.go ?_
      refine JC.ret ?_
      obtain rfl := Option.some.inj hF
      exact JQ.outS rfl (.tmp (.tmp .nil)) rfl

-- 83 ferrule/ferrulelaw05.Example
def F_law05_Example (n : Nat)  : Option Canopy :=
  (F_law01_Example n).bind fun y2 => some (Canopy.mk y2 [(Span.mk 100 110), (Span.mk 60 60), (Span.mk 50 55), (Span.mk 40 40), (Span.mk 50 50), (Span.mk 60 60)] [10, 6, 3, 1, 3, 6])
set_option maxRecDepth 100000 in
set_option maxHeartbeats 40000000 in
theorem c_law05_Example (n : Nat) (H : Hp)  (y : Canopy) (hF : F_law05_Example n = some y) : HC Try.prog 83 [] H (fun H' v => ∃ ra_v0 ra_v7 ra_v8 : Value, v = .agg [ra_v0, .int .i64 y.Frame.Low, .int .i64 y.Frame.High, .int .i64 y.Frame.Ease.Num, .int .i64 y.Frame.Ease.Den, .int .i64 y.Frame.Rod, .int .i64 y.Frame.Case, ra_v7, ra_v8].toArray ∧ SL H' 7 R_Section ra_v0 y.Frame.Sections ∧ SL H' 2 R_Span ra_v7 y.Ribs ∧ SL H' 1 RInt ra_v8 y.Shares) := by
  rw [F_law05_Example] at hF
  refine HC.of (N := 11) Try.func83 rfl rfl rfl fun w => ?_
  refine JC.seq ?_
  refine JC.region (by rfl) ?_
  intro hQ
  refine JL.alloc ze_76 .none rfl ?_
  intro b1
  refine JL.done hQ ?_
  refine JQ.go ?_
  refine JC.seq ?_
  refine JC.region (by rfl) ?_
  intro hQ
  obtain ⟨y2, hy2, hF⟩ := bind_some hF
  refine JL.callH (c_law01_Example n H y2 hy2) rfl en_69 .none rfl ?_
  rintro H3 vv4 hs3 ⟨y2a_v0, rfl, hy2a_0⟩
  refine JL.build (l := [.int .i64 100, .int .i64 110]) (by kernel_rfl) .none rfl ?_
  refine JL.build (l := [.int .i64 60, .int .i64 60]) (by kernel_rfl) .none rfl ?_
  refine JL.build (l := [.int .i64 50, .int .i64 55]) (by kernel_rfl) .none rfl ?_
  refine JL.build (l := [.int .i64 40, .int .i64 40]) (by kernel_rfl) .none rfl ?_
  refine JL.build (l := [.int .i64 50, .int .i64 50]) (by kernel_rfl) .none rfl ?_
  refine JL.build (l := [.int .i64 60, .int .i64 60]) (by kernel_rfl) .none rfl ?_
  refine JL.buildSlice (e := 39) (l := [.int .i64 100, .int .i64 110, .int .i64 60, .int .i64 60, .int .i64 50, .int .i64 55, .int .i64 40, .int .i64 40, .int .i64 50, .int .i64 50, .int .i64 60, .int .i64 60]) (by kernel_rfl) .none rfl ?_
  intro b5
  refine JL.buildSlice (e := 3) (l := [.int .i64 10, .int .i64 6, .int .i64 3, .int .i64 1, .int .i64 3, .int .i64 6]) (by kernel_rfl) .none rfl ?_
  intro b6
  obtain ⟨a7, c8, rfl, hh9⟩ := hy2a_0
  have hy2a_0 : SL H3 7 R_Section (.slice a7 y2.Sections.length c8) y2.Sections := ⟨a7, c8, rfl, hh9⟩
  refine JL.build (l := [(.slice a7 y2.Sections.length c8), .int .i64 y2.Low, .int .i64 y2.High, .int .i64 y2.Ease.Num, .int .i64 y2.Ease.Den, .int .i64 y2.Rod, .int .i64 y2.Case, .slice (some ⟨b5, 0, none⟩) 6 6, .slice (some ⟨b6, 0, none⟩) 6 6]) (by kernel_rfl) .none rfl ?_
  refine JL.storeOwn 2 (cs := [(.slice a7 y2.Sections.length c8), .int .i64 y2.Low, .int .i64 y2.High, .int .i64 y2.Ease.Num, .int .i64 y2.Ease.Den, .int .i64 y2.Rod, .int .i64 y2.Case, .slice (some ⟨b5, 0, none⟩) 6 6, .slice (some ⟨b6, 0, none⟩) 6 6]) az_76 rfl rfl rfl (one_cons (SL.one hy2a_0) (one_cons rfl (one_cons rfl (one_cons rfl (one_cons rfl (one_cons rfl (one_cons rfl (one_cons rfl (one_cons rfl one_nil))))))))) rfl rfl .none ?_
  refine JL.done hQ ?_
  refine JQ.go ?_
  refine JC.ret ?_
  refine JQ.freezeC 1 (l := [.int .i64 100, .int .i64 110, .int .i64 60, .int .i64 60, .int .i64 50, .int .i64 55, .int .i64 40, .int .i64 40, .int .i64 50, .int .i64 50, .int .i64 60, .int .i64 60]) rfl ?_
  intro H10 hs10 hc11
  have hg12 : SL H10 2 R_Span (.slice (some ⟨b5, 0, none⟩) 6 6) [(Span.mk 100 110), (Span.mk 60 60), (Span.mk 50 55), (Span.mk 40 40), (Span.mk 50 50), (Span.mk 60 60)] := CH.sl (l := [(Span.mk 100 110), (Span.mk 60 60), (Span.mk 50 55), (Span.mk 40 40), (Span.mk 50 50), (Span.mk 60 60)]) (CH.cons (cs := [.int .i64 100, .int .i64 110]) rfl rfl (CH.cons (cs := [.int .i64 60, .int .i64 60]) rfl rfl (CH.cons (cs := [.int .i64 50, .int .i64 55]) rfl rfl (CH.cons (cs := [.int .i64 40, .int .i64 40]) rfl rfl (CH.cons (cs := [.int .i64 50, .int .i64 50]) rfl rfl (CH.cons (cs := [.int .i64 60, .int .i64 60]) rfl rfl CH.nil)))))) hc11 ⟨by simp, by simp⟩
  refine JQ.freezeC 0 (l := [.int .i64 10, .int .i64 6, .int .i64 3, .int .i64 1, .int .i64 3, .int .i64 6]) rfl ?_
  intro H13 hs13 hc14
  have hg15 : SL H13 1 RInt (.slice (some ⟨b6, 0, none⟩) 6 6) [10, 6, 3, 1, 3, 6] := CH.sl (l := [10, 6, 3, 1, 3, 6]) (CH.cons (cs := [.int .i64 10]) rfl rfl (CH.cons (cs := [.int .i64 6]) rfl rfl (CH.cons (cs := [.int .i64 3]) rfl rfl (CH.cons (cs := [.int .i64 1]) rfl rfl (CH.cons (cs := [.int .i64 3]) rfl rfl (CH.cons (cs := [.int .i64 6]) rfl rfl CH.nil)))))) hc14 ⟨by simp, by simp⟩
  obtain rfl := Option.some.inj hF
  exact JQ.outH rfl (.cell 0 az_76 rfl rfl rfl .nil) ⟨(.slice a7 y2.Sections.length c8), (.slice (some ⟨b5, 0, none⟩) 6 6), (.slice (some ⟨b6, 0, none⟩) 6 6), rfl, (SL.mono R_Section_mono (HSub.trans hs10 hs13) hy2a_0), (SL.mono R_Span_mono hs13 hg12), hg15⟩

-- 137 ferrule/gusts.within
def F_gusts_within (n : Nat) (n_ : Int) (low : Int) (high : Int) : Option Bool :=
  some ((decide (low ≤ n_)) && (decide (n_ ≤ high)))
set_option maxRecDepth 100000 in
set_option maxHeartbeats 40000000 in
theorem c_gusts_within (n : Nat) (H : Hp) (n_ : Int) (low : Int) (high : Int) (y : Bool) (hF : F_gusts_within n n_ low high = some y) : SC Try.prog 137 [.int .i64 n_, .int .i64 low, .int .i64 high] (.bool y) H := by
  rw [F_gusts_within] at hF
  refine SC.of (N := 15) Try.func137 rfl rfl rfl fun w => ?_
  refine JC.seq ?_
  refine JC.region (by rfl) ?_
  intro hQ
  refine JL.assign .none rfl ?_
  refine JL.done hQ ?_
  refine JQ.go ?_
  refine JC.seq ?_
  refine JC.region (by rfl) ?_
  intro hQ
  refine JL.move .none rfl ?_
  refine JL.move .none rfl ?_
  refine JL.bin rfl rfl rfl .none rfl ?_
  refine JL.move .none rfl ?_
  refine JL.cut 4 (fun f => f 14 = .bool ((decide (low ≤ n_)) && (decide (n_ ≤ high)))) ?_ ?_
  · intro hJ1
    rcases bcases (decide (low ≤ n_)) with hc2 | hc2
    · skip
      refine JL.move (.some rfl rfl rfl hc2) rfl ?_
      refine JL.move (.some rfl rfl rfl hc2) rfl ?_
      refine JL.bin rfl rfl rfl (.some rfl rfl rfl hc2) rfl ?_
      refine JL.pick_t (b := decide (low ≤ n_)) rfl hc2 .none rfl ?_
      exact hJ1 _ (and_t hc2 rfl)
    · skip
      refine JL.skip (.bool rfl rfl rfl hc2) rfl ?_
      refine JL.skip (.bool rfl rfl rfl hc2) rfl ?_
      refine JL.skip (.bool rfl rfl rfl hc2) rfl ?_
      refine JL.pick_f (b := decide (low ≤ n_)) rfl hc2 .none rfl ?_
      exact hJ1 _ (and_f hc2 rfl)
  · rintro f hf14
    refine (JL.norm (i := 14) hf14 ?_)
    refine JL.assign .none rfl ?_
    refine JL.done hQ ?_
    refine JQ.go ?_
    refine JC.ret ?_
    obtain rfl := Option.some.inj hF
    exact JQ.outS rfl (.tmp .nil) rfl

end Go.Proofs.Yteihdclpiekmaaa
