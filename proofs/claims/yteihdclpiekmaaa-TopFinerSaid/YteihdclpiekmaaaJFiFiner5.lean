/-
  A part of the proof of FiFiner: the texts FiGenK4, FiGenK5.
-/
import Derived.Test.YteihdclpiekmaaaJFiFiner4
section
set_option maxRecDepth 100000
set_option maxHeartbeats 40000000
namespace Go.Proofs.Yteihdclpiekmaaa
open Go Go.RowKit Go.Dec
set_option linter.unusedVariables false
-- 140 slices.ContainsFunc[[]int,int]
def F_slices_ContainsFunc___int_int_ (n : Nat) (s : List Int) (f_ : Int → Option Bool) : Option Bool :=
 (F_slices_IndexFunc___int_int_ n s f_).bind fun y1 => some (decide (0 ≤ y1))
theorem c_slices_ContainsFunc___int_int_ (n : Nat) (H : Hp) (s : List Int) (s_v0 : Value) (hs_0 : SL H 1 RInt s_v0 s) (f_ : Int → Option Bool) (f__k : Nat) (f__c : List Value) (f__e : Ent Try.prog f__k) (f__h : ∀ H', HSub H H' → ∀ (a0_ : Int) (y : Bool), f_ a0_ = some y → SC Try.prog f__k ([.int .i64 a0_] ++ f__c) (.bool y) H') (y : Bool) (hF : F_slices_ContainsFunc___int_int_ n s f_ = some y) : SC Try.prog 140 [s_v0, .func (.func f__k) #[] f__c.toArray] (.bool y) H := by
 rw [F_slices_ContainsFunc___int_int_] at hF
 refine SC.of (N := 9) Try.func140 rfl rfl rfl fun w => ?_
 refine JC.seq (JC.region (by rfl) ?_)
 intro hQ
 refine JL.assign .none rfl ?_
 refine JL.done hQ (JQ.go (JC.seq (JC.region (by rfl) ?_)))
 intro hQ
 refine JL.move .none rfl ?_
 refine JL.move .none rfl ?_
 obtain ⟨y1, hy1, hF⟩ := bind_some hF
 refine JL.callS (c_slices_IndexFunc___int_int_ n H s s_v0 hs_0 f_ f__k f__c f__e (fun H' hs' => f__h H' hs') y1 hy1) rfl en_178 .none rfl ?_
 refine JL.bin rfl rfl rfl .none rfl ?_
 refine JL.assign .none rfl ?_
 refine JL.done hQ (JQ.go (JC.ret ?_))
 obtain rfl := Option.some.inj hF
 exact JQ.outS rfl (.tmp .nil) rfl
-- 84 ferrule/gusts.Check
def F_gusts_Check (n : Nat) (d : Canopy) : Option Int :=
 (F_frames_Check n d.Frame).bind fun y2 => (if (y2 != 0) = true then (some true) else ((F_gusts_within n (d.Ribs.length : Int) 3 10).bind fun y7 => some (!y7)) : Option Bool).bind fun p4 => (if (p4 || ((d.Shares.length : Int) != (d.Ribs.length : Int))) = true then (some true) else ((F_slices_ContainsFunc___api_Span_api_Span_ n d.Ribs (fun a0_ => F_gusts_Check_1 n a0_)).bind fun y14 => some y14) : Option Bool).bind fun p11 => (if p11 = true then (some true) else ((F_slices_ContainsFunc___int_int_ n d.Shares (fun a0_ => F_gusts_Check_2 n a0_)).bind fun y19 => some y19) : Option Bool).bind fun p16 => if p16 = true then (some 50) else (some 0)
theorem c_gusts_Check (n : Nat) (H : Hp) (d : Canopy) (d_v0 : Value) (hd_0 : SL H 7 R_Section d_v0 d.Frame.Sections) (d_v7 : Value) (hd_7 : SL H 2 R_Span d_v7 d.Ribs) (d_v8 : Value) (hd_8 : SL H 1 RInt d_v8 d.Shares) (y : Int) (hF : F_gusts_Check n d = some y) : SC Try.prog 84 [.agg [d_v0, .int .i64 d.Frame.Low, .int .i64 d.Frame.High, .int .i64 d.Frame.Ease.Num, .int .i64 d.Frame.Ease.Den, .int .i64 d.Frame.Rod, .int .i64 d.Frame.Case, d_v7, d_v8].toArray] (.int .i64 y) H := by
 rw [F_gusts_Check] at hF
 refine SC.of (N := 37) Try.func84 rfl rfl rfl fun w => ?_
 refine JC.seq (JC.region (by rfl) ?_)
 intro hQ
 refine JL.box (cs := [d_v0, .int .i64 d.Frame.Low, .int .i64 d.Frame.High, .int .i64 d.Frame.Ease.Num, .int .i64 d.Frame.Ease.Den, .int .i64 d.Frame.Rod, .int .i64 d.Frame.Case, d_v7, d_v8]) rfl .none rfl ?_
 intro b1
 refine JL.assign .none rfl ?_
 refine JL.done hQ (JQ.go (JC.seq (JC.region (by rfl) ?_)))
 intro hQ
 refine JL.assign .none rfl ?_
 refine JL.done hQ (JQ.go (JC.seq (JC.region (by rfl) ?_)))
 intro hQ
 refine JL.assign .none rfl ?_
 refine JL.done hQ (JQ.go (JC.seq (JC.seq (JC.region (by rfl) ?_))))
 intro hQ
 refine JL.fieldAddr fo_76_0 rfl .none rfl ?_
 refine JL.loadOwn 0 az_53 rfl rfl rfl .none rfl ?_
 obtain ⟨y2, hy2, hF⟩ := bind_some hF
 refine JL.callS (c_frames_Check n H d.Frame d_v0 hd_0 y2 hy2) rfl en_79 .none rfl ?_
 refine JL.bin rfl rfl rfl .none rfl ?_
 refine JL.move .none rfl ?_
 obtain ⟨p4, hp4, hF⟩ := bind_some hF
 refine JL.cut 6 (fun f => f 1 = .pointer (some ⟨b1, 0, none⟩) ∧ f 3 = .func (.func 136) #[] [].toArray ∧ f 4 = .func (.func 138) #[] [].toArray ∧ f 15 = .bool p4) ?_ ?_
 ·intro hJ5
  rcases ite_some hp4 with ⟨hc6, hF⟩ | ⟨hc6, hF⟩
  ·skip
   refine JL.skip (.bool rfl rfl rfl hc6) rfl ?_
   refine JL.skip (.bool rfl rfl rfl hc6) rfl ?_
   refine JL.skip (.bool rfl rfl rfl hc6) rfl ?_
   refine JL.skip (.bool rfl rfl rfl hc6) rfl ?_
   refine JL.skip (.bool rfl rfl rfl hc6) rfl ?_
   refine JL.pick_t (b := (y2 != 0)) rfl hc6 .none rfl ?_
   obtain rfl := Option.some.inj hF
   exact hJ5 _ ⟨rfl, rfl, rfl, rfl⟩
  ·skip
   refine JL.fieldAddr fo_76_1 rfl (.some rfl rfl rfl hc6) rfl ?_
   refine JL.loadOwn 0 az_24 rfl rfl rfl (.some rfl rfl rfl hc6) rfl ?_
   refine JL.lenSL (R := R_Span) ul_24 hd_7 (.some rfl rfl rfl hc6) rfl ?_
   obtain ⟨y7, hy7, hF⟩ := bind_some hF
   refine JL.callS (c_gusts_within n H (d.Ribs.length : Int) 3 10 y7 hy7) rfl en_137 (.some rfl rfl rfl hc6) rfl ?_
   refine JL.not rfl (.some rfl rfl rfl hc6) rfl ?_
   refine JL.pick_f (b := (y2 != 0)) rfl hc6 .none rfl ?_
   obtain rfl := Option.some.inj hF
   exact hJ5 _ ⟨rfl, rfl, rfl, rfl⟩
 ·rintro f ⟨hf1, hf3, hf4, hf15⟩
  refine (JL.norm (i := 1) hf1 (JL.norm (i := 3) hf3 (JL.norm (i := 4) hf4 (JL.norm (i := 15) hf15 ?_))))
  refine JL.move .none rfl ?_
  refine JL.cut 8 (fun f => f 1 = .pointer (some ⟨b1, 0, none⟩) ∧ f 3 = .func (.func 136) #[] [].toArray ∧ f 4 = .func (.func 138) #[] [].toArray ∧ f 24 = .bool (p4 || ((d.Shares.length : Int) != (d.Ribs.length : Int)))) ?_ ?_
  ·intro hJ8
   rcases bcases p4 with hc9 | hc9
   ·skip
    refine JL.skip (.bool rfl rfl rfl hc9) rfl ?_
    refine JL.skip (.bool rfl rfl rfl hc9) rfl ?_
    refine JL.skip (.bool rfl rfl rfl hc9) rfl ?_
    refine JL.skip (.bool rfl rfl rfl hc9) rfl ?_
    refine JL.skip (.bool rfl rfl rfl hc9) rfl ?_
    refine JL.skip (.bool rfl rfl rfl hc9) rfl ?_
    refine JL.skip (.bool rfl rfl rfl hc9) rfl ?_
    refine JL.pick_t (b := p4) rfl hc9 .none rfl ?_
    exact hJ8 _ ⟨rfl, rfl, rfl, or_t hc9 rfl⟩
   ·skip
    refine JL.fieldAddr fo_76_2 rfl (.some rfl rfl rfl hc9) rfl ?_
    refine JL.loadOwn 0 az_23 rfl rfl rfl (.some rfl rfl rfl hc9) rfl ?_
    refine JL.lenSL (R := RInt) ul_23 hd_8 (.some rfl rfl rfl hc9) rfl ?_
    refine JL.fieldAddr fo_76_1 rfl (.some rfl rfl rfl hc9) rfl ?_
    refine JL.loadOwn 0 az_24 rfl rfl rfl (.some rfl rfl rfl hc9) rfl ?_
    refine JL.lenSL (R := R_Span) ul_24 hd_7 (.some rfl rfl rfl hc9) rfl ?_
    refine JL.bin rfl rfl rfl (.some rfl rfl rfl hc9) rfl ?_
    refine JL.pick_f (b := p4) rfl hc9 .none rfl ?_
    exact hJ8 _ ⟨rfl, rfl, rfl, or_f hc9 rfl⟩
  ·rintro f ⟨hf1, hf3, hf4, hf24⟩
   refine (JL.norm (i := 1) hf1 (JL.norm (i := 3) hf3 (JL.norm (i := 4) hf4 (JL.norm (i := 24) hf24 ?_))))
   refine JL.move .none rfl ?_
   obtain ⟨p11, hp11, hF⟩ := bind_some hF
   refine JL.cut 5 (fun f => f 1 = .pointer (some ⟨b1, 0, none⟩) ∧ f 4 = .func (.func 138) #[] [].toArray ∧ f 30 = .bool p11) ?_ ?_
   ·intro hJ12
    rcases ite_some hp11 with ⟨hc13, hF⟩ | ⟨hc13, hF⟩
    ·skip
     refine JL.skip (.bool rfl rfl rfl hc13) rfl ?_
     refine JL.skip (.bool rfl rfl rfl hc13) rfl ?_
     refine JL.skip (.bool rfl rfl rfl hc13) rfl ?_
     refine JL.skip (.bool rfl rfl rfl hc13) rfl ?_
     refine JL.pick_t (b := (p4 || ((d.Shares.length : Int) != (d.Ribs.length : Int)))) rfl hc13 .none rfl ?_
     obtain rfl := Option.some.inj hF
     exact hJ12 _ ⟨rfl, rfl, rfl⟩
    ·skip
     refine JL.fieldAddr fo_76_1 rfl (.some rfl rfl rfl hc13) rfl ?_
     refine JL.loadOwn 0 az_24 rfl rfl rfl (.some rfl rfl rfl hc13) rfl ?_
     refine JL.move (.some rfl rfl rfl hc13) rfl ?_
     obtain ⟨y14, hy14, hF⟩ := bind_some hF
     refine JL.callS (c_slices_ContainsFunc___api_Span_api_Span_ n H d.Ribs d_v7 hd_7 (fun a0_ => F_gusts_Check_1 n a0_) 136 [] en_136 (fun H' hs' a0_ y' hy' => c_gusts_Check_1 n H' a0_ y' hy') y14 hy14) rfl en_139 (.some rfl rfl rfl hc13) rfl ?_
     refine JL.pick_f (b := (p4 || ((d.Shares.length : Int) != (d.Ribs.length : Int)))) rfl hc13 .none rfl ?_
     obtain rfl := Option.some.inj hF
     exact hJ12 _ ⟨rfl, rfl, rfl⟩
   ·rintro f ⟨hf1, hf4, hf30⟩
    refine (JL.norm (i := 1) hf1 (JL.norm (i := 4) hf4 (JL.norm (i := 30) hf30 ?_)))
    refine JL.move .none rfl ?_
    obtain ⟨p16, hp16, hF⟩ := bind_some hF
    refine JL.cut 5 (fun f => f 36 = .bool p16) ?_ ?_
    ·intro hJ17
     rcases ite_some hp16 with ⟨hc18, hF⟩ | ⟨hc18, hF⟩
     ·skip
      refine JL.skip (.bool rfl rfl rfl hc18) rfl ?_
      refine JL.skip (.bool rfl rfl rfl hc18) rfl ?_
      refine JL.skip (.bool rfl rfl rfl hc18) rfl ?_
      refine JL.skip (.bool rfl rfl rfl hc18) rfl ?_
      refine JL.pick_t (b := p11) rfl hc18 .none rfl ?_
      obtain rfl := Option.some.inj hF
      exact hJ17 _ (rfl)
     ·skip
      refine JL.fieldAddr fo_76_2 rfl (.some rfl rfl rfl hc18) rfl ?_
      refine JL.loadOwn 0 az_23 rfl rfl rfl (.some rfl rfl rfl hc18) rfl ?_
      refine JL.move (.some rfl rfl rfl hc18) rfl ?_
      obtain ⟨y19, hy19, hF⟩ := bind_some hF
      refine JL.callS (c_slices_ContainsFunc___int_int_ n H d.Shares d_v8 hd_8 (fun a0_ => F_gusts_Check_2 n a0_) 138 [] en_138 (fun H' hs' a0_ y' hy' => c_gusts_Check_2 n H' a0_ y' hy') y19 hy19) rfl en_140 (.some rfl rfl rfl hc18) rfl ?_
      refine JL.pick_f (b := p11) rfl hc18 .none rfl ?_
      obtain rfl := Option.some.inj hF
      exact hJ17 _ (rfl)
    ·rintro f hf36
     refine (JL.norm (i := 36) hf36 ?_)
     refine JL.done hQ (JQ.go ?_)
     rcases ite_some hF with ⟨hc20, hF⟩ | ⟨hc20, hF⟩
     ·refine JC.cond_t (b := p16) rfl hc20 ?_
      refine JC.seq (JC.region (by rfl) ?_)
      intro hQ
      refine JL.assign .none rfl ?_
      refine JL.done hQ (JQ.go (JC.ret (JQ.ret_then ?_)))
      obtain rfl := Option.some.inj hF
      exact JQ.outS rfl (.tmp .nil) rfl
     ·refine JC.cond_f (b := p16) rfl hc20 ?_
      refine JC.skip (JQ.go (JC.seq (JC.region (by rfl) ?_)))
      intro hQ
      refine JL.assign .none rfl ?_
      refine JL.done hQ (JQ.go (JC.ret ?_))
      obtain rfl := Option.some.inj hF
      exact JQ.outS rfl (.tmp .nil) rfl
-- 73 ferrule/frames.ask
def F_frames_ask (n : Nat) (f_ : Frame) (section_ : Int) (r : Int) : Option Int :=
 (F_frames_Check n f_).bind fun y2 => if (y2 != 0) = true then (some y2) else ((F_frames_within n section_ 0 (w64 ((f_.Sections.length : Int) - 1))).bind fun y4 => (if (!y4) = true then (some true) else ((F_frames_within n r f_.Low f_.High).bind fun y9 => some (!y9)) : Option Bool).bind fun p6 => if p6 = true then (some 1) else (some 0))
theorem c_frames_ask (n : Nat) (H : Hp) (f_ : Frame) (f__v0 : Value) (hf__0 : SL H 7 R_Section f__v0 f_.Sections) (section_ : Int) (r : Int) (y : Int) (hF : F_frames_ask n f_ section_ r = some y) : SC Try.prog 73 [.agg [f__v0, .int .i64 f_.Low, .int .i64 f_.High, .int .i64 f_.Ease.Num, .int .i64 f_.Ease.Den, .int .i64 f_.Rod, .int .i64 f_.Case].toArray, .int .i64 section_, .int .i64 r] (.int .i64 y) H := by
 rw [F_frames_ask] at hF
 refine SC.of (N := 29) Try.func73 rfl rfl rfl fun w => ?_
 refine JC.seq (JC.region (by rfl) ?_)
 intro hQ
 refine JL.box (cs := [f__v0, .int .i64 f_.Low, .int .i64 f_.High, .int .i64 f_.Ease.Num, .int .i64 f_.Ease.Den, .int .i64 f_.Rod, .int .i64 f_.Case]) rfl .none rfl ?_
 intro b1
 refine JL.assign .none rfl ?_
 refine JL.done hQ (JQ.go (JC.seq (JC.seq (JC.region (by rfl) ?_))))
 intro hQ
 refine JL.loadOwn 0 az_53 rfl rfl rfl .none rfl ?_
 obtain ⟨y2, hy2, hF⟩ := bind_some hF
 refine JL.callS (c_frames_Check n H f_ f__v0 hf__0 y2 hy2) rfl en_79 .none rfl ?_
 refine JL.assign .none rfl ?_
 refine JL.done hQ (JQ.go (JC.seq (JC.region (by rfl) ?_)))
 intro hQ
 refine JL.move .none rfl ?_
 refine JL.bin rfl rfl rfl .none rfl ?_
 refine JL.done hQ (JQ.go ?_)
 rcases ite_some hF with ⟨hc3, hF⟩ | ⟨hc3, hF⟩
 ·refine JC.cond_t (b := (y2 != 0)) rfl hc3 ?_
  refine JC.seq (JC.region (by rfl) ?_)
  intro hQ
  refine JL.move .none rfl ?_
  refine JL.assign .none rfl ?_
  refine JL.done hQ (JQ.go (JC.ret (JQ.ret_then ?_)))
  obtain rfl := Option.some.inj hF
  exact JQ.outS rfl (.tmp .nil) rfl
 ·refine JC.cond_f (b := (y2 != 0)) rfl hc3 ?_
  refine JC.skip (JQ.go (JC.seq (JC.seq (JC.region (by rfl) ?_))))
  intro hQ
  refine JL.move .none rfl ?_
  refine JL.fieldAddr fo_53_0 rfl .none rfl ?_
  refine JL.loadOwn 0 az_49 rfl rfl rfl .none rfl ?_
  refine JL.lenSL (R := R_Section) ul_49 hf__0 .none rfl ?_
  refine JL.bin rfl rfl rfl .none rfl ?_
  obtain ⟨y4, hy4, hF⟩ := bind_some hF
  refine JL.callS (c_frames_within n H section_ 0 (w64 ((f_.Sections.length : Int) - 1)) y4 hy4) rfl en_124 .none rfl ?_
  refine JL.not rfl .none rfl ?_
  refine JL.move .none rfl ?_
  obtain ⟨p6, hp6, hF⟩ := bind_some hF
  refine JL.cut 8 (fun f => f 28 = .bool p6) ?_ ?_
  ·intro hJ7
   rcases ite_some hp6 with ⟨hc8, hF⟩ | ⟨hc8, hF⟩
   ·skip
    refine JL.skip (.bool rfl rfl rfl hc8) rfl ?_
    refine JL.skip (.bool rfl rfl rfl hc8) rfl ?_
    refine JL.skip (.bool rfl rfl rfl hc8) rfl ?_
    refine JL.skip (.bool rfl rfl rfl hc8) rfl ?_
    refine JL.skip (.bool rfl rfl rfl hc8) rfl ?_
    refine JL.skip (.bool rfl rfl rfl hc8) rfl ?_
    refine JL.skip (.bool rfl rfl rfl hc8) rfl ?_
    refine JL.pick_t (b := (!y4)) rfl hc8 .none rfl ?_
    obtain rfl := Option.some.inj hF
    exact hJ7 _ (rfl)
   ·skip
    refine JL.move (.some rfl rfl rfl hc8) rfl ?_
    refine JL.fieldAddr fo_53_1 rfl (.some rfl rfl rfl hc8) rfl ?_
    refine JL.loadOwn 0 az_3 rfl rfl rfl (.some rfl rfl rfl hc8) rfl ?_
    refine JL.fieldAddr fo_53_2 rfl (.some rfl rfl rfl hc8) rfl ?_
    refine JL.loadOwn 0 az_3 rfl rfl rfl (.some rfl rfl rfl hc8) rfl ?_
    obtain ⟨y9, hy9, hF⟩ := bind_some hF
    refine JL.callS (c_frames_within n H r f_.Low f_.High y9 hy9) rfl en_124 (.some rfl rfl rfl hc8) rfl ?_
    refine JL.not rfl (.some rfl rfl rfl hc8) rfl ?_
    refine JL.pick_f (b := (!y4)) rfl hc8 .none rfl ?_
    obtain rfl := Option.some.inj hF
    exact hJ7 _ (rfl)
  ·rintro f hf28
   refine (JL.norm (i := 28) hf28 ?_)
   refine JL.done hQ (JQ.go ?_)
   rcases ite_some hF with ⟨hc10, hF⟩ | ⟨hc10, hF⟩
   ·refine JC.cond_t (b := p6) rfl hc10 ?_
    refine JC.seq (JC.region (by rfl) ?_)
    intro hQ
    refine JL.assign .none rfl ?_
    refine JL.done hQ (JQ.go (JC.ret (JQ.ret_then ?_)))
    obtain rfl := Option.some.inj hF
    exact JQ.outS rfl (.tmp .nil) rfl
   ·refine JC.cond_f (b := p6) rfl hc10 ?_
    refine JC.skip (JQ.go (JC.seq (JC.region (by rfl) ?_)))
    intro hQ
    refine JL.assign .none rfl ?_
    refine JL.done hQ (JQ.go (JC.ret ?_))
    obtain rfl := Option.some.inj hF
    exact JQ.outS rfl (.tmp .nil) rfl
-- 74 ferrule/frames.distance
def F_frames_distance_s1 (n : Nat) (y2 : List Section) : Int × Int → Option ((Int × Int) ⊕ Int)
 | (r_70, x_71) => if decide (x_71 < (y2.length : Int)) = true then ((geti y2 x_71).bind fun y76 => (nz y76.Gear.Den).bind fun _ => some (Sum.inl ((w64 (y76.Base + (w64 ((w64 (r_70 * y76.Gear.Num)).tdiv y76.Gear.Den)))), (w64 (x_71 + 1))))) else (some (Sum.inr r_70))
def F_frames_distance (n : Nat) (f_ : Frame) (section_ : Int) (r : Int) : Option Int :=
 (slc f_.Sections 1 (w64 (section_ + 1))).bind fun y2 => (loopO n (F_frames_distance_s1 n y2) (r, 0)).bind fun r_43 => some r_43
theorem c_frames_distance (n : Nat) (H : Hp) (f_ : Frame) (f__v0 : Value) (hf__0 : SL H 7 R_Section f__v0 f_.Sections) (section_ : Int) (r : Int) (y : Int) (hF : F_frames_distance n f_ section_ r = some y) : SC Try.prog 74 [.agg [f__v0, .int .i64 f_.Low, .int .i64 f_.High, .int .i64 f_.Ease.Num, .int .i64 f_.Ease.Den, .int .i64 f_.Rod, .int .i64 f_.Case].toArray, .int .i64 section_, .int .i64 r] (.int .i64 y) H := by
 rw [F_frames_distance] at hF
 refine SC.of (N := 33) Try.func74 rfl rfl rfl fun w => ?_
 refine JC.seq (JC.region (by rfl) ?_)
 intro hQ
 refine JL.box (cs := [f__v0, .int .i64 f_.Low, .int .i64 f_.High, .int .i64 f_.Ease.Num, .int .i64 f_.Ease.Den, .int .i64 f_.Rod, .int .i64 f_.Case]) rfl .none rfl ?_
 intro b1
 refine JL.assign .none rfl ?_
 refine JL.done hQ (JQ.go (JC.seq (JC.seq (JC.region (by rfl) ?_))))
 intro hQ
 refine JL.fieldAddr fo_53_0 rfl .none rfl ?_
 refine JL.loadOwn 0 az_49 rfl rfl rfl .none rfl ?_
 refine JL.move .none rfl ?_
 refine JL.bin rfl rfl rfl .none rfl ?_
 obtain ⟨y2, hy2, hF⟩ := bind_some hF
 refine JL.sliceLoHi (R := R_Section) sl_49 hf__0 rfl rfl hy2 .none rfl ?_
 intro v3 hv4
 refine JL.lenSL (R := R_Section) ul_49 hv4 .none rfl ?_
 refine JL.move .none rfl ?_
 refine JL.done hQ (JQ.go ?_)
 obtain ⟨r45, hlr45, hKr45⟩ := bind_some hF
 refine JC.join (fun (r_43 : Int) H44 f bs gs => f 2 = .int .i64 r_43 ∧ bs = [] ∧ gs = [] ∧ HSub H H44 ∧ r_43 = r45) ?_ ?_
 ·skip
  refine JC.block (JC.mask [false] [] ?_)
  refine JC.loop hlr45 (fun (x : Int × Int) H72 f bs gs => match x with | (r_70, x_71) => f 2 = .int .i64 r_70 ∧ f 13 = v3 ∧ f 14 = .int .i64 (y2.length : Int) ∧ f 15 = .int .i64 x_71 ∧ bs = [] ∧ gs = [] ∧ HSub H H72) ⟨rfl, rfl, rfl, rfl, rfl, rfl, (HSub.refl _)⟩ ?_
  rintro ⟨r_70, x_71⟩ x74 H72 f bs gs ⟨hf2, hf13, hf14, hf15, rfl, rfl, hs72⟩ hF hr73
  rw [F_frames_distance_s1] at hF
  refine (JC.norm (i := 2) hf2 (JC.norm (i := 13) hf13 (JC.norm (i := 14) hf14 (JC.norm (i := 15) hf15 ?_))))
  refine JC.seq (JC.region (by rfl) ?_)
  intro hQ
  refine JL.bin rfl rfl rfl .none rfl ?_
  refine JL.done hQ (JQ.go (JC.seq ?_))
  rcases ite_some hF with ⟨hc75, hF⟩ | ⟨hc75, hF⟩
  ·refine JC.cond_t (b := decide (x_71 < (y2.length : Int))) rfl hc75 ?_
   refine JC.skip (JQ.go (JC.seq (JC.block (JC.seq (JC.region (by rfl) ?_)))))
   intro hQ
   obtain ⟨y76, hy76, hF⟩ := bind_some hF
   refine JL.indexSL (R := R_Section) sl_49 (SL.mono R_Section_mono hs72 hv4) rfl hy76 .none rfl ?_
   rintro b77 o78 cs79 hc80 - rfl
   refine JL.loadH 0 az_68 rfl hc80 rfl .none rfl ?_
   refine JL.alloc ze_68 .none rfl ?_
   intro b81
   refine JL.storeOwn 0 (cs := [.int .i64 y76.Arm.Low, .int .i64 y76.Arm.High, .int .i64 y76.Stretch.Low, .int .i64 y76.Stretch.High, .int .i64 y76.Base, .int .i64 y76.Gear.Num, .int .i64 y76.Gear.Den]) az_68 rfl rfl rfl (one_cons rfl (one_cons rfl (one_cons rfl (one_cons rfl (one_cons rfl (one_cons rfl (one_cons rfl one_nil))))))) rfl rfl .none ?_
   refine JL.done hQ (JQ.go (JC.draw (by rfl) mo_ (by kernel_rfl) ?_))
   intro hQ
   refine JL.fieldAddr fo_68_2 rfl .none rfl ?_
   refine JL.loadOwn 0 az_3 rfl rfl rfl .none rfl ?_
   refine JL.move .none rfl ?_
   refine JL.fieldAddr fo_68_3 rfl .none rfl ?_
   refine JL.fieldAddr fo_51_0 rfl .none rfl ?_
   refine JL.loadOwn 0 az_3 rfl rfl rfl .none rfl ?_
   refine JL.bin rfl rfl rfl .none rfl ?_
   refine JL.fieldAddr fo_68_3 rfl .none rfl ?_
   refine JL.fieldAddr fo_51_1 rfl .none rfl ?_
   refine JL.loadOwn 0 az_3 rfl rfl rfl .none rfl ?_
   obtain ⟨u83, hu83, hF⟩ := bind_some hF
   refine JL.div rfl rfl (nz_some hu83) rfl .none rfl ?_
   refine JL.bin rfl rfl rfl .none rfl ?_
   refine JL.assign .none rfl ?_
   refine JL.doneQ hQ ?_
   refine JQ.normal_block (JQ.go (JC.fresh (fun f => f 2 = .int .i64 (w64 (y76.Base + (w64 ((w64 (r_70 * y76.Gear.Num)).tdiv y76.Gear.Den)))) ∧ f 13 = v3 ∧ f 14 = .int .i64 (y2.length : Int) ∧ f 15 = .int .i64 x_71) ⟨rfl, rfl, rfl, rfl⟩ ?_))
   rintro f ⟨hf2, hf13, hf14, hf15⟩
   refine (JC.norm (i := 2) hf2 (JC.norm (i := 13) hf13 (JC.norm (i := 14) hf14 (JC.norm (i := 15) hf15 ?_))))
   refine JC.region (by rfl) ?_
   intro hQ
   refine JL.bin rfl rfl rfl .none rfl ?_
   refine JL.move .none rfl ?_
   refine JL.done hQ ?_
   obtain rfl := Option.some.inj hF
   refine JQ.mask [false] [] ?_
   exact JQ.next rfl ⟨rfl, rfl, rfl, rfl, rfl, rfl, hs72⟩
  ·refine JC.cond_f (b := decide (x_71 < (y2.length : Int))) rfl hc75 ?_
   refine JC.exit (JQ.exit_then (JQ.exit_then (JQ.exit_block ?_)))
   obtain rfl := Option.some.inj hF
   have ehr73 := hr73 _ rfl
   subst ehr73
   exact JQ.join r_70 ⟨rfl, rfl, rfl, hs72, rfl⟩
 ·rintro r_43 H44 f bs gs ⟨hf2, rfl, rfl, hs44, rfl⟩
  have hF := hKr45
  try dsimp only at hF
  refine (JQ.norm (i := 2) hf2 ?_)
  refine JQ.go (JC.seq (JC.region (by rfl) ?_))
  intro hQ
  refine JL.move .none rfl ?_
  refine JL.assign .none rfl ?_
  refine JL.done hQ (JQ.go (JC.ret ?_))
  obtain rfl := Option.some.inj hF
  exact JQ.outS rfl (.tmp .nil) rfl
-- 76 (ferrule/frames.sides).cosine
def F_frames_sides_cosine (n : Nat) (x_ : frames_sides) (d : Int) : Option Frac :=
 some (Frac.mk (w64 ((w64 ((w64 (d * d)) + (w64 (x_.arm * x_.arm)))) - (w64 (x_.stretch * x_.stretch)))) (w64 ((w64 (2 * d)) * x_.arm)))
theorem c_frames_sides_cosine (n : Nat) (H : Hp) (x_ : frames_sides) (d : Int) (y : Frac) (hF : F_frames_sides_cosine n x_ d = some y) : SC Try.prog 76 [.agg [.int .i64 x_.arm, .int .i64 x_.stretch].toArray, .int .i64 d] (.agg [.int .i64 y.Num, .int .i64 y.Den].toArray) H := by
 rw [F_frames_sides_cosine] at hF
 refine SC.of (N := 26) Try.func76 rfl rfl rfl fun w => ?_
 refine JC.seq (JC.region (by rfl) ?_)
 intro hQ
 refine JL.box (cs := [.int .i64 x_.arm, .int .i64 x_.stretch]) rfl .none rfl ?_
 intro b1
 refine JL.alloc ze_51 .none rfl ?_
 intro b2
 refine JL.done hQ (JQ.go (JC.seq (JC.region (by rfl) ?_)))
 intro hQ
 refine JL.move .none rfl ?_
 refine JL.move .none rfl ?_
 refine JL.bin rfl rfl rfl .none rfl ?_
 refine JL.fieldAddr fo_147_0 rfl .none rfl ?_
 refine JL.loadOwn 1 az_3 rfl rfl rfl .none rfl ?_
 refine JL.fieldAddr fo_147_0 rfl .none rfl ?_
 refine JL.loadOwn 1 az_3 rfl rfl rfl .none rfl ?_
 refine JL.bin rfl rfl rfl .none rfl ?_
 refine JL.bin rfl rfl rfl .none rfl ?_
 refine JL.fieldAddr fo_147_1 rfl .none rfl ?_
 refine JL.loadOwn 1 az_3 rfl rfl rfl .none rfl ?_
 refine JL.fieldAddr fo_147_1 rfl .none rfl ?_
 refine JL.loadOwn 1 az_3 rfl rfl rfl .none rfl ?_
 refine JL.bin rfl rfl rfl .none rfl ?_
 refine JL.bin rfl rfl rfl .none rfl ?_
 refine JL.move .none rfl ?_
 refine JL.bin rfl rfl rfl .none rfl ?_
 refine JL.fieldAddr fo_147_0 rfl .none rfl ?_
 refine JL.loadOwn 1 az_3 rfl rfl rfl .none rfl ?_
 refine JL.bin rfl rfl rfl .none rfl ?_
 refine JL.build (l := [.int .i64 (w64 ((w64 ((w64 (d * d)) + (w64 (x_.arm * x_.arm)))) - (w64 (x_.stretch * x_.stretch)))), .int .i64 (w64 ((w64 (2 * d)) * x_.arm))]) (by kernel_rfl) .none rfl ?_
 refine JL.storeOwn 0 (cs := [.int .i64 (w64 ((w64 ((w64 (d * d)) + (w64 (x_.arm * x_.arm)))) - (w64 (x_.stretch * x_.stretch)))), .int .i64 (w64 ((w64 (2 * d)) * x_.arm))]) az_51 rfl rfl rfl (one_cons rfl (one_cons rfl one_nil)) rfl rfl .none ?_
 refine JL.done hQ (JQ.go (JC.fresh (fun f => f 4 = .pointer (some ⟨b2, 0, none⟩)) rfl ?_))
 rintro f hf4
 refine (JC.norm (i := 4) hf4 ?_)
 refine JC.ret ?_
 obtain rfl := Option.some.inj hF
 exact JQ.outS rfl (.cell 0 az_51 rfl rfl rfl .nil) rfl
-- 174 cmp.isNaN[int]
def F_cmp_isNaN_int_ (n : Nat) (x_ : Int) : Option Bool :=
 some (x_ != x_)
theorem c_cmp_isNaN_int_ (n : Nat) (H : Hp) (x_ : Int) (y : Bool) (hF : F_cmp_isNaN_int_ n x_ = some y) : SC Try.prog 174 [.int .i64 x_] (.bool y) H := by
 rw [F_cmp_isNaN_int_] at hF
 refine SC.of (N := 6) Try.func174 rfl rfl rfl fun w => ?_
 refine JC.seq (JC.region (by rfl) ?_)
 intro hQ
 refine JL.assign .none rfl ?_
 refine JL.done hQ (JQ.go (JC.seq (JC.region (by rfl) ?_)))
 intro hQ
 refine JL.move .none rfl ?_
 refine JL.move .none rfl ?_
 refine JL.bin rfl rfl rfl .none rfl ?_
 refine JL.assign .none rfl ?_
 refine JL.done hQ (JQ.go (JC.ret ?_))
 obtain rfl := Option.some.inj hF
 exact JQ.outS rfl (.tmp .nil) rfl
-- 126 cmp.Compare[int]
def F_cmp_Compare_int_ (n : Nat) (x_ : Int) (y_ : Int) : Option Int :=
 (F_cmp_isNaN_int_ n x_).bind fun y1 => (F_cmp_isNaN_int_ n y_).bind fun y2 => if y1 = true then (if y2 = true then (some 0) else (some (-1))) else (if y2 = true then (some 1) else (if decide (x_ < y_) = true then (some (-1)) else (if decide (y_ < x_) = true then (some 1) else (some 0))))
theorem c_cmp_Compare_int_ (n : Nat) (H : Hp) (x_ : Int) (y_ : Int) (y : Int) (hF : F_cmp_Compare_int_ n x_ y_ = some y) : SC Try.prog 126 [.int .i64 x_, .int .i64 y_] (.int .i64 y) H := by
 rw [F_cmp_Compare_int_] at hF
 refine SC.of (N := 20) Try.func126 rfl rfl rfl fun w => ?_
 refine JC.seq (JC.region (by rfl) ?_)
 intro hQ
 refine JL.assign .none rfl ?_
 refine JL.done hQ (JQ.go (JC.seq (JC.region (by rfl) ?_)))
 intro hQ
 refine JL.move .none rfl ?_
 obtain ⟨y1, hy1, hF⟩ := bind_some hF
 refine JL.callS (c_cmp_isNaN_int_ n H x_ y1 hy1) rfl en_174 .none rfl ?_
 refine JL.assign .none rfl ?_
 refine JL.done hQ (JQ.go (JC.seq (JC.region (by rfl) ?_)))
 intro hQ
 refine JL.move .none rfl ?_
 obtain ⟨y2, hy2, hF⟩ := bind_some hF
 refine JL.callS (c_cmp_isNaN_int_ n H y_ y2 hy2) rfl en_174 .none rfl ?_
 refine JL.assign .none rfl ?_
 refine JL.done hQ (JQ.go (JC.seq (JC.seq (JC.region (by rfl) ?_))))
 intro hQ
 refine JL.move .none rfl ?_
 refine JL.done hQ (JQ.go ?_)
 rcases ite_some hF with ⟨hc3, hF⟩ | ⟨hc3, hF⟩
 ·refine JC.cond_t (b := y1) rfl hc3 ?_
  refine JC.seq (JC.seq (JC.region (by rfl) ?_))
  intro hQ
  refine JL.move .none rfl ?_
  refine JL.done hQ (JQ.go ?_)
  rcases ite_some hF with ⟨hc4, hF⟩ | ⟨hc4, hF⟩
  ·refine JC.cond_t (b := y2) rfl hc4 ?_
   refine JC.seq (JC.region (by rfl) ?_)
   intro hQ
   refine JL.assign .none rfl ?_
   refine JL.done hQ (JQ.go (JC.ret (JQ.ret_then (JQ.ret_then ?_))))
   obtain rfl := Option.some.inj hF
   exact JQ.outS rfl (.tmp .nil) rfl
  ·refine JC.cond_f (b := y2) rfl hc4 ?_
   refine JC.skip (JQ.go (JC.seq (JC.region (by rfl) ?_)))
   intro hQ
   refine JL.assign .none rfl ?_
   refine JL.done hQ (JQ.go (JC.ret (JQ.ret_then ?_)))
   obtain rfl := Option.some.inj hF
   exact JQ.outS rfl (.tmp .nil) rfl
 ·refine JC.cond_f (b := y1) rfl hc3 ?_
  refine JC.skip (JQ.go (JC.seq (JC.seq (JC.region (by rfl) ?_))))
  intro hQ
  refine JL.move .none rfl ?_
  refine JL.done hQ (JQ.go ?_)
  rcases ite_some hF with ⟨hc5, hF⟩ | ⟨hc5, hF⟩
  ·refine JC.cond_t (b := y2) rfl hc5 ?_
   refine JC.seq (JC.region (by rfl) ?_)
   intro hQ
   refine JL.assign .none rfl ?_
   refine JL.done hQ (JQ.go (JC.ret (JQ.ret_then ?_)))
   obtain rfl := Option.some.inj hF
   exact JQ.outS rfl (.tmp .nil) rfl
  ·refine JC.cond_f (b := y2) rfl hc5 ?_
   refine JC.skip (JQ.go (JC.seq (JC.seq (JC.region (by rfl) ?_))))
   intro hQ
   refine JL.move .none rfl ?_
   refine JL.move .none rfl ?_
   refine JL.bin rfl rfl rfl .none rfl ?_
   refine JL.done hQ (JQ.go (JC.fresh (fun f => f 0 = .int .i64 x_ ∧ f 1 = .int .i64 y_ ∧ f 4 = .int .i64 0 ∧ f 16 = .bool (decide (x_ < y_))) ⟨rfl, rfl, rfl, rfl⟩ ?_))
   rintro f ⟨hf0, hf1, hf4, hf16⟩
   refine (JC.norm (i := 0) hf0 (JC.norm (i := 1) hf1 (JC.norm (i := 4) hf4 (JC.norm (i := 16) hf16 ?_))))
   rcases ite_some hF with ⟨hc6, hF⟩ | ⟨hc6, hF⟩
   ·refine JC.cond_t (b := decide (x_ < y_)) rfl hc6 ?_
    refine JC.seq (JC.region (by rfl) ?_)
    intro hQ
    refine JL.assign .none rfl ?_
    refine JL.done hQ (JQ.go (JC.ret (JQ.ret_then ?_)))
    obtain rfl := Option.some.inj hF
    exact JQ.outS rfl (.tmp .nil) rfl
   ·refine JC.cond_f (b := decide (x_ < y_)) rfl hc6 ?_
    refine JC.skip (JQ.go (JC.seq (JC.seq (JC.region (by rfl) ?_))))
    intro hQ
    refine JL.move .none rfl ?_
    refine JL.move .none rfl ?_
    refine JL.bin rfl rfl rfl .none rfl ?_
    refine JL.done hQ (JQ.go ?_)
    rcases ite_some hF with ⟨hc7, hF⟩ | ⟨hc7, hF⟩
    ·refine JC.cond_t (b := decide (y_ < x_)) rfl hc7 ?_
     refine JC.seq (JC.region (by rfl) ?_)
     intro hQ
     refine JL.assign .none rfl ?_
     refine JL.done hQ (JQ.go (JC.ret (JQ.ret_then ?_)))
     obtain rfl := Option.some.inj hF
     exact JQ.outS rfl (.tmp .nil) rfl
    ·refine JC.cond_f (b := decide (y_ < x_)) rfl hc7 ?_
     refine JC.skip (JQ.go (JC.seq (JC.region (by rfl) ?_)))
     intro hQ
     refine JL.assign .none rfl ?_
     refine JL.done hQ (JQ.go (JC.ret ?_))
     obtain rfl := Option.some.inj hF
     exact JQ.outS rfl (.tmp .nil) rfl
-- 77 ferrule/frames.compare
def F_frames_compare (n : Nat) (a : Frac) (b : Frac) : Option Int :=
 (F_cmp_Compare_int_ n (w64 (a.Num * b.Den)) (w64 (b.Num * a.Den))).bind fun y3 => some y3
theorem c_frames_compare (n : Nat) (H : Hp) (a : Frac) (b : Frac) (y : Int) (hF : F_frames_compare n a b = some y) : SC Try.prog 77 [.agg [.int .i64 a.Num, .int .i64 a.Den].toArray, .agg [.int .i64 b.Num, .int .i64 b.Den].toArray] (.int .i64 y) H := by
 rw [F_frames_compare] at hF
 refine SC.of (N := 16) Try.func77 rfl rfl rfl fun w => ?_
 refine JC.seq (JC.region (by rfl) ?_)
 intro hQ
 refine JL.box (cs := [.int .i64 a.Num, .int .i64 a.Den]) rfl .none rfl ?_
 intro b1
 refine JL.box (cs := [.int .i64 b.Num, .int .i64 b.Den]) rfl .none rfl ?_
 intro b2
 refine JL.assign .none rfl ?_
 refine JL.done hQ (JQ.go (JC.seq (JC.region (by rfl) ?_)))
 intro hQ
 refine JL.fieldAddr fo_51_0 rfl .none rfl ?_
 refine JL.loadOwn 1 az_3 rfl rfl rfl .none rfl ?_
 refine JL.fieldAddr fo_51_1 rfl .none rfl ?_
 refine JL.loadOwn 0 az_3 rfl rfl rfl .none rfl ?_
 refine JL.bin rfl rfl rfl .none rfl ?_
 refine JL.fieldAddr fo_51_0 rfl .none rfl ?_
 refine JL.loadOwn 0 az_3 rfl rfl rfl .none rfl ?_
 refine JL.fieldAddr fo_51_1 rfl .none rfl ?_
 refine JL.loadOwn 1 az_3 rfl rfl rfl .none rfl ?_
 refine JL.bin rfl rfl rfl .none rfl ?_
 obtain ⟨y3, hy3, hF⟩ := bind_some hF
 refine JL.callS (c_cmp_Compare_int_ n H (w64 (a.Num * b.Den)) (w64 (b.Num * a.Den)) y3 hy3) rfl en_126 .none rfl ?_
 refine JL.assign .none rfl ?_
 refine JL.done hQ (JQ.go (JC.fresh (fun f => f 4 = .int .i64 y3) rfl ?_))
 rintro f hf4
 refine (JC.norm (i := 4) hf4 ?_)
 refine JC.ret ?_
 obtain rfl := Option.some.inj hF
 exact JQ.outS rfl (.tmp .nil) rfl
-- 78 ferrule/frames.reduced
def F_frames_reduced_s1 (n : Nat)  : Int × Int → Option ((Int × Int) ⊕ Int)
 | (a_38, b_39) => if (b_39 != 0) = true then ((nz b_39).bind fun _ => some (Sum.inl (b_39, (a_38.tmod b_39)))) else (some (Sum.inr a_38))
def F_frames_reduced (n : Nat) (f_ : Frac) : Option Frac :=
 (loopO n (F_frames_reduced_s1 n) ((max f_.Num (w64 (-f_.Num))), f_.Den)).bind fun a_23 => (nz a_23).bind fun _ => (nz a_23).bind fun _ => some (Frac.mk (w64 (f_.Num.tdiv a_23)) (w64 (f_.Den.tdiv a_23)))
theorem c_frames_reduced (n : Nat) (H : Hp) (f_ : Frac) (y : Frac) (hF : F_frames_reduced n f_ = some y) : SC Try.prog 78 [.agg [.int .i64 f_.Num, .int .i64 f_.Den].toArray] (.agg [.int .i64 y.Num, .int .i64 y.Den].toArray) H := by
 rw [F_frames_reduced] at hF
 refine SC.of (N := 28) Try.func78 rfl rfl rfl fun w => ?_
 refine JC.seq (JC.region (by rfl) ?_)
 intro hQ
 refine JL.box (cs := [.int .i64 f_.Num, .int .i64 f_.Den]) rfl .none rfl ?_
 intro b1
 refine JL.alloc ze_51 .none rfl ?_
 intro b2
 refine JL.done hQ (JQ.go (JC.seq (JC.draw (by rfl) mo_ (by kernel_rfl) ?_)))
 intro hQ
 refine JL.fieldAddr fo_51_0 rfl .none rfl ?_
 refine JL.loadOwn 1 az_3 rfl rfl rfl .none rfl ?_
 refine JL.fieldAddr fo_51_0 rfl .none rfl ?_
 refine JL.loadOwn 1 az_3 rfl rfl rfl .none rfl ?_
 refine JL.neg rfl .none rfl ?_
 refine JL.max rfl rfl .none rfl ?_
 refine JL.fieldAddr fo_51_1 rfl .none rfl ?_
 refine JL.loadOwn 1 az_3 rfl rfl rfl .none rfl ?_
 refine JL.assign .none rfl ?_
 refine JL.assign .none rfl ?_
 refine JL.doneQ hQ ?_
 refine JQ.go (JC.seq ?_)
 obtain ⟨r25, hlr25, hKr25⟩ := bind_some hF
 refine JC.join (fun (a_23 : Int) H24 f bs gs => f 1 = .pointer (some ⟨b1, 0, none⟩) ∧ f 2 = .pointer (some ⟨b2, 0, none⟩) ∧ f 3 = .int .i64 a_23 ∧ bs = [(b2, .cells [.int .i64 0, .int .i64 0].toArray 51), (b1, .cells [.int .i64 f_.Num, .int .i64 f_.Den].toArray 51)] ∧ gs = [] ∧ HSub H H24 ∧ a_23 = r25) ?_ ?_
 ·skip
  refine JC.block (JC.loop hlr25 (fun (x : Int × Int) H40 f bs gs => match x with | (a_38, b_39) => f 1 = .pointer (some ⟨b1, 0, none⟩) ∧ f 2 = .pointer (some ⟨b2, 0, none⟩) ∧ f 3 = .int .i64 a_38 ∧ f 4 = .int .i64 b_39 ∧ bs = [(b2, .cells [.int .i64 0, .int .i64 0].toArray 51), (b1, .cells [.int .i64 f_.Num, .int .i64 f_.Den].toArray 51)] ∧ gs = [] ∧ HSub H H40) ⟨rfl, rfl, rfl, rfl, rfl, rfl, (HSub.refl _)⟩ ?_)
  rintro ⟨a_38, b_39⟩ x42 H40 f bs gs ⟨hf1, hf2, hf3, hf4, rfl, rfl, hs40⟩ hF hr41
  rw [F_frames_reduced_s1] at hF
  refine (JC.norm (i := 1) hf1 (JC.norm (i := 2) hf2 (JC.norm (i := 3) hf3 (JC.norm (i := 4) hf4 ?_))))
  refine JC.seq (JC.seq (JC.region (by rfl) ?_))
  intro hQ
  refine JL.move .none rfl ?_
  refine JL.bin rfl rfl rfl .none rfl ?_
  refine JL.done hQ (JQ.go ?_)
  rcases ite_some hF with ⟨hc43, hF⟩ | ⟨hc43, hF⟩
  ·refine JC.cond_t (b := (b_39 != 0)) rfl hc43 ?_
   refine JC.skip (JQ.go (JC.block (JC.draw (by rfl) mo_ (by kernel_rfl) ?_)))
   intro hQ
   refine JL.move .none rfl ?_
   refine JL.move .none rfl ?_
   refine JL.move .none rfl ?_
   obtain ⟨u45, hu45, hF⟩ := bind_some hF
   refine JL.div rfl rfl (nz_some hu45) rfl .none rfl ?_
   refine JL.assign .none rfl ?_
   refine JL.assign .none rfl ?_
   refine JL.doneQ hQ ?_
   refine JQ.normal_block ?_
   obtain rfl := Option.some.inj hF
   exact JQ.next rfl ⟨rfl, rfl, rfl, rfl, rfl, rfl, hs40⟩
  ·refine JC.cond_f (b := (b_39 != 0)) rfl hc43 ?_
   refine JC.exit (JQ.exit_then (JQ.exit_then (JQ.exit_block ?_)))
   obtain rfl := Option.some.inj hF
   have ehr41 := hr41 _ rfl
   subst ehr41
   exact JQ.join a_38 ⟨rfl, rfl, rfl, rfl, rfl, hs40, rfl⟩
 ·rintro a_23 H24 f bs gs ⟨hf1, hf2, hf3, rfl, rfl, hs24, rfl⟩
  have hF := hKr25
  try dsimp only at hF
  refine (JQ.norm (i := 1) hf1 (JQ.norm (i := 2) hf2 (JQ.norm (i := 3) hf3 ?_)))
  refine JQ.go (JC.seq ?_)
  obtain ⟨u48, hu48, hF⟩ := bind_some hF
  obtain ⟨u49, hu49, hF⟩ := bind_some hF
  refine JC.mixed 9 10 #[false, false, false, false, false, false, false, false, false, false] [(b2, .cells [.int .i64 0, .int .i64 0].toArray 51), (b1, .cells [.int .i64 f_.Num, .int .i64 f_.Den].toArray 51)] (by rfl) mo_ (by kernel_rfl) (by kernel_rfl) ?_
  intro hQ hE
  refine JA.take 0 (listed' := #[true, false, false, false, false, false, false, false, false, false]) hQ rfl (by kernel_rfl) (by kernel_rfl) (by kernel_rfl) (by kernel_rfl) (by kernel_rfl) hE (HSub.refl _) (.cons_cons _ (.cons_cons _ (List.nil_sublist _))) ?_
  refine JL.fieldAddr fo_51_0 rfl .none rfl ?_
  refine JA.cont ?_
  refine JA.take 1 (listed' := #[true, true, false, false, false, false, false, false, false, false]) hQ rfl (by kernel_rfl) (by kernel_rfl) (by kernel_rfl) (by kernel_rfl) (by kernel_rfl) hE (HSub.refl _) (.cons_cons _ (.cons_cons _ (List.nil_sublist _))) ?_
  refine JL.loadOwn 1 az_3 rfl rfl rfl .none rfl ?_
  refine JA.cont ?_
  refine JA.take 2 (listed' := #[true, true, true, false, false, false, false, false, false, false]) hQ rfl (by kernel_rfl) (by kernel_rfl) (by kernel_rfl) (by kernel_rfl) (by kernel_rfl) hE (HSub.refl _) (.cons_cons _ (.cons_cons _ (List.nil_sublist _))) ?_
  refine JL.move .none rfl ?_
  refine JA.cont ?_
  refine JA.take 3 (listed' := #[true, true, true, true, false, false, false, false, false, false]) hQ rfl (by kernel_rfl) (by kernel_rfl) (by kernel_rfl) (by kernel_rfl) (by kernel_rfl) hE (HSub.refl _) (.cons_cons _ (.cons_cons _ (List.nil_sublist _))) ?_
  refine JL.div rfl rfl (nz_some hu48) rfl .none rfl ?_
  refine JA.cont ?_
  refine JA.take 4 (listed' := #[true, true, true, true, true, false, false, false, false, false]) hQ rfl (by kernel_rfl) (by kernel_rfl) (by kernel_rfl) (by kernel_rfl) (by kernel_rfl) hE (HSub.refl _) (.cons_cons _ (.cons_cons _ (List.nil_sublist _))) ?_
  refine JL.fieldAddr fo_51_1 rfl .none rfl ?_
  refine JA.cont ?_
  refine JA.take 5 (listed' := #[true, true, true, true, true, true, false, false, false, false]) hQ rfl (by kernel_rfl) (by kernel_rfl) (by kernel_rfl) (by kernel_rfl) (by kernel_rfl) hE (HSub.refl _) (.cons_cons _ (.cons_cons _ (List.nil_sublist _))) ?_
  refine JL.loadOwn 1 az_3 rfl rfl rfl .none rfl ?_
  refine JA.cont ?_
  refine JA.take 6 (listed' := #[true, true, true, true, true, true, true, false, false, false]) hQ rfl (by kernel_rfl) (by kernel_rfl) (by kernel_rfl) (by kernel_rfl) (by kernel_rfl) hE (HSub.refl _) (.cons_cons _ (.cons_cons _ (List.nil_sublist _))) ?_
  refine JL.move .none rfl ?_
  refine JA.cont ?_
  refine JA.take 7 (listed' := #[true, true, true, true, true, true, true, true, false, false]) hQ rfl (by kernel_rfl) (by kernel_rfl) (by kernel_rfl) (by kernel_rfl) (by kernel_rfl) hE (HSub.refl _) (.cons_cons _ (.cons_cons _ (List.nil_sublist _))) ?_
  refine JL.div rfl rfl (nz_some hu49) rfl .none rfl ?_
  refine JA.cont ?_
  refine JA.take 8 (listed' := #[true, true, true, true, true, true, true, true, true, false]) hQ rfl (by kernel_rfl) (by kernel_rfl) (by kernel_rfl) (by kernel_rfl) (by kernel_rfl) hE (HSub.refl _) (.cons_cons _ (.cons_cons _ (List.nil_sublist _))) ?_
  refine JL.build (l := [.int .i64 (w64 (f_.Num.tdiv a_23)), .int .i64 (w64 (f_.Den.tdiv a_23))]) (by kernel_rfl) .none rfl ?_
  refine JA.cont ?_
  refine JA.many [9] (by kernel_rfl) (by simp) (all_one ⟨_, #[true, true, true, true, true, true, true, true, true, true], rfl, (by kernel_rfl), ?_⟩)
  refine JL.storeOwn 0 (cs := [.int .i64 (w64 (f_.Num.tdiv a_23)), .int .i64 (w64 (f_.Den.tdiv a_23))]) az_51 rfl rfl rfl (one_cons rfl (one_cons rfl one_nil)) rfl rfl .none ?_
  refine JA.sink (by kernel_rfl) ?_
  refine JA.done hQ (by kernel_rfl) ?_
  refine JQ.go (JC.ret ?_)
  obtain rfl := Option.some.inj hF
  exact JQ.outS rfl (.cell 0 az_51 rfl rfl rfl .nil) rfl
end Go.Proofs.Yteihdclpiekmaaa
end
section
set_option maxRecDepth 100000
set_option maxHeartbeats 40000000
namespace Go.Proofs.Yteihdclpiekmaaa
open Go Go.RowKit Go.Dec
set_option linter.unusedVariables false
-- 28 ferrule/frames.Cosine
def F_frames_Cosine_s1 (n : Nat) (y6 : Int) : (Int × Int × Int × Int) → frames_sides → Option ((Int × Int × Int × Int) ⊕ Unit)
 | (z_82, z_83, z_84, z_85), x17 => (F_frames_sides_cosine n x17 y6).bind fun y91 => (if (z_85 == 0) = true then (some true) else ((F_frames_compare n y91 (Frac.mk z_84 z_85)).bind fun y97 => some (decide (y97 < 0))) : Option Bool).bind fun p94 => (if p94 = true then (some (y91.Num, y91.Den)) else (some (z_84, z_85))).bind fun r102 => match r102 with | (z_99, z_100) => (if (z_83 == 0) = true then (some true) else ((F_frames_compare n y91 (Frac.mk z_82 z_83)).bind fun y108 => some (decide (0 < y108))) : Option Bool).bind fun p105 => (if p105 = true then (some (y91.Num, y91.Den)) else (some (z_82, z_83))).bind fun r113 => match r113 with | (z_110, z_111) => some (Sum.inl (z_110, z_111, z_99, z_100))
def F_frames_Cosine (n : Nat) (f_ : Frame) (section_ : Int) (r : Int) : Option (Frac × Frac × Int) :=
 (F_frames_ask n f_ section_ r).bind fun y4 => if (y4 != 0) = true then (some ((Frac.mk 0 0), (Frac.mk 0 0), y4)) else ((F_frames_distance n f_ section_ r).bind fun y6 => if (y6 == 0) = true then (some ((Frac.mk 0 0), (Frac.mk 0 0), 3)) else ((geti f_.Sections section_).bind fun y9 => (F_frames_truths n y9).bind fun y14 => (I_frames_truths_1 n y14 (F_frames_Cosine_s1 n y6) (0, 0, 0, 0)).bind fun r87 => match r87 with | .inl (z_82, z_83, z_84, z_85) => (F_frames_reduced n (Frac.mk z_84 z_85)).bind fun y118 => (F_frames_reduced n (Frac.mk z_82 z_83)).bind fun y119 => some (y118, y119, 0) | .inr _ => none))
theorem c_frames_Cosine (n : Nat) (H : Hp) (f_ : Frame) (f__v0 : Value) (hf__0 : SL H 7 R_Section f__v0 f_.Sections) (section_ : Int) (r : Int) (y : Frac × Frac × Int) (hF : F_frames_Cosine n f_ section_ r = some y) : SC Try.prog 28 [.agg [f__v0, .int .i64 f_.Low, .int .i64 f_.High, .int .i64 f_.Ease.Num, .int .i64 f_.Ease.Den, .int .i64 f_.Rod, .int .i64 f_.Case].toArray, .int .i64 section_, .int .i64 r] (.tuple [.agg [.int .i64 y.1.Num, .int .i64 y.1.Den].toArray, .agg [.int .i64 y.2.1.Num, .int .i64 y.2.1.Den].toArray, .int .i64 y.2.2].toArray) H := by
 rw [F_frames_Cosine] at hF
 refine SC.ofM (N := 64) Try.func28 rfl rfl rfl fun w => ?_
 refine JC.seq (JC.region (by rfl) ?_)
 intro hQ
 refine JL.box (cs := [f__v0, .int .i64 f_.Low, .int .i64 f_.High, .int .i64 f_.Ease.Num, .int .i64 f_.Ease.Den, .int .i64 f_.Rod, .int .i64 f_.Case]) rfl .none rfl ?_
 intro b1
 refine JL.alloc ze_51 .none rfl ?_
 intro b2
 refine JL.alloc ze_51 .none rfl ?_
 intro b3
 refine JL.assign .none rfl ?_
 refine JL.done hQ (JQ.go (JC.seq (JC.seq (JC.region (by rfl) ?_))))
 intro hQ
 refine JL.loadOwn 2 az_53 rfl rfl rfl .none rfl ?_
 refine JL.move .none rfl ?_
 refine JL.move .none rfl ?_
 obtain ⟨y4, hy4, hF⟩ := bind_some hF
 refine JL.callS (c_frames_ask n H f_ f__v0 hf__0 section_ r y4 hy4) rfl en_73 .none rfl ?_
 refine JL.assign .none rfl ?_
 refine JL.done hQ (JQ.go (JC.seq (JC.region (by rfl) ?_)))
 intro hQ
 refine JL.move .none rfl ?_
 refine JL.bin rfl rfl rfl .none rfl ?_
 refine JL.done hQ (JQ.go ?_)
 rcases ite_some hF with ⟨hc5, hF⟩ | ⟨hc5, hF⟩
 ·refine JC.cond_t (b := (y4 != 0)) rfl hc5 ?_
  refine JC.seq (JC.region (by rfl) ?_)
  intro hQ
  refine JL.build (l := [.int .i64 0, .int .i64 0]) (by kernel_rfl) .none rfl ?_
  refine JL.build (l := [.int .i64 0, .int .i64 0]) (by kernel_rfl) .none rfl ?_
  refine JL.move .none rfl ?_
  refine JL.storeOwn 1 (cs := [.int .i64 0, .int .i64 0]) az_51 rfl rfl rfl (one_cons rfl (one_cons rfl one_nil)) rfl rfl .none ?_
  refine JL.storeOwn 0 (cs := [.int .i64 0, .int .i64 0]) az_51 rfl rfl rfl (one_cons rfl (one_cons rfl one_nil)) rfl rfl .none ?_
  refine JL.assign .none rfl ?_
  refine JL.done hQ (JQ.go (JC.fresh (fun f => f 6 = .pointer (some ⟨b2, 0, none⟩) ∧ f 7 = .pointer (some ⟨b3, 0, none⟩) ∧ f 8 = .int .i64 y4) ⟨rfl, rfl, rfl⟩ ?_))
  rintro f ⟨hf6, hf7, hf8⟩
  refine (JC.norm (i := 6) hf6 (JC.norm (i := 7) hf7 (JC.norm (i := 8) hf8 ?_)))
  refine JC.ret (JQ.ret_then ?_)
  obtain rfl := Option.some.inj hF
  exact JQ.outSM rfl .nil (.cell 1 az_51 rfl rfl rfl (.cell 0 az_51 rfl rfl rfl (.tmp .nil))) rfl
 ·refine JC.cond_f (b := (y4 != 0)) rfl hc5 ?_
  refine JC.skip (JQ.go (JC.fresh (fun f => f 1 = .int .i64 section_ ∧ f 2 = .int .i64 r ∧ f 3 = .pointer (some ⟨b1, 0, none⟩) ∧ f 6 = .pointer (some ⟨b2, 0, none⟩) ∧ f 7 = .pointer (some ⟨b3, 0, none⟩) ∧ f 8 = .int .i64 0) ⟨rfl, rfl, rfl, rfl, rfl, rfl⟩ ?_))
  rintro f ⟨hf1, hf2, hf3, hf6, hf7, hf8⟩
  refine (JC.norm (i := 1) hf1 (JC.norm (i := 2) hf2 (JC.norm (i := 3) hf3 (JC.norm (i := 6) hf6 (JC.norm (i := 7) hf7 (JC.norm (i := 8) hf8 ?_))))))
  refine JC.seq (JC.region (by rfl) ?_)
  intro hQ
  refine JL.loadOwn 2 az_53 rfl rfl rfl .none rfl ?_
  refine JL.move .none rfl ?_
  refine JL.move .none rfl ?_
  obtain ⟨y6, hy6, hF⟩ := bind_some hF
  refine JL.callS (c_frames_distance n H f_ f__v0 hf__0 section_ r y6 hy6) rfl en_74 .none rfl ?_
  refine JL.alloc ze_3 .none rfl ?_
  intro b7
  refine JL.storeOwn 0 (cs := [.int .i64 y6]) az_3 rfl rfl rfl (one_cons rfl one_nil) rfl rfl .none ?_
  refine JL.done hQ (JQ.go (JC.seq (JC.seq (JC.region (by rfl) ?_))))
  intro hQ
  refine JL.loadOwn 0 az_3 rfl rfl rfl .none rfl ?_
  refine JL.bin rfl rfl rfl .none rfl ?_
  refine JL.done hQ (JQ.go ?_)
  rcases ite_some hF with ⟨hc8, hF⟩ | ⟨hc8, hF⟩
  ·refine JC.cond_t (b := (y6 == 0)) rfl hc8 ?_
   refine JC.seq (JC.region (by rfl) ?_)
   intro hQ
   refine JL.build (l := [.int .i64 0, .int .i64 0]) (by kernel_rfl) .none rfl ?_
   refine JL.build (l := [.int .i64 0, .int .i64 0]) (by kernel_rfl) .none rfl ?_
   refine JL.storeOwn 2 (cs := [.int .i64 0, .int .i64 0]) az_51 rfl rfl rfl (one_cons rfl (one_cons rfl one_nil)) rfl rfl .none ?_
   refine JL.storeOwn 1 (cs := [.int .i64 0, .int .i64 0]) az_51 rfl rfl rfl (one_cons rfl (one_cons rfl one_nil)) rfl rfl .none ?_
   refine JL.assign .none rfl ?_
   refine JL.done hQ (JQ.go (JC.fresh (fun f => f 6 = .pointer (some ⟨b2, 0, none⟩) ∧ f 7 = .pointer (some ⟨b3, 0, none⟩) ∧ f 8 = .int .i64 3) ⟨rfl, rfl, rfl⟩ ?_))
   rintro f ⟨hf6, hf7, hf8⟩
   refine (JC.norm (i := 6) hf6 (JC.norm (i := 7) hf7 (JC.norm (i := 8) hf8 ?_)))
   refine JC.ret (JQ.ret_then ?_)
   obtain rfl := Option.some.inj hF
   exact JQ.outSM rfl .nil (.cell 2 az_51 rfl rfl rfl (.cell 1 az_51 rfl rfl rfl (.tmp .nil))) rfl
  ·refine JC.cond_f (b := (y6 == 0)) rfl hc8 ?_
   refine JC.skip (JQ.go (JC.seq (JC.seq (JC.region (by rfl) ?_))))
   intro hQ
   refine JL.fieldAddr fo_53_0 rfl .none rfl ?_
   refine JL.loadOwn 3 az_49 rfl rfl rfl .none rfl ?_
   refine JL.move .none rfl ?_
   obtain ⟨y9, hy9, hF⟩ := bind_some hF
   refine JL.indexSL (R := R_Section) sl_49 hf__0 rfl hy9 .none rfl ?_
   rintro b10 o11 cs12 hc13 - rfl
   refine JL.loadH 0 az_68 rfl hc13 rfl .none rfl ?_
   obtain ⟨y14, hy14, hF⟩ := bind_some hF
   refine JL.callH (c_frames_truths n H y9 y14 hy14) rfl en_75 .none rfl ?_
   rintro H15 vv16 hs15 ⟨y14_b0, rfl, hy14_b0⟩
   refine JL.done hQ (JQ.go (JC.fresh (fun f => f 6 = .pointer (some ⟨b2, 0, none⟩) ∧ f 7 = .pointer (some ⟨b3, 0, none⟩) ∧ f 8 = .int .i64 0 ∧ f 10 = .pointer (some ⟨b7, 0, none⟩) ∧ f 35 = .func (.func 125) #[] [.pointer (some ⟨y14_b0, 0, none⟩)].toArray) ⟨rfl, rfl, rfl, rfl, rfl⟩ ?_))
   rintro f ⟨hf6, hf7, hf8, hf10, hf35⟩
   refine (JC.norm (i := 6) hf6 (JC.norm (i := 7) hf7 (JC.norm (i := 8) hf8 (JC.norm (i := 10) hf10 (JC.norm (i := 35) hf35 ?_)))))
   refine JC.block ?_
   obtain ⟨r87, hl88, hF⟩ := bind_some hF
   refine JC.mask [true, true, true, false] [] ?_
   refine JC.rangeFunc (ρ := Unit) (V := (VPlain fun (x : frames_sides) => .agg [.int .i64 x.arm, .int .i64 x.stretch].toArray)) (F := fun _ _ step s => I_frames_truths_1 n y14 step s) rfl en_125 (it_frames_truths_1 n H15 y14 y14_b0 hy14_b0) rfl hl88 (fun (z : Int × Int × Int × Int) H86 fr gs => match z with | (z_82, z_83, z_84, z_85) => fr = [(b7, .cells [.int .i64 y6].toArray 3), (b3, .cells [.int .i64 z_82, .int .i64 z_83].toArray 51), (b2, .cells [.int .i64 z_84, .int .i64 z_85].toArray 51)] ∧ gs = [] ∧ HSub H15 H86) (fun _ _ _ _ _ => False) ⟨rfl, rfl, (HSub.refl _)⟩ ?_ ?_ ?_
   ·rintro l18 ⟨z_82, z_83, z_84, z_85⟩ x17 y89 v19 own T20 H86 fr gs ⟨rfl, rfl, hs86⟩ hF ⟨rfl, rfl⟩ -
    rw [F_frames_Cosine_s1] at hF
    refine JC.region (by rfl) ?_
    intro hQ
    refine JL.alloc ze_147 .none rfl ?_
    intro b90
    refine JL.storeOwn 0 (cs := [.int .i64 x17.arm, .int .i64 x17.stretch]) az_147 rfl rfl rfl (one_cons rfl (one_cons rfl one_nil)) rfl rfl .none ?_
    refine JL.done hQ (JQ.assigned [(b90, .cells [.int .i64 x17.arm, .int .i64 x17.stretch].toArray 147), (b7, .cells [.int .i64 y6].toArray 3), (b3, .cells [.int .i64 z_82, .int .i64 z_83].toArray 51), (b2, .cells [.int .i64 z_84, .int .i64 z_85].toArray 51)] (fun T21 => ?_))
    refine JC.block (JC.seq (JC.region (by rfl) ?_))
    intro hQ
    refine JL.loadOwn 0 az_147 rfl rfl rfl .none rfl ?_
    refine JL.loadOwn 1 az_3 rfl rfl rfl .none rfl ?_
    obtain ⟨y91, hy91, hF⟩ := bind_some hF
    refine JL.callS (c_frames_sides_cosine n H86 x17 y6 y91 hy91) rfl en_76 .none rfl ?_
    refine JL.alloc ze_51 .none rfl ?_
    intro b92
    refine JL.storeOwn 0 (cs := [.int .i64 y91.Num, .int .i64 y91.Den]) az_51 rfl rfl rfl (one_cons rfl (one_cons rfl one_nil)) rfl rfl .none ?_
    refine JL.done hQ (JQ.go (JC.seq (JC.seq (JC.region (by rfl) ?_))))
    intro hQ
    refine JL.fieldAddr fo_51_1 rfl .none rfl ?_
    refine JL.loadOwn 4 az_3 rfl rfl rfl .none rfl ?_
    refine JL.bin rfl rfl rfl .none rfl ?_
    refine JL.move .none rfl ?_
    obtain ⟨p94, hp94, hF⟩ := bind_some hF
    refine JL.cut 5 (fun f => f 6 = .pointer (some ⟨b2, 0, none⟩) ∧ f 7 = .pointer (some ⟨b3, 0, none⟩) ∧ f 12 = .pointer (some ⟨b92, 0, none⟩) ∧ f 48 = .bool p94) ?_ ?_
    ·intro hJ95
     rcases ite_some hp94 with ⟨hc96, hF⟩ | ⟨hc96, hF⟩
     ·skip
      refine JL.skip (.bool rfl rfl rfl hc96) rfl ?_
      refine JL.skip (.bool rfl rfl rfl hc96) rfl ?_
      refine JL.skip (.bool rfl rfl rfl hc96) rfl ?_
      refine JL.skip (.bool rfl rfl rfl hc96) rfl ?_
      refine JL.pick_t (b := (z_85 == 0)) rfl hc96 .none rfl ?_
      obtain rfl := Option.some.inj hF
      exact hJ95 _ ⟨rfl, rfl, rfl, rfl⟩
     ·skip
      refine JL.loadOwn 0 az_51 rfl rfl rfl (.some rfl rfl rfl hc96) rfl ?_
      refine JL.loadOwn 4 az_51 rfl rfl rfl (.some rfl rfl rfl hc96) rfl ?_
      obtain ⟨y97, hy97, hF⟩ := bind_some hF
      refine JL.callS (c_frames_compare n H86 y91 (Frac.mk z_84 z_85) y97 hy97) rfl en_77 (.some rfl rfl rfl hc96) rfl ?_
      refine JL.bin rfl rfl rfl (.some rfl rfl rfl hc96) rfl ?_
      refine JL.pick_f (b := (z_85 == 0)) rfl hc96 .none rfl ?_
      obtain rfl := Option.some.inj hF
      exact hJ95 _ ⟨rfl, rfl, rfl, rfl⟩
    ·rintro f ⟨hf6, hf7, hf12, hf48⟩
     refine (JL.norm (i := 6) hf6 (JL.norm (i := 7) hf7 (JL.norm (i := 12) hf12 (JL.norm (i := 48) hf48 ?_))))
     refine JL.done hQ (JQ.go ?_)
     obtain ⟨r102, hlr102, hKr102⟩ := bind_some hF
     refine JC.join (fun (x : Int × Int) H101 f bs gs => match x with | (z_99, z_100) => f 7 = .pointer (some ⟨b3, 0, none⟩) ∧ f 12 = .pointer (some ⟨b92, 0, none⟩) ∧ bs = ((b92, .cells [.int .i64 y91.Num, .int .i64 y91.Den].toArray 51) :: (b7, .cells [.int .i64 y6].toArray 3) :: (b3, .cells [.int .i64 z_82, .int .i64 z_83].toArray 51) :: (b2, .cells [.int .i64 z_99, .int .i64 z_100].toArray 51) :: T21) ∧ gs = [] ∧ HSub H86 H101 ∧ (z_99, z_100) = r102) ?_ ?_
     ·have hF := hlr102
      rcases ite_some hF with ⟨hc103, hF⟩ | ⟨hc103, hF⟩
      ·refine JC.cond_t (b := p94) rfl hc103 ?_
       refine JC.region (by rfl) ?_
       intro hQ
       refine JL.loadOwn 0 az_51 rfl rfl rfl .none rfl ?_
       refine JL.storeOwn 4 (cs := [.int .i64 y91.Num, .int .i64 y91.Den]) az_51 rfl rfl rfl (one_cons rfl (one_cons rfl one_nil)) rfl rfl .none ?_
       refine JL.done hQ ?_
       obtain rfl := Option.some.inj hF
       refine JQ.mask [true, false, true, true, true] [] ?_
       exact JQ.join (y91.Num, y91.Den) ⟨rfl, rfl, rfl, rfl, (HSub.refl _), rfl⟩
      ·refine JC.cond_f (b := p94) rfl hc103 ?_
       refine JC.skip ?_
       obtain rfl := Option.some.inj hF
       refine JQ.mask [true, false, true, true, true] [] ?_
       exact JQ.join (z_84, z_85) ⟨rfl, rfl, rfl, rfl, (HSub.refl _), rfl⟩
     ·rintro ⟨z_99, z_100⟩ H101 f bs gs ⟨hf7, hf12, rfl, rfl, hs101, rfl⟩
      have hF := hKr102
      try dsimp only at hF
      refine (JQ.norm (i := 7) hf7 (JQ.norm (i := 12) hf12 ?_))
      refine JQ.go (JC.seq (JC.region (by rfl) ?_))
      intro hQ
      refine JL.fieldAddr fo_51_1 rfl .none rfl ?_
      refine JL.loadOwn 2 az_3 rfl rfl rfl .none rfl ?_
      refine JL.bin rfl rfl rfl .none rfl ?_
      refine JL.move .none rfl ?_
      obtain ⟨p105, hp105, hF⟩ := bind_some hF
      refine JL.cut 5 (fun f => f 7 = .pointer (some ⟨b3, 0, none⟩) ∧ f 12 = .pointer (some ⟨b92, 0, none⟩) ∧ f 58 = .bool p105) ?_ ?_
      ·intro hJ106
       rcases ite_some hp105 with ⟨hc107, hF⟩ | ⟨hc107, hF⟩
       ·skip
        refine JL.skip (.bool rfl rfl rfl hc107) rfl ?_
        refine JL.skip (.bool rfl rfl rfl hc107) rfl ?_
        refine JL.skip (.bool rfl rfl rfl hc107) rfl ?_
        refine JL.skip (.bool rfl rfl rfl hc107) rfl ?_
        refine JL.pick_t (b := (z_83 == 0)) rfl hc107 .none rfl ?_
        obtain rfl := Option.some.inj hF
        exact hJ106 _ ⟨rfl, rfl, rfl⟩
       ·skip
        refine JL.loadOwn 0 az_51 rfl rfl rfl (.some rfl rfl rfl hc107) rfl ?_
        refine JL.loadOwn 2 az_51 rfl rfl rfl (.some rfl rfl rfl hc107) rfl ?_
        obtain ⟨y108, hy108, hF⟩ := bind_some hF
        refine JL.callS (c_frames_compare n H101 y91 (Frac.mk z_82 z_83) y108 hy108) rfl en_77 (.some rfl rfl rfl hc107) rfl ?_
        refine JL.bin rfl rfl rfl (.some rfl rfl rfl hc107) rfl ?_
        refine JL.pick_f (b := (z_83 == 0)) rfl hc107 .none rfl ?_
        obtain rfl := Option.some.inj hF
        exact hJ106 _ ⟨rfl, rfl, rfl⟩
      ·rintro f ⟨hf7, hf12, hf58⟩
       refine (JL.norm (i := 7) hf7 (JL.norm (i := 12) hf12 (JL.norm (i := 58) hf58 ?_)))
       refine JL.done hQ (JQ.go ?_)
       obtain ⟨r113, hlr113, hKr113⟩ := bind_some hF
       refine JC.join (fun (x : Int × Int) H112 f bs gs => match x with | (z_110, z_111) => bs = ((b7, .cells [.int .i64 y6].toArray 3) :: (b3, .cells [.int .i64 z_110, .int .i64 z_111].toArray 51) :: (b2, .cells [.int .i64 z_99, .int .i64 z_100].toArray 51) :: T21) ∧ gs = [] ∧ HSub H101 H112 ∧ (z_110, z_111) = r113) ?_ ?_
       ·have hF := hlr113
        rcases ite_some hF with ⟨hc114, hF⟩ | ⟨hc114, hF⟩
        ·refine JC.cond_t (b := p105) rfl hc114 ?_
         refine JC.region (by rfl) ?_
         intro hQ
         refine JL.loadOwn 0 az_51 rfl rfl rfl .none rfl ?_
         refine JL.storeOwn 2 (cs := [.int .i64 y91.Num, .int .i64 y91.Den]) az_51 rfl rfl rfl (one_cons rfl (one_cons rfl one_nil)) rfl rfl .none ?_
         refine JL.done hQ ?_
         obtain rfl := Option.some.inj hF
         refine JQ.mask [false, true, true, true] [] ?_
         exact JQ.join (y91.Num, y91.Den) ⟨rfl, rfl, (HSub.refl _), rfl⟩
        ·refine JC.cond_f (b := p105) rfl hc114 ?_
         refine JC.skip ?_
         obtain rfl := Option.some.inj hF
         refine JQ.mask [false, true, true, true] [] ?_
         exact JQ.join (z_82, z_83) ⟨rfl, rfl, (HSub.refl _), rfl⟩
       ·rintro ⟨z_110, z_111⟩ H112 f bs gs ⟨rfl, rfl, hs112, rfl⟩
        have hF := hKr113
        try dsimp only at hF
        refine JQ.normal_block ?_
        obtain rfl := Option.some.inj hF
        refine JQ.round rfl [(b7, .cells [.int .i64 y6].toArray 3), (b3, .cells [.int .i64 z_110, .int .i64 z_111].toArray 51), (b2, .cells [.int .i64 z_99, .int .i64 z_100].toArray 51)] (HSub.trans hs101 hs112) ?_
        exact ⟨rfl, rfl, (HSub.trans hs86 (HSub.trans hs101 hs112))⟩
   ·rintro D115 ⟨z_82, z_83, z_84, z_85⟩ H86 fr gs rfl ⟨rfl, rfl, hs86⟩ -
    try dsimp only at hF
    refine JQ.normal_block (JQ.go (JC.seq ?_))
    obtain ⟨y118, hy118, hF⟩ := bind_some hF
    obtain ⟨y119, hy119, hF⟩ := bind_some hF
    refine JC.mixed 4 7 #[false, false, false, false, false, false, false] [(b7, .cells [.int .i64 y6].toArray 3), (b3, .cells [.int .i64 z_82, .int .i64 z_83].toArray 51), (b2, .cells [.int .i64 z_84, .int .i64 z_85].toArray 51), (D115, .deferred (some []))] (by rfl) mo_ (by kernel_rfl) (by kernel_rfl) ?_
    intro hQ hE
    refine JA.cut 4 #[true, true, true, false, false, false, false] (fun H120 f bs gs => f 6 = .pointer (some ⟨b2, 0, none⟩) ∧ f 7 = .pointer (some ⟨b3, 0, none⟩) ∧ f 8 = .int .i64 0 ∧ f 61 = .agg [.int .i64 y118.Num, .int .i64 y118.Den].toArray ∧ f 62 = .agg [.int .i64 z_82, .int .i64 z_83].toArray ∧ bs = [(b7, .cells [.int .i64 y6].toArray 3), (b3, .cells [.int .i64 z_82, .int .i64 z_83].toArray 51), (b2, .cells [.int .i64 z_84, .int .i64 z_85].toArray 51), (D115, .deferred (some []))] ∧ gs = [] ∧ HSub H86 H120) ?_ ?_
    ·rintro H120 f bs gs ⟨hf6, hf7, hf8, hf61, hf62, rfl, rfl, hs120⟩
     refine (JA.norm (i := 6) hf6 (JA.norm (i := 7) hf7 (JA.norm (i := 8) hf8 (JA.norm (i := 61) hf61 (JA.norm (i := 62) hf62 ?_)))))
     refine JA.many [3] (by kernel_rfl) (by simp) (all_one ⟨_, #[true, true, true, true, false, false, false], rfl, (by kernel_rfl), ?_⟩)
     refine JL.callS (c_frames_reduced n H120 (Frac.mk z_82 z_83) y119 hy119) rfl en_78 .none rfl ?_
     refine JA.after hE hs120 (.cons_cons _ (.cons_cons _ (.cons_cons _ (.cons_cons _ (List.nil_sublist _))))) ?_
     refine JA.many [4] (by kernel_rfl) (by simp) (all_one ⟨_, #[true, true, true, true, true, false, false], rfl, (by kernel_rfl), ?_⟩)
     refine JL.storeOwn 2 (cs := [.int .i64 y118.Num, .int .i64 y118.Den]) az_51 rfl rfl rfl (one_cons rfl (one_cons rfl one_nil)) rfl rfl .none ?_
     refine JA.sink (by kernel_rfl) ?_
     refine JA.many [5] (by kernel_rfl) (by simp) (all_one ⟨_, #[true, true, true, true, true, true, false], rfl, (by kernel_rfl), ?_⟩)
     refine JL.storeOwn 1 (cs := [.int .i64 y119.Num, .int .i64 y119.Den]) az_51 rfl rfl rfl (one_cons rfl (one_cons rfl one_nil)) rfl rfl .none ?_
     refine JA.sink (by kernel_rfl) ?_
     refine JA.many [6] (by kernel_rfl) (by simp) (all_one ⟨_, #[true, true, true, true, true, true, true], rfl, (by kernel_rfl), ?_⟩)
     refine JL.assign .none rfl ?_
     refine JA.sink (by kernel_rfl) ?_
     refine JA.done hQ (by kernel_rfl) ?_
     refine JQ.go (JC.ret ?_)
     obtain rfl := Option.some.inj hF
     exact JQ.outSM rfl (.cons 3 rfl .nil) (.cell 2 az_51 rfl rfl rfl (.cell 1 az_51 rfl rfl rfl (.tmp .nil))) rfl
    intro nd119_0
    refine JA.take 0 (listed' := #[true, false, false, false, false, false, false]) hQ rfl (by kernel_rfl) (by kernel_rfl) (by kernel_rfl) (by kernel_rfl) (by kernel_rfl) hE (HSub.refl _) (.cons_cons _ (.cons_cons _ (.cons_cons _ (.cons_cons _ (List.nil_sublist _))))) ?_
    refine JL.loadOwn 2 az_51 rfl rfl rfl .none rfl ?_
    refine JA.cont ?_
    refine JA.many [1, 2] (by kernel_rfl) (by simp) (all_cons ⟨_, #[true, true, false, false, false, false, false], rfl, (by kernel_rfl), ?_⟩ (all_one ⟨_, #[true, false, true, false, false, false, false], rfl, (by kernel_rfl), ?_⟩))
    ·skip
     refine JL.callS (c_frames_reduced n H86 (Frac.mk z_84 z_85) y118 hy118) rfl en_78 .none rfl ?_
     refine JA.after hE (HSub.refl _) (.cons_cons _ (.cons_cons _ (.cons_cons _ (.cons_cons _ (List.nil_sublist _))))) ?_
     refine JA.many [2] (by kernel_rfl) (by simp) (all_one ⟨_, #[true, true, true, false, false, false, false], rfl, (by kernel_rfl), ?_⟩)
     refine JL.loadOwn 1 az_51 rfl rfl rfl .none rfl ?_
     refine JA.after hE (HSub.refl _) (.cons_cons _ (.cons_cons _ (.cons_cons _ (.cons_cons _ (List.nil_sublist _))))) ?_
     exact nd119_0 _ _ _ _ ⟨rfl, rfl, rfl, rfl, rfl, rfl, rfl, (HSub.refl _)⟩
    ·skip
     refine JL.loadOwn 1 az_51 rfl rfl rfl .none rfl ?_
     refine JA.after hE (HSub.refl _) (.cons_cons _ (.cons_cons _ (.cons_cons _ (.cons_cons _ (List.nil_sublist _))))) ?_
     refine JA.many [1] (by kernel_rfl) (by simp) (all_one ⟨_, #[true, true, true, false, false, false, false], rfl, (by kernel_rfl), ?_⟩)
     refine JL.callS (c_frames_reduced n H86 (Frac.mk z_84 z_85) y118 hy118) rfl en_78 .none rfl ?_
     refine JA.after hE (HSub.refl _) (.cons_cons _ (.cons_cons _ (.cons_cons _ (.cons_cons _ (List.nil_sublist _))))) ?_
     exact nd119_0 _ _ _ _ ⟨rfl, rfl, rfl, rfl, rfl, rfl, rfl, (HSub.refl _)⟩
   ·rintro _ _ _ _ _ _ _ h; exact h.elim
-- 142 ferrule/gusts.down
def F_gusts_down (n : Nat) (a : Int) (b : Int) : Option Int :=
 (nz b).bind fun _ => (nz b).bind fun _ => (if decide ((a.tmod b) < 0) = true then (some (w64 ((w64 (a.tdiv b)) - 1))) else (some (w64 (a.tdiv b)))).bind fun q_4 => some q_4
theorem c_gusts_down (n : Nat) (H : Hp) (a : Int) (b : Int) (y : Int) (hF : F_gusts_down n a b = some y) : SC Try.prog 142 [.int .i64 a, .int .i64 b] (.int .i64 y) H := by
 rw [F_gusts_down] at hF
 refine SC.of (N := 16) Try.func142 rfl rfl rfl fun w => ?_
 refine JC.seq (JC.region (by rfl) ?_)
 intro hQ
 refine JL.assign .none rfl ?_
 refine JL.done hQ (JQ.go (JC.seq (JC.region (by rfl) ?_)))
 intro hQ
 refine JL.move .none rfl ?_
 refine JL.move .none rfl ?_
 obtain ⟨u1, hu1, hF⟩ := bind_some hF
 refine JL.div rfl rfl (nz_some hu1) rfl .none rfl ?_
 refine JL.assign .none rfl ?_
 refine JL.done hQ (JQ.go (JC.seq (JC.seq (JC.region (by rfl) ?_))))
 intro hQ
 refine JL.move .none rfl ?_
 refine JL.move .none rfl ?_
 obtain ⟨u2, hu2, hF⟩ := bind_some hF
 refine JL.div rfl rfl (nz_some hu2) rfl .none rfl ?_
 refine JL.bin rfl rfl rfl .none rfl ?_
 refine JL.done hQ (JQ.go ?_)
 obtain ⟨r6, hlr6, hKr6⟩ := bind_some hF
 refine JC.join (fun (q_4 : Int) H5 f bs gs => f 5 = .int .i64 q_4 ∧ bs = [] ∧ gs = [] ∧ HSub H H5 ∧ q_4 = r6) ?_ ?_
 ·have hF := hlr6
  rcases ite_some hF with ⟨hc7, hF⟩ | ⟨hc7, hF⟩
  ·refine JC.cond_t (b := decide ((a.tmod b) < 0)) rfl hc7 ?_
   refine JC.region (by rfl) ?_
   intro hQ
   refine JL.move .none rfl ?_
   refine JL.bin rfl rfl rfl .none rfl ?_
   refine JL.assign .none rfl ?_
   refine JL.done hQ ?_
   obtain rfl := Option.some.inj hF
   exact JQ.join (w64 ((w64 (a.tdiv b)) - 1)) ⟨rfl, rfl, rfl, (HSub.refl _), rfl⟩
  ·refine JC.cond_f (b := decide ((a.tmod b) < 0)) rfl hc7 ?_
   refine JC.skip ?_
   obtain rfl := Option.some.inj hF
   exact JQ.join (w64 (a.tdiv b)) ⟨rfl, rfl, rfl, (HSub.refl _), rfl⟩
 ·rintro q_4 H5 f bs gs ⟨hf5, rfl, rfl, hs5, rfl⟩
  have hF := hKr6
  try dsimp only at hF
  refine (JQ.norm (i := 5) hf5 ?_)
  refine JQ.go (JC.seq (JC.region (by rfl) ?_))
  intro hQ
  refine JL.move .none rfl ?_
  refine JL.assign .none rfl ?_
  refine JL.done hQ (JQ.go (JC.ret ?_))
  obtain rfl := Option.some.inj hF
  exact JQ.outS rfl (.tmp .nil) rfl
-- 141 ferrule/gusts.lift$1
def F_gusts_lift_1 (n : Nat) (c : Frac) : Option Int :=
 (F_gusts_down n (w64 (100 * c.Num)) c.Den).bind fun y2 => some (min 200 (max 0 (w64 (100 + y2))))
theorem c_gusts_lift_1 (n : Nat) (H : Hp) (c : Frac) (y : Int) (hF : F_gusts_lift_1 n c = some y) : SC Try.prog 141 [.agg [.int .i64 c.Num, .int .i64 c.Den].toArray] (.int .i64 y) H := by
 rw [F_gusts_lift_1] at hF
 refine SC.of (N := 12) Try.func141 rfl rfl rfl fun w => ?_
 refine JC.seq (JC.region (by rfl) ?_)
 intro hQ
 refine JL.box (cs := [.int .i64 c.Num, .int .i64 c.Den]) rfl .none rfl ?_
 intro b1
 refine JL.assign .none rfl ?_
 refine JL.done hQ (JQ.go (JC.seq (JC.region (by rfl) ?_)))
 intro hQ
 refine JL.fieldAddr fo_51_0 rfl .none rfl ?_
 refine JL.loadOwn 0 az_3 rfl rfl rfl .none rfl ?_
 refine JL.bin rfl rfl rfl .none rfl ?_
 refine JL.fieldAddr fo_51_1 rfl .none rfl ?_
 refine JL.loadOwn 0 az_3 rfl rfl rfl .none rfl ?_
 obtain ⟨y2, hy2, hF⟩ := bind_some hF
 refine JL.callS (c_gusts_down n H (w64 (100 * c.Num)) c.Den y2 hy2) rfl en_142 .none rfl ?_
 refine JL.bin rfl rfl rfl .none rfl ?_
 refine JL.max rfl rfl .none rfl ?_
 refine JL.min rfl rfl .none rfl ?_
 refine JL.assign .none rfl ?_
 refine JL.done hQ (JQ.go (JC.ret ?_))
 obtain rfl := Option.some.inj hF
 exact JQ.outS rfl (.tmp .nil) rfl
-- 85 ferrule/gusts.lift
def F_gusts_lift (n : Nat) (d : Canopy) : Option Span :=
 (F_frames_Cosine n d.Frame 0 d.Frame.Low).bind fun y3 => (F_gusts_lift_1 n y3.1).bind fun y8 => (F_gusts_lift_1 n y3.2.1).bind fun y9 => some (Span.mk y8 y9)
theorem c_gusts_lift (n : Nat) (H : Hp) (d : Canopy) (d_v0 : Value) (hd_0 : SL H 7 R_Section d_v0 d.Frame.Sections) (d_v7 : Value) (hd_7 : SL H 2 R_Span d_v7 d.Ribs) (d_v8 : Value) (hd_8 : SL H 1 RInt d_v8 d.Shares) (y : Span) (hF : F_gusts_lift n d = some y) : SC Try.prog 85 [.agg [d_v0, .int .i64 d.Frame.Low, .int .i64 d.Frame.High, .int .i64 d.Frame.Ease.Num, .int .i64 d.Frame.Ease.Den, .int .i64 d.Frame.Rod, .int .i64 d.Frame.Case, d_v7, d_v8].toArray] (.agg [.int .i64 y.Low, .int .i64 y.High].toArray) H := by
 rw [F_gusts_lift] at hF
 refine SC.of (N := 24) Try.func85 rfl rfl rfl fun w => ?_
 refine JC.seq (JC.region (by rfl) ?_)
 intro hQ
 refine JL.box (cs := [d_v0, .int .i64 d.Frame.Low, .int .i64 d.Frame.High, .int .i64 d.Frame.Ease.Num, .int .i64 d.Frame.Ease.Den, .int .i64 d.Frame.Rod, .int .i64 d.Frame.Case, d_v7, d_v8]) rfl .none rfl ?_
 intro b1
 refine JL.alloc ze_39 .none rfl ?_
 intro b2
 refine JL.done hQ (JQ.go (JC.seq (JC.region (by rfl) ?_)))
 intro hQ
 refine JL.fieldAddr fo_76_0 rfl .none rfl ?_
 refine JL.loadOwn 1 az_53 rfl rfl rfl .none rfl ?_
 refine JL.fieldAddr fo_76_0 rfl .none rfl ?_
 refine JL.fieldAddr fo_53_1 rfl .none rfl ?_
 refine JL.loadOwn 1 az_3 rfl rfl rfl .none rfl ?_
 obtain ⟨y3, hy3, hF⟩ := bind_some hF
 refine JL.callS (c_frames_Cosine n H d.Frame d_v0 hd_0 0 d.Frame.Low y3 hy3) rfl en_28 .none rfl ?_
 refine JL.move .none rfl ?_
 refine JL.extract rfl rfl .none rfl ?_
 refine JL.extract rfl rfl .none rfl ?_
 refine JL.extract rfl rfl .none rfl ?_
 refine JL.alloc ze_51 .none rfl ?_
 intro b4
 refine JL.alloc ze_51 .none rfl ?_
 intro b5
 refine JL.storeOwn 1 (cs := [.int .i64 y3.1.Num, .int .i64 y3.1.Den]) az_51 rfl rfl rfl (one_cons rfl (one_cons rfl one_nil)) rfl rfl .none ?_
 refine JL.storeOwn 0 (cs := [.int .i64 y3.2.1.Num, .int .i64 y3.2.1.Den]) az_51 rfl rfl rfl (one_cons rfl (one_cons rfl one_nil)) rfl rfl .none ?_
 refine JL.assign .none rfl ?_
 refine JL.done hQ (JQ.go (JC.fresh (fun f => f 2 = .pointer (some ⟨b2, 0, none⟩) ∧ f 3 = .pointer (some ⟨b4, 0, none⟩) ∧ f 4 = .pointer (some ⟨b5, 0, none⟩)) ⟨rfl, rfl, rfl⟩ ?_))
 rintro f ⟨hf2, hf3, hf4⟩
 refine (JC.norm (i := 2) hf2 (JC.norm (i := 3) hf3 (JC.norm (i := 4) hf4 ?_)))
 refine JC.seq (JC.region (by rfl) ?_)
 intro hQ
 refine JL.assign .none rfl ?_
 refine JL.done hQ (JQ.go (JC.seq ?_))
 obtain ⟨y8, hy8, hF⟩ := bind_some hF
 obtain ⟨y9, hy9, hF⟩ := bind_some hF
 refine JC.mixed 7 8 #[false, false, false, false, false, false, false, false] [(b5, .cells [.int .i64 y3.2.1.Num, .int .i64 y3.2.1.Den].toArray 51), (b4, .cells [.int .i64 y3.1.Num, .int .i64 y3.1.Den].toArray 51), (b2, .cells [.int .i64 0, .int .i64 0].toArray 39), (b1, .cells [d_v0, .int .i64 d.Frame.Low, .int .i64 d.Frame.High, .int .i64 d.Frame.Ease.Num, .int .i64 d.Frame.Ease.Den, .int .i64 d.Frame.Rod, .int .i64 d.Frame.Case, d_v7, d_v8].toArray 76)] (by rfl) mo_ (by kernel_rfl) (by kernel_rfl) ?_
 intro hQ hE
 refine JA.take 0 (listed' := #[true, false, false, false, false, false, false, false]) hQ rfl (by kernel_rfl) (by kernel_rfl) (by kernel_rfl) (by kernel_rfl) (by kernel_rfl) hE (HSub.refl _) (.cons_cons _ (.cons_cons _ (.cons_cons _ (.cons_cons _ (List.nil_sublist _))))) ?_
 refine JL.move .none rfl ?_
 refine JA.cont ?_
 refine JA.take 1 (listed' := #[true, true, false, false, false, false, false, false]) hQ rfl (by kernel_rfl) (by kernel_rfl) (by kernel_rfl) (by kernel_rfl) (by kernel_rfl) hE (HSub.refl _) (.cons_cons _ (.cons_cons _ (.cons_cons _ (.cons_cons _ (List.nil_sublist _))))) ?_
 refine JL.loadOwn 1 az_51 rfl rfl rfl .none rfl ?_
 refine JA.cont ?_
 refine JA.take 3 (listed' := #[true, true, false, true, false, false, false, false]) hQ rfl (by kernel_rfl) (by kernel_rfl) (by kernel_rfl) (by kernel_rfl) (by kernel_rfl) hE (HSub.refl _) (.cons_cons _ (.cons_cons _ (.cons_cons _ (.cons_cons _ (List.nil_sublist _))))) ?_
 refine JL.move .none rfl ?_
 refine JA.cont ?_
 refine JA.take 4 (listed' := #[true, true, false, true, true, false, false, false]) hQ rfl (by kernel_rfl) (by kernel_rfl) (by kernel_rfl) (by kernel_rfl) (by kernel_rfl) hE (HSub.refl _) (.cons_cons _ (.cons_cons _ (.cons_cons _ (.cons_cons _ (List.nil_sublist _))))) ?_
 refine JL.loadOwn 0 az_51 rfl rfl rfl .none rfl ?_
 refine JA.cont ?_
 refine JA.many [2] (by kernel_rfl) (by simp) (all_one ⟨_, #[true, true, true, true, true, false, false, false], rfl, (by kernel_rfl), ?_⟩)
 refine JL.callV (caps := []) rfl (c_gusts_lift_1 n H y3.1 y8 hy8) rfl en_141 .none rfl ?_
 refine JA.after hE (HSub.refl _) (.cons_cons _ (.cons_cons _ (.cons_cons _ (.cons_cons _ (List.nil_sublist _))))) ?_
 refine JA.many [5] (by kernel_rfl) (by simp) (all_one ⟨_, #[true, true, true, true, true, true, false, false], rfl, (by kernel_rfl), ?_⟩)
 refine JL.callV (caps := []) rfl (c_gusts_lift_1 n H y3.2.1 y9 hy9) rfl en_141 .none rfl ?_
 refine JA.after hE (HSub.refl _) (.cons_cons _ (.cons_cons _ (.cons_cons _ (.cons_cons _ (List.nil_sublist _))))) ?_
 refine JA.take 6 (listed' := #[true, true, true, true, true, true, true, false]) hQ rfl (by kernel_rfl) (by kernel_rfl) (by kernel_rfl) (by kernel_rfl) (by kernel_rfl) hE (HSub.refl _) (.cons_cons _ (.cons_cons _ (.cons_cons _ (.cons_cons _ (List.nil_sublist _))))) ?_
 refine JL.build (l := [.int .i64 y8, .int .i64 y9]) (by kernel_rfl) .none rfl ?_
 refine JA.cont ?_
 refine JA.many [7] (by kernel_rfl) (by simp) (all_one ⟨_, #[true, true, true, true, true, true, true, true], rfl, (by kernel_rfl), ?_⟩)
 refine JL.storeOwn 2 (cs := [.int .i64 y8, .int .i64 y9]) az_39 rfl rfl rfl (one_cons rfl (one_cons rfl one_nil)) rfl rfl .none ?_
 refine JA.sink (by kernel_rfl) ?_
 refine JA.done hQ (by kernel_rfl) ?_
 refine JQ.go (JC.ret ?_)
 obtain rfl := Option.some.inj hF
 exact JQ.outS rfl (.cell 2 az_39 rfl rfl rfl .nil) rfl
-- 36 ferrule/gusts.Lift
def F_gusts_Lift (n : Nat) (d : Canopy) : Option (Span × Int) :=
 (F_gusts_Check n d).bind fun y3 => if (y3 != 0) = true then (some ((Span.mk 0 0), y3)) else ((F_gusts_lift n d).bind fun y5 => some (y5, 0))
theorem c_gusts_Lift (n : Nat) (H : Hp) (d : Canopy) (d_v0 : Value) (hd_0 : SL H 7 R_Section d_v0 d.Frame.Sections) (d_v7 : Value) (hd_7 : SL H 2 R_Span d_v7 d.Ribs) (d_v8 : Value) (hd_8 : SL H 1 RInt d_v8 d.Shares) (y : Span × Int) (hF : F_gusts_Lift n d = some y) : SC Try.prog 36 [.agg [d_v0, .int .i64 d.Frame.Low, .int .i64 d.Frame.High, .int .i64 d.Frame.Ease.Num, .int .i64 d.Frame.Ease.Den, .int .i64 d.Frame.Rod, .int .i64 d.Frame.Case, d_v7, d_v8].toArray] (.tuple [.agg [.int .i64 y.1.Low, .int .i64 y.1.High].toArray, .int .i64 y.2].toArray) H := by
 rw [F_gusts_Lift] at hF
 refine SC.of (N := 13) Try.func36 rfl rfl rfl fun w => ?_
 refine JC.seq (JC.region (by rfl) ?_)
 intro hQ
 refine JL.box (cs := [d_v0, .int .i64 d.Frame.Low, .int .i64 d.Frame.High, .int .i64 d.Frame.Ease.Num, .int .i64 d.Frame.Ease.Den, .int .i64 d.Frame.Rod, .int .i64 d.Frame.Case, d_v7, d_v8]) rfl .none rfl ?_
 intro b1
 refine JL.alloc ze_39 .none rfl ?_
 intro b2
 refine JL.assign .none rfl ?_
 refine JL.done hQ (JQ.go (JC.seq (JC.seq (JC.region (by rfl) ?_))))
 intro hQ
 refine JL.loadOwn 1 az_76 rfl rfl rfl .none rfl ?_
 obtain ⟨y3, hy3, hF⟩ := bind_some hF
 refine JL.callS (c_gusts_Check n H d d_v0 hd_0 d_v7 hd_7 d_v8 hd_8 y3 hy3) rfl en_84 .none rfl ?_
 refine JL.assign .none rfl ?_
 refine JL.done hQ (JQ.go (JC.seq (JC.region (by rfl) ?_)))
 intro hQ
 refine JL.move .none rfl ?_
 refine JL.bin rfl rfl rfl .none rfl ?_
 refine JL.done hQ (JQ.go ?_)
 rcases ite_some hF with ⟨hc4, hF⟩ | ⟨hc4, hF⟩
 ·refine JC.cond_t (b := (y3 != 0)) rfl hc4 ?_
  refine JC.seq (JC.region (by rfl) ?_)
  intro hQ
  refine JL.build (l := [.int .i64 0, .int .i64 0]) (by kernel_rfl) .none rfl ?_
  refine JL.move .none rfl ?_
  refine JL.storeOwn 0 (cs := [.int .i64 0, .int .i64 0]) az_39 rfl rfl rfl (one_cons rfl (one_cons rfl one_nil)) rfl rfl .none ?_
  refine JL.assign .none rfl ?_
  refine JL.done hQ (JQ.go (JC.ret (JQ.ret_then ?_)))
  obtain rfl := Option.some.inj hF
  exact JQ.outS rfl (.cell 0 az_39 rfl rfl rfl (.tmp .nil)) rfl
 ·refine JC.cond_f (b := (y3 != 0)) rfl hc4 ?_
  refine JC.skip (JQ.go (JC.seq (JC.region (by rfl) ?_)))
  intro hQ
  refine JL.loadOwn 1 az_76 rfl rfl rfl .none rfl ?_
  obtain ⟨y5, hy5, hF⟩ := bind_some hF
  refine JL.callS (c_gusts_lift n H d d_v0 hd_0 d_v7 hd_7 d_v8 hd_8 y5 hy5) rfl en_85 .none rfl ?_
  refine JL.storeOwn 0 (cs := [.int .i64 y5.Low, .int .i64 y5.High]) az_39 rfl rfl rfl (one_cons rfl (one_cons rfl one_nil)) rfl rfl .none ?_
  refine JL.assign .none rfl ?_
  refine JL.done hQ (JQ.go (JC.ret ?_))
  obtain rfl := Option.some.inj hF
  exact JQ.outS rfl (.cell 0 az_39 rfl rfl rfl (.tmp .nil)) rfl
-- 96 ferrule/ferrulelaw13.Example
def F_law13_Example (n : Nat)  : Option Run :=
 (F_law05_Example n).bind fun y2 => some (Run.mk y2 [(Blow.mk 0 (Span.mk 10 14)), (Blow.mk 0 (Span.mk 12 15)), (Blow.mk 3 (Span.mk 4 6))] [(Meter.mk 13 1), (Meter.mk 5 3)] 0)
theorem c_law13_Example (n : Nat) (H : Hp)  (y : Run) (hF : F_law13_Example n = some y) : HC Try.prog 96 [] H (fun H' v => ∃ ra_v0 ra_v7 ra_v8 ra_v9 ra_v10 : Value, v = .agg [ra_v0, .int .i64 y.Canopy.Frame.Low, .int .i64 y.Canopy.Frame.High, .int .i64 y.Canopy.Frame.Ease.Num, .int .i64 y.Canopy.Frame.Ease.Den, .int .i64 y.Canopy.Frame.Rod, .int .i64 y.Canopy.Frame.Case, ra_v7, ra_v8, ra_v9, ra_v10, .int .i64 y.Wrong].toArray ∧ SL H' 7 R_Section ra_v0 y.Canopy.Frame.Sections ∧ SL H' 2 R_Span ra_v7 y.Canopy.Ribs ∧ SL H' 1 RInt ra_v8 y.Canopy.Shares ∧ SL H' 3 R_Blow ra_v9 y.Blows ∧ SL H' 2 R_Meter ra_v10 y.Meters) := by
 rw [F_law13_Example] at hF
 refine HC.of (N := 13) Try.func96 rfl rfl rfl fun w => ?_
 refine JC.seq (JC.region (by rfl) ?_)
 intro hQ
 refine JL.alloc ze_90 .none rfl ?_
 intro b1
 refine JL.done hQ (JQ.go (JC.seq (JC.region (by rfl) ?_)))
 intro hQ
 obtain ⟨y2, hy2, hF⟩ := bind_some hF
 refine JL.callH (c_law05_Example n H y2 hy2) rfl en_83 .none rfl ?_
 rintro H3 vv4 hs3 ⟨y2a_v0, y2a_v7, y2a_v8, rfl, hy2a_0, hy2a_7, hy2a_8⟩
 refine JL.build (l := [.int .i64 10, .int .i64 14]) (by kernel_rfl) .none rfl ?_
 refine JL.build (l := [.int .i64 0, .int .i64 10, .int .i64 14]) (by kernel_rfl) .none rfl ?_
 refine JL.build (l := [.int .i64 12, .int .i64 15]) (by kernel_rfl) .none rfl ?_
 refine JL.build (l := [.int .i64 0, .int .i64 12, .int .i64 15]) (by kernel_rfl) .none rfl ?_
 refine JL.build (l := [.int .i64 4, .int .i64 6]) (by kernel_rfl) .none rfl ?_
 refine JL.build (l := [.int .i64 3, .int .i64 4, .int .i64 6]) (by kernel_rfl) .none rfl ?_
 refine JL.buildSlice (e := 98) (l := [.int .i64 0, .int .i64 10, .int .i64 14, .int .i64 0, .int .i64 12, .int .i64 15, .int .i64 3, .int .i64 4, .int .i64 6]) (by kernel_rfl) .none rfl ?_
 intro b5
 refine JL.build (l := [.int .i64 13, .int .i64 1]) (by kernel_rfl) .none rfl ?_
 refine JL.build (l := [.int .i64 5, .int .i64 3]) (by kernel_rfl) .none rfl ?_
 refine JL.buildSlice (e := 206) (l := [.int .i64 13, .int .i64 1, .int .i64 5, .int .i64 3]) (by kernel_rfl) .none rfl ?_
 intro b6
 obtain ⟨a7, c8, rfl, hh9⟩ := hy2a_0
 have hy2a_0 : SL H3 7 R_Section (.slice a7 y2.Frame.Sections.length c8) y2.Frame.Sections := ⟨a7, c8, rfl, hh9⟩
 obtain ⟨a10, c11, rfl, hh12⟩ := hy2a_7
 have hy2a_7 : SL H3 2 R_Span (.slice a10 y2.Ribs.length c11) y2.Ribs := ⟨a10, c11, rfl, hh12⟩
 obtain ⟨a13, c14, rfl, hh15⟩ := hy2a_8
 have hy2a_8 : SL H3 1 RInt (.slice a13 y2.Shares.length c14) y2.Shares := ⟨a13, c14, rfl, hh15⟩
 refine JL.build (l := [(.slice a7 y2.Frame.Sections.length c8), .int .i64 y2.Frame.Low, .int .i64 y2.Frame.High, .int .i64 y2.Frame.Ease.Num, .int .i64 y2.Frame.Ease.Den, .int .i64 y2.Frame.Rod, .int .i64 y2.Frame.Case, (.slice a10 y2.Ribs.length c11), (.slice a13 y2.Shares.length c14), .slice (some ⟨b5, 0, none⟩) 3 3, .slice (some ⟨b6, 0, none⟩) 2 2, .int .i64 0]) (by kernel_rfl) .none rfl ?_
 refine JL.storeOwn 2 (cs := [(.slice a7 y2.Frame.Sections.length c8), .int .i64 y2.Frame.Low, .int .i64 y2.Frame.High, .int .i64 y2.Frame.Ease.Num, .int .i64 y2.Frame.Ease.Den, .int .i64 y2.Frame.Rod, .int .i64 y2.Frame.Case, (.slice a10 y2.Ribs.length c11), (.slice a13 y2.Shares.length c14), .slice (some ⟨b5, 0, none⟩) 3 3, .slice (some ⟨b6, 0, none⟩) 2 2, .int .i64 0]) az_90 rfl rfl rfl (one_cons (SL.one hy2a_0) (one_cons rfl (one_cons rfl (one_cons rfl (one_cons rfl (one_cons rfl (one_cons rfl (one_cons (SL.one hy2a_7) (one_cons (SL.one hy2a_8) (one_cons rfl (one_cons rfl (one_cons rfl one_nil)))))))))))) rfl rfl .none ?_
 refine JL.done hQ (JQ.go (JC.ret (JQ.freezeC 1 (l := [.int .i64 0, .int .i64 10, .int .i64 14, .int .i64 0, .int .i64 12, .int .i64 15, .int .i64 3, .int .i64 4, .int .i64 6]) rfl ?_)))
 intro H16 hs16 hc17
 have hg18 : SL H16 3 R_Blow (.slice (some ⟨b5, 0, none⟩) 3 3) [(Blow.mk 0 (Span.mk 10 14)), (Blow.mk 0 (Span.mk 12 15)), (Blow.mk 3 (Span.mk 4 6))] := CH.sl (l := [(Blow.mk 0 (Span.mk 10 14)), (Blow.mk 0 (Span.mk 12 15)), (Blow.mk 3 (Span.mk 4 6))]) (CH.cons (cs := [.int .i64 0, .int .i64 10, .int .i64 14]) rfl rfl (CH.cons (cs := [.int .i64 0, .int .i64 12, .int .i64 15]) rfl rfl (CH.cons (cs := [.int .i64 3, .int .i64 4, .int .i64 6]) rfl rfl CH.nil))) hc17 ⟨by simp, by simp⟩
 refine JQ.freezeC 0 (l := [.int .i64 13, .int .i64 1, .int .i64 5, .int .i64 3]) rfl ?_
 intro H19 hs19 hc20
 have hg21 : SL H19 2 R_Meter (.slice (some ⟨b6, 0, none⟩) 2 2) [(Meter.mk 13 1), (Meter.mk 5 3)] := CH.sl (l := [(Meter.mk 13 1), (Meter.mk 5 3)]) (CH.cons (cs := [.int .i64 13, .int .i64 1]) rfl rfl (CH.cons (cs := [.int .i64 5, .int .i64 3]) rfl rfl CH.nil)) hc20 ⟨by simp, by simp⟩
 obtain rfl := Option.some.inj hF
 exact JQ.outH rfl (.cell 0 az_90 rfl rfl rfl .nil) ⟨(.slice a7 y2.Frame.Sections.length c8), (.slice a10 y2.Ribs.length c11), (.slice a13 y2.Shares.length c14), (.slice (some ⟨b5, 0, none⟩) 3 3), (.slice (some ⟨b6, 0, none⟩) 2 2), rfl, (SL.mono R_Section_mono (HSub.trans hs16 hs19) hy2a_0), (SL.mono R_Span_mono (HSub.trans hs16 hs19) hy2a_7), (SL.mono RInt.mono (HSub.trans hs16 hs19) hy2a_8), (SL.mono R_Blow_mono hs19 hg18), hg21⟩
-- 152 ferrule/counts.within
def F_counts_within (n : Nat) (n_ : Int) (low : Int) (high : Int) : Option Bool :=
 some ((decide (low ≤ n_)) && (decide (n_ ≤ high)))
theorem c_counts_within (n : Nat) (H : Hp) (n_ : Int) (low : Int) (high : Int) (y : Bool) (hF : F_counts_within n n_ low high = some y) : SC Try.prog 152 [.int .i64 n_, .int .i64 low, .int .i64 high] (.bool y) H := by
 rw [F_counts_within] at hF
 refine SC.of (N := 15) Try.func152 rfl rfl rfl fun w => ?_
 refine JC.seq (JC.region (by rfl) ?_)
 intro hQ
 refine JL.assign .none rfl ?_
 refine JL.done hQ (JQ.go (JC.seq (JC.region (by rfl) ?_)))
 intro hQ
 refine JL.move .none rfl ?_
 refine JL.move .none rfl ?_
 refine JL.bin rfl rfl rfl .none rfl ?_
 refine JL.move .none rfl ?_
 refine JL.cut 4 (fun f => f 14 = .bool ((decide (low ≤ n_)) && (decide (n_ ≤ high)))) ?_ ?_
 ·intro hJ1
  rcases bcases (decide (low ≤ n_)) with hc2 | hc2
  ·skip
   refine JL.move (.some rfl rfl rfl hc2) rfl ?_
   refine JL.move (.some rfl rfl rfl hc2) rfl ?_
   refine JL.bin rfl rfl rfl (.some rfl rfl rfl hc2) rfl ?_
   refine JL.pick_t (b := decide (low ≤ n_)) rfl hc2 .none rfl ?_
   exact hJ1 _ (and_t hc2 rfl)
  ·skip
   refine JL.skip (.bool rfl rfl rfl hc2) rfl ?_
   refine JL.skip (.bool rfl rfl rfl hc2) rfl ?_
   refine JL.skip (.bool rfl rfl rfl hc2) rfl ?_
   refine JL.pick_f (b := decide (low ≤ n_)) rfl hc2 .none rfl ?_
   exact hJ1 _ (and_f hc2 rfl)
 ·rintro f hf14
  refine (JL.norm (i := 14) hf14 ?_)
  refine JL.assign .none rfl ?_
  refine JL.done hQ (JQ.go (JC.ret ?_))
  obtain rfl := Option.some.inj hF
  exact JQ.outS rfl (.tmp .nil) rfl
-- 218 ferrule/counts.Check$1
def F_counts_Check_1 (n : Nat) (b : Blow) (c_0 : Run) : Option Bool :=
 (F_counts_within n b.At 0 (w64 ((c_0.Canopy.Ribs.length : Int) - 1))).bind fun y2 => (if (!y2) = true then (some true) else ((F_counts_within n b.Force.Low 0 b.Force.High).bind fun y7 => some (!y7)) : Option Bool).bind fun p4 => some ((p4 || (decide (99 < b.Force.High))) || (decide (9 < (w64 (b.Force.High - b.Force.Low)))))
theorem c_counts_Check_1 (n : Nat) (H : Hp) (b : Blow) (c_0 : Run) (c_0_v0 : Value) (hc_0_0 : SL H 7 R_Section c_0_v0 c_0.Canopy.Frame.Sections) (c_0_v7 : Value) (hc_0_7 : SL H 2 R_Span c_0_v7 c_0.Canopy.Ribs) (c_0_v8 : Value) (hc_0_8 : SL H 1 RInt c_0_v8 c_0.Canopy.Shares) (c_0_v9 : Value) (hc_0_9 : SL H 3 R_Blow c_0_v9 c_0.Blows) (c_0_v10 : Value) (hc_0_10 : SL H 2 R_Meter c_0_v10 c_0.Meters) (c_0_b : Nat) (c_0_c : Cells H c_0_b 0 [c_0_v0, .int .i64 c_0.Canopy.Frame.Low, .int .i64 c_0.Canopy.Frame.High, .int .i64 c_0.Canopy.Frame.Ease.Num, .int .i64 c_0.Canopy.Frame.Ease.Den, .int .i64 c_0.Canopy.Frame.Rod, .int .i64 c_0.Canopy.Frame.Case, c_0_v7, c_0_v8, c_0_v9, c_0_v10, .int .i64 c_0.Wrong]) (y : Bool) (hF : F_counts_Check_1 n b c_0 = some y) : SC Try.prog 218 [.agg [.int .i64 b.At, .int .i64 b.Force.Low, .int .i64 b.Force.High].toArray, .pointer (some ⟨c_0_b, 0, none⟩)] (.bool y) H := by
 rw [F_counts_Check_1] at hF
 refine SC.of (N := 39) Try.func218 rfl rfl rfl fun w => ?_
 refine JC.seq (JC.region (by rfl) ?_)
 intro hQ
 refine JL.box (cs := [.int .i64 b.At, .int .i64 b.Force.Low, .int .i64 b.Force.High]) rfl .none rfl ?_
 intro b1
 refine JL.assign .none rfl ?_
 refine JL.done hQ (JQ.go (JC.seq (JC.region (by rfl) ?_)))
 intro hQ
 refine JL.fieldAddr fo_98_0 rfl .none rfl ?_
 refine JL.loadOwn 0 az_3 rfl rfl rfl .none rfl ?_
 refine JL.fieldAddr fo_90_0 rfl .none rfl ?_
 refine JL.fieldAddr fo_76_1 rfl .none rfl ?_
 refine JL.loadH 7 az_24 rfl c_0_c rfl .none rfl ?_
 refine JL.lenSL (R := R_Span) ul_24 hc_0_7 .none rfl ?_
 refine JL.bin rfl rfl rfl .none rfl ?_
 obtain ⟨y2, hy2, hF⟩ := bind_some hF
 refine JL.callS (c_counts_within n H b.At 0 (w64 ((c_0.Canopy.Ribs.length : Int) - 1)) y2 hy2) rfl en_152 .none rfl ?_
 refine JL.not rfl .none rfl ?_
 refine JL.move .none rfl ?_
 obtain ⟨p4, hp4, hF⟩ := bind_some hF
 refine JL.cut 9 (fun f => f 2 = .pointer (some ⟨b1, 0, none⟩) ∧ f 22 = .bool p4) ?_ ?_
 ·intro hJ5
  rcases ite_some hp4 with ⟨hc6, hF⟩ | ⟨hc6, hF⟩
  ·skip
   refine JL.skip (.bool rfl rfl rfl hc6) rfl ?_
   refine JL.skip (.bool rfl rfl rfl hc6) rfl ?_
   refine JL.skip (.bool rfl rfl rfl hc6) rfl ?_
   refine JL.skip (.bool rfl rfl rfl hc6) rfl ?_
   refine JL.skip (.bool rfl rfl rfl hc6) rfl ?_
   refine JL.skip (.bool rfl rfl rfl hc6) rfl ?_
   refine JL.skip (.bool rfl rfl rfl hc6) rfl ?_
   refine JL.skip (.bool rfl rfl rfl hc6) rfl ?_
   refine JL.pick_t (b := (!y2)) rfl hc6 .none rfl ?_
   obtain rfl := Option.some.inj hF
   exact hJ5 _ ⟨rfl, rfl⟩
  ·skip
   refine JL.fieldAddr fo_98_1 rfl (.some rfl rfl rfl hc6) rfl ?_
   refine JL.fieldAddr fo_39_0 rfl (.some rfl rfl rfl hc6) rfl ?_
   refine JL.loadOwn 0 az_3 rfl rfl rfl (.some rfl rfl rfl hc6) rfl ?_
   refine JL.fieldAddr fo_98_1 rfl (.some rfl rfl rfl hc6) rfl ?_
   refine JL.fieldAddr fo_39_1 rfl (.some rfl rfl rfl hc6) rfl ?_
   refine JL.loadOwn 0 az_3 rfl rfl rfl (.some rfl rfl rfl hc6) rfl ?_
   obtain ⟨y7, hy7, hF⟩ := bind_some hF
   refine JL.callS (c_counts_within n H b.Force.Low 0 b.Force.High y7 hy7) rfl en_152 (.some rfl rfl rfl hc6) rfl ?_
   refine JL.not rfl (.some rfl rfl rfl hc6) rfl ?_
   refine JL.pick_f (b := (!y2)) rfl hc6 .none rfl ?_
   obtain rfl := Option.some.inj hF
   exact hJ5 _ ⟨rfl, rfl⟩
 ·rintro f ⟨hf2, hf22⟩
  refine (JL.norm (i := 2) hf2 (JL.norm (i := 22) hf22 ?_))
  refine JL.move .none rfl ?_
  refine JL.cut 5 (fun f => f 2 = .pointer (some ⟨b1, 0, none⟩) ∧ f 28 = .bool (p4 || (decide (99 < b.Force.High)))) ?_ ?_
  ·intro hJ8
   rcases bcases p4 with hc9 | hc9
   ·skip
    refine JL.skip (.bool rfl rfl rfl hc9) rfl ?_
    refine JL.skip (.bool rfl rfl rfl hc9) rfl ?_
    refine JL.skip (.bool rfl rfl rfl hc9) rfl ?_
    refine JL.skip (.bool rfl rfl rfl hc9) rfl ?_
    refine JL.pick_t (b := p4) rfl hc9 .none rfl ?_
    exact hJ8 _ ⟨rfl, or_t hc9 rfl⟩
   ·skip
    refine JL.fieldAddr fo_98_1 rfl (.some rfl rfl rfl hc9) rfl ?_
    refine JL.fieldAddr fo_39_1 rfl (.some rfl rfl rfl hc9) rfl ?_
    refine JL.loadOwn 0 az_3 rfl rfl rfl (.some rfl rfl rfl hc9) rfl ?_
    refine JL.bin rfl rfl rfl (.some rfl rfl rfl hc9) rfl ?_
    refine JL.pick_f (b := p4) rfl hc9 .none rfl ?_
    exact hJ8 _ ⟨rfl, or_f hc9 rfl⟩
  ·rintro f ⟨hf2, hf28⟩
   refine (JL.norm (i := 2) hf2 (JL.norm (i := 28) hf28 ?_))
   refine JL.move .none rfl ?_
   refine JL.cut 9 (fun f => f 38 = .bool ((p4 || (decide (99 < b.Force.High))) || (decide (9 < (w64 (b.Force.High - b.Force.Low)))))) ?_ ?_
   ·intro hJ10
    rcases bcases (p4 || (decide (99 < b.Force.High))) with hc11 | hc11
    ·skip
     refine JL.skip (.bool rfl rfl rfl hc11) rfl ?_
     refine JL.skip (.bool rfl rfl rfl hc11) rfl ?_
     refine JL.skip (.bool rfl rfl rfl hc11) rfl ?_
     refine JL.skip (.bool rfl rfl rfl hc11) rfl ?_
     refine JL.skip (.bool rfl rfl rfl hc11) rfl ?_
     refine JL.skip (.bool rfl rfl rfl hc11) rfl ?_
     refine JL.skip (.bool rfl rfl rfl hc11) rfl ?_
     refine JL.skip (.bool rfl rfl rfl hc11) rfl ?_
     refine JL.pick_t (b := (p4 || (decide (99 < b.Force.High)))) rfl hc11 .none rfl ?_
     exact hJ10 _ (or_t hc11 rfl)
    ·skip
     refine JL.fieldAddr fo_98_1 rfl (.some rfl rfl rfl hc11) rfl ?_
     refine JL.fieldAddr fo_39_1 rfl (.some rfl rfl rfl hc11) rfl ?_
     refine JL.loadOwn 0 az_3 rfl rfl rfl (.some rfl rfl rfl hc11) rfl ?_
     refine JL.fieldAddr fo_98_1 rfl (.some rfl rfl rfl hc11) rfl ?_
     refine JL.fieldAddr fo_39_0 rfl (.some rfl rfl rfl hc11) rfl ?_
     refine JL.loadOwn 0 az_3 rfl rfl rfl (.some rfl rfl rfl hc11) rfl ?_
     refine JL.bin rfl rfl rfl (.some rfl rfl rfl hc11) rfl ?_
     refine JL.bin rfl rfl rfl (.some rfl rfl rfl hc11) rfl ?_
     refine JL.pick_f (b := (p4 || (decide (99 < b.Force.High)))) rfl hc11 .none rfl ?_
     exact hJ10 _ (or_f hc11 rfl)
   ·rintro f hf38
    refine (JL.norm (i := 38) hf38 ?_)
    refine JL.assign .none rfl ?_
    refine JL.done hQ (JQ.go (JC.ret ?_))
    obtain rfl := Option.some.inj hF
    exact JQ.outS rfl (.tmp .nil) rfl
-- 219 ferrule/counts.Check$2
def F_counts_Check_2 (n : Nat) (m : Meter) : Option Bool :=
 (F_counts_within n m.Limit 0 99).bind fun y2 => (if (!y2) = true then (some true) else ((F_counts_within n m.Count 0 8).bind fun y7 => some (!y7)) : Option Bool).bind fun p4 => some p4
theorem c_counts_Check_2 (n : Nat) (H : Hp) (m : Meter) (y : Bool) (hF : F_counts_Check_2 n m = some y) : SC Try.prog 219 [.agg [.int .i64 m.Limit, .int .i64 m.Count].toArray] (.bool y) H := by
 rw [F_counts_Check_2] at hF
 refine SC.of (N := 13) Try.func219 rfl rfl rfl fun w => ?_
 refine JC.seq (JC.region (by rfl) ?_)
 intro hQ
 refine JL.box (cs := [.int .i64 m.Limit, .int .i64 m.Count]) rfl .none rfl ?_
 intro b1
 refine JL.assign .none rfl ?_
 refine JL.done hQ (JQ.go (JC.seq (JC.region (by rfl) ?_)))
 intro hQ
 refine JL.fieldAddr fo_206_0 rfl .none rfl ?_
 refine JL.loadOwn 0 az_3 rfl rfl rfl .none rfl ?_
 obtain ⟨y2, hy2, hF⟩ := bind_some hF
 refine JL.callS (c_counts_within n H m.Limit 0 99 y2 hy2) rfl en_152 .none rfl ?_
 refine JL.not rfl .none rfl ?_
 refine JL.move .none rfl ?_
 obtain ⟨p4, hp4, hF⟩ := bind_some hF
 refine JL.cut 5 (fun f => f 12 = .bool p4) ?_ ?_
 ·intro hJ5
  rcases ite_some hp4 with ⟨hc6, hF⟩ | ⟨hc6, hF⟩
  ·skip
   refine JL.skip (.bool rfl rfl rfl hc6) rfl ?_
   refine JL.skip (.bool rfl rfl rfl hc6) rfl ?_
   refine JL.skip (.bool rfl rfl rfl hc6) rfl ?_
   refine JL.skip (.bool rfl rfl rfl hc6) rfl ?_
   refine JL.pick_t (b := (!y2)) rfl hc6 .none rfl ?_
   obtain rfl := Option.some.inj hF
   exact hJ5 _ (rfl)
  ·skip
   refine JL.fieldAddr fo_206_1 rfl (.some rfl rfl rfl hc6) rfl ?_
   refine JL.loadOwn 0 az_3 rfl rfl rfl (.some rfl rfl rfl hc6) rfl ?_
   obtain ⟨y7, hy7, hF⟩ := bind_some hF
   refine JL.callS (c_counts_within n H m.Count 0 8 y7 hy7) rfl en_152 (.some rfl rfl rfl hc6) rfl ?_
   refine JL.not rfl (.some rfl rfl rfl hc6) rfl ?_
   refine JL.pick_f (b := (!y2)) rfl hc6 .none rfl ?_
   obtain rfl := Option.some.inj hF
   exact hJ5 _ (rfl)
 ·rintro f hf12
  refine (JL.norm (i := 12) hf12 ?_)
  refine JL.assign .none rfl ?_
  refine JL.done hQ (JQ.go (JC.ret ?_))
  obtain rfl := Option.some.inj hF
  exact JQ.outS rfl (.tmp .nil) rfl
-- 239 slices.IndexFunc[[]ferrule/api.Blow,ferrule/api.Blow]
def F_slices_IndexFunc___api_Blow_api_Blow__s1 (n : Nat) (s : List Blow) (f_ : Blow → Option Bool) : Int → Option (Int ⊕ (Int ⊕ Unit))
 | x_55 => if decide (x_55 < (s.length : Int)) = true then ((geti s x_55).bind fun y60 => (f_ y60).bind fun y65 => if y65 = true then (some (Sum.inr (Sum.inl x_55))) else (some (Sum.inl (w64 (x_55 + 1))))) else (some (Sum.inr (Sum.inr ())))
def F_slices_IndexFunc___api_Blow_api_Blow_ (n : Nat) (s : List Blow) (f_ : Blow → Option Bool) : Option Int :=
 (loopO n (F_slices_IndexFunc___api_Blow_api_Blow__s1 n s f_) 0).bind fun r34 => match r34 with | .inl o => some o | .inr _ => some (-1)
theorem c_slices_IndexFunc___api_Blow_api_Blow_ (n : Nat) (H : Hp) (s : List Blow) (s_v0 : Value) (hs_0 : SL H 3 R_Blow s_v0 s) (f_ : Blow → Option Bool) (f__k : Nat) (f__c : List Value) (f__e : Ent Try.prog f__k) (f__h : ∀ H', HSub H H' → ∀ (a0_ : Blow) (y : Bool), f_ a0_ = some y → SC Try.prog f__k ([.agg [.int .i64 a0_.At, .int .i64 a0_.Force.Low, .int .i64 a0_.Force.High].toArray] ++ f__c) (.bool y) H') (y : Int) (hF : F_slices_IndexFunc___api_Blow_api_Blow_ n s f_ = some y) : SC Try.prog 239 [s_v0, .func (.func f__k) #[] f__c.toArray] (.int .i64 y) H := by
 rw [F_slices_IndexFunc___api_Blow_api_Blow_] at hF
 refine SC.of (N := 19) Try.func239 rfl rfl rfl fun w => ?_
 refine JC.seq (JC.region (by rfl) ?_)
 intro hQ
 refine JL.assign .none rfl ?_
 refine JL.done hQ (JQ.go (JC.seq (JC.seq (JC.region (by rfl) ?_))))
 intro hQ
 refine JL.move .none rfl ?_
 refine JL.lenSL (R := R_Blow) ul_87 hs_0 .none rfl ?_
 refine JL.move .none rfl ?_
 refine JL.done hQ (JQ.go ?_)
 obtain ⟨r34, hlr34, hKr34⟩ := bind_some hF
 refine JC.join (fun (_ : Unit) H33 f bs gs => bs = [] ∧ gs = [] ∧ HSub H H33 ∧ Sum.inr () = r34) ?_ ?_
 ·skip
  refine JC.block (JC.loop hlr34 (fun (x_55 : Int) H56 f bs gs => f 0 = s_v0 ∧ f 1 = .func (.func f__k) #[] f__c.toArray ∧ f 7 = .int .i64 (s.length : Int) ∧ f 8 = .int .i64 x_55 ∧ bs = [] ∧ gs = [] ∧ HSub H H56) ⟨rfl, rfl, rfl, rfl, rfl, rfl, (HSub.refl _)⟩ ?_)
  rintro x_55 x58 H56 f bs gs ⟨hf0, hf1, hf7, hf8, rfl, rfl, hs56⟩ hF hr57
  rw [F_slices_IndexFunc___api_Blow_api_Blow__s1] at hF
  refine (JC.norm (i := 0) hf0 (JC.norm (i := 1) hf1 (JC.norm (i := 7) hf7 (JC.norm (i := 8) hf8 ?_))))
  refine JC.seq (JC.region (by rfl) ?_)
  intro hQ
  refine JL.bin rfl rfl rfl .none rfl ?_
  refine JL.done hQ (JQ.go (JC.seq ?_))
  rcases ite_some hF with ⟨hc59, hF⟩ | ⟨hc59, hF⟩
  ·refine JC.cond_t (b := decide (x_55 < (s.length : Int))) rfl hc59 ?_
   refine JC.skip (JQ.go (JC.seq (JC.block (JC.seq (JC.region (by rfl) ?_)))))
   intro hQ
   refine JL.move .none rfl ?_
   refine JL.assign .none rfl ?_
   refine JL.done hQ (JQ.go (JC.seq (JC.region (by rfl) ?_)))
   intro hQ
   refine JL.move .none rfl ?_
   refine JL.move .none rfl ?_
   refine JL.move .none rfl ?_
   obtain ⟨y60, hy60, hF⟩ := bind_some hF
   refine JL.indexSL (R := R_Blow) sl_87 (SL.mono R_Blow_mono hs56 hs_0) rfl hy60 .none rfl ?_
   rintro b61 o62 cs63 hc64 - rfl
   refine JL.loadH 0 az_98 rfl hc64 rfl .none rfl ?_
   obtain ⟨y65, hy65, hF⟩ := bind_some hF
   refine JL.callV rfl (f__h H56 hs56 y60 y65 hy65) rfl f__e .none rfl ?_
   refine JL.done hQ (JQ.go ?_)
   rcases ite_some hF with ⟨hc66, hF⟩ | ⟨hc66, hF⟩
   ·refine JC.cond_t (b := y65) rfl hc66 ?_
    refine JC.seq (JC.region (by rfl) ?_)
    intro hQ
    refine JL.move .none rfl ?_
    refine JL.assign .none rfl ?_
    refine JL.done hQ (JQ.go (JC.fresh (fun f => f 4 = .int .i64 x_55) rfl ?_))
    rintro f hf4
    refine (JC.norm (i := 4) hf4 ?_)
    refine JC.ret (JQ.ret_block (JQ.ret_then (JQ.ret_then (JQ.ret_block (JQ.ret_join (JQ.ret_then ?_))))))
    obtain rfl := Option.some.inj hF
    have ehr57 := hr57 _ rfl
    subst ehr57
    have hF := hKr34
    try dsimp only at hF
    obtain rfl := Option.some.inj hF
    exact JQ.outS rfl (.tmp .nil) rfl
   ·refine JC.cond_f (b := y65) rfl hc66 ?_
    refine JC.skip (JQ.normal_block (JQ.go (JC.region (by rfl) ?_)))
    intro hQ
    refine JL.bin rfl rfl rfl .none rfl ?_
    refine JL.move .none rfl ?_
    refine JL.done hQ ?_
    obtain rfl := Option.some.inj hF
    exact JQ.next rfl ⟨rfl, rfl, rfl, rfl, rfl, rfl, hs56⟩
  ·refine JC.cond_f (b := decide (x_55 < (s.length : Int))) rfl hc59 ?_
   refine JC.exit (JQ.exit_then (JQ.exit_then (JQ.exit_block ?_)))
   obtain rfl := Option.some.inj hF
   have ehr57 := hr57 _ rfl
   subst ehr57
   exact JQ.join () ⟨rfl, rfl, hs56, rfl⟩
 ·rintro _ H33 f bs gs ⟨rfl, rfl, hs33, rfl⟩
  have hF := hKr34
  try dsimp only at hF
  refine JQ.go (JC.seq (JC.region (by rfl) ?_))
  intro hQ
  refine JL.assign .none rfl ?_
  refine JL.done hQ (JQ.go (JC.ret ?_))
  obtain rfl := Option.some.inj hF
  exact JQ.outS rfl (.tmp .nil) rfl
-- 220 slices.ContainsFunc[[]ferrule/api.Blow,ferrule/api.Blow]
def F_slices_ContainsFunc___api_Blow_api_Blow_ (n : Nat) (s : List Blow) (f_ : Blow → Option Bool) : Option Bool :=
 (F_slices_IndexFunc___api_Blow_api_Blow_ n s f_).bind fun y1 => some (decide (0 ≤ y1))
theorem c_slices_ContainsFunc___api_Blow_api_Blow_ (n : Nat) (H : Hp) (s : List Blow) (s_v0 : Value) (hs_0 : SL H 3 R_Blow s_v0 s) (f_ : Blow → Option Bool) (f__k : Nat) (f__c : List Value) (f__e : Ent Try.prog f__k) (f__h : ∀ H', HSub H H' → ∀ (a0_ : Blow) (y : Bool), f_ a0_ = some y → SC Try.prog f__k ([.agg [.int .i64 a0_.At, .int .i64 a0_.Force.Low, .int .i64 a0_.Force.High].toArray] ++ f__c) (.bool y) H') (y : Bool) (hF : F_slices_ContainsFunc___api_Blow_api_Blow_ n s f_ = some y) : SC Try.prog 220 [s_v0, .func (.func f__k) #[] f__c.toArray] (.bool y) H := by
 rw [F_slices_ContainsFunc___api_Blow_api_Blow_] at hF
 refine SC.of (N := 9) Try.func220 rfl rfl rfl fun w => ?_
 refine JC.seq (JC.region (by rfl) ?_)
 intro hQ
 refine JL.assign .none rfl ?_
 refine JL.done hQ (JQ.go (JC.seq (JC.region (by rfl) ?_)))
 intro hQ
 refine JL.move .none rfl ?_
 refine JL.move .none rfl ?_
 obtain ⟨y1, hy1, hF⟩ := bind_some hF
 refine JL.callS (c_slices_IndexFunc___api_Blow_api_Blow_ n H s s_v0 hs_0 f_ f__k f__c f__e (fun H' hs' => f__h H' hs') y1 hy1) rfl en_239 .none rfl ?_
 refine JL.bin rfl rfl rfl .none rfl ?_
 refine JL.assign .none rfl ?_
 refine JL.done hQ (JQ.go (JC.ret ?_))
 obtain rfl := Option.some.inj hF
 exact JQ.outS rfl (.tmp .nil) rfl
end Go.Proofs.Yteihdclpiekmaaa
end
