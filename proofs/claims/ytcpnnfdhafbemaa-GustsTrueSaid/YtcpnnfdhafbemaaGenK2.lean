/-
  Printed by a program: functions of the translation as plain functions, and their contracts.
-/
import Derived.Test.YtcpnnfdhafbemaaGenK1
namespace Go.Proofs.Ytcpnnfdhafbemaa
open Go Go.RowKit Go.Dec
set_option linter.unusedVariables false
-- 90 slices.IndexFunc[[]ferrule/api.Section,ferrule/api.Section]
def F_slices_IndexFunc___api_Section_api_Section__s1 (n : Nat) (s : List Section) (f_ : Section → Option Bool) : Int → Option (Int ⊕ (Int ⊕ Unit))
  | x_55 => if decide (x_55 < (s.length : Int)) = true then ((geti s x_55).bind fun y60 => (f_ y60).bind fun y65 => if y65 = true then (some (Sum.inr (Sum.inl x_55))) else (some (Sum.inl (w64 (x_55 + 1))))) else (some (Sum.inr (Sum.inr ())))
def F_slices_IndexFunc___api_Section_api_Section_ (n : Nat) (s : List Section) (f_ : Section → Option Bool) : Option Int :=
  (loopO n (F_slices_IndexFunc___api_Section_api_Section__s1 n s f_) 0).bind fun r34 => match r34 with | .inl o => some o | .inr _ => some (-1)
set_option maxRecDepth 100000 in
set_option maxHeartbeats 40000000 in
theorem c_slices_IndexFunc___api_Section_api_Section_ (n : Nat) (H : Hp) (s : List Section) (s_v0 : Value) (hs_0 : SL H 7 R_Section s_v0 s) (f_ : Section → Option Bool) (f__k : Nat) (f__c : List Value) (f__e : Ent Try.prog f__k) (f__h : ∀ H', HSub H H' → ∀ (a0_ : Section) (y : Bool), f_ a0_ = some y → SC Try.prog f__k ([.agg [.int .i64 a0_.Arm.Low, .int .i64 a0_.Arm.High, .int .i64 a0_.Stretch.Low, .int .i64 a0_.Stretch.High, .int .i64 a0_.Base, .int .i64 a0_.Gear.Num, .int .i64 a0_.Gear.Den].toArray] ++ f__c) (.bool y) H') (y : Int) (hF : F_slices_IndexFunc___api_Section_api_Section_ n s f_ = some y) : SC Try.prog 90 [s_v0, .func (.func f__k) #[] f__c.toArray] (.int .i64 y) H := by
  rw [F_slices_IndexFunc___api_Section_api_Section_] at hF
  refine SC.of (N := 19) Try.func90 rfl rfl rfl fun w => ?_
  refine JC.seq ?_
  refine JC.region (by rfl) ?_
  intro hQ
  refine JL.assign .none rfl ?_
  refine JL.done hQ ?_
  refine JQ.go ?_
  refine JC.seq ?_
  refine JC.seq ?_
  refine JC.region (by rfl) ?_
  intro hQ
  refine JL.move .none rfl ?_
  refine JL.lenSL (R := R_Section) ul_22 hs_0 .none rfl ?_
  refine JL.move .none rfl ?_
  refine JL.done hQ ?_
  refine JQ.go ?_
  obtain ⟨r34, hlr34, hKr34⟩ := bind_some hF
  refine JC.join (fun (_ : Unit) H33 f bs gs => bs = [] ∧ gs = [] ∧ HSub H H33 ∧ Sum.inr () = r34) ?_ ?_
  · skip
    refine JC.block ?_
    refine JC.loop hlr34 (fun (x_55 : Int) H56 f bs gs => f 0 = s_v0 ∧ f 1 = .func (.func f__k) #[] f__c.toArray ∧ f 7 = .int .i64 (s.length : Int) ∧ f 8 = .int .i64 x_55 ∧ bs = [] ∧ gs = [] ∧ HSub H H56) ⟨rfl, rfl, rfl, rfl, rfl, rfl, (HSub.refl _)⟩ ?_
    rintro x_55 x58 H56 f bs gs ⟨hf0, hf1, hf7, hf8, rfl, rfl, hs56⟩ hF hr57
    rw [F_slices_IndexFunc___api_Section_api_Section__s1] at hF
    refine (JC.norm (i := 0) hf0 (JC.norm (i := 1) hf1 (JC.norm (i := 7) hf7 (JC.norm (i := 8) hf8 ?_))))
    refine JC.seq ?_
    refine JC.region (by rfl) ?_
    intro hQ
    refine JL.bin rfl rfl rfl .none rfl ?_
    refine JL.done hQ ?_
    refine JQ.go ?_
    refine JC.seq ?_
    rcases ite_some hF with ⟨hc59, hF⟩ | ⟨hc59, hF⟩
    · refine JC.cond_t (b := decide (x_55 < (s.length : Int))) rfl hc59 ?_
      refine JC.skip ?_
      refine JQ.go ?_
      refine JC.seq ?_
      refine JC.block ?_
      refine JC.seq ?_
      refine JC.region (by rfl) ?_
      intro hQ
      refine JL.move .none rfl ?_
      refine JL.assign .none rfl ?_
      refine JL.done hQ ?_
      refine JQ.go ?_
      refine JC.seq ?_
      refine JC.region (by rfl) ?_
      intro hQ
      refine JL.move .none rfl ?_
      refine JL.move .none rfl ?_
      refine JL.move .none rfl ?_
      obtain ⟨y60, hy60, hF⟩ := bind_some hF
      refine JL.indexSL (R := R_Section) sl_22 (SL.mono R_Section_mono hs56 hs_0) rfl hy60 .none rfl ?_
      rintro b61 o62 cs63 hc64 - rfl
      refine JL.loadH 0 az_118 rfl hc64 rfl .none rfl ?_
      obtain ⟨y65, hy65, hF⟩ := bind_some hF
      refine JL.callV rfl (f__h H56 hs56 y60 y65 hy65) rfl f__e .none rfl ?_
      refine JL.done hQ ?_
      refine JQ.go ?_
      rcases ite_some hF with ⟨hc66, hF⟩ | ⟨hc66, hF⟩
      · refine JC.cond_t (b := y65) rfl hc66 ?_
        refine JC.seq ?_
        refine JC.region (by rfl) ?_
        intro hQ
        refine JL.move .none rfl ?_
        refine JL.assign .none rfl ?_
        refine JL.done hQ ?_
        refine JQ.go ?_
        refine JC.fresh (fun f => f 4 = .int .i64 x_55) rfl ?_
        rintro f hf4
        refine (JC.norm (i := 4) hf4 ?_)
        refine JC.ret ?_
        refine JQ.ret_block ?_
        refine JQ.ret_then ?_
        refine JQ.ret_then ?_
        refine JQ.ret_block ?_
        refine JQ.ret_join ?_
        refine JQ.ret_then ?_
        obtain rfl := Option.some.inj hF
        have ehr57 := hr57 _ rfl
        subst ehr57
        have hF := hKr34
        try dsimp only at hF
        obtain rfl := Option.some.inj hF
        exact JQ.outS rfl (.tmp .nil) rfl
      · refine JC.cond_f (b := y65) rfl hc66 ?_
        refine JC.skip ?_
        refine JQ.normal_block ?_
        refine JQ.go ?_
        refine JC.region (by rfl) ?_
        intro hQ
        refine JL.bin rfl rfl rfl .none rfl ?_
        refine JL.move .none rfl ?_
        refine JL.done hQ ?_
        obtain rfl := Option.some.inj hF
        exact JQ.next rfl ⟨rfl, rfl, rfl, rfl, rfl, rfl, hs56⟩
    · refine JC.cond_f (b := decide (x_55 < (s.length : Int))) rfl hc59 ?_
      refine JC.exit ?_
      refine JQ.exit_then ?_
      refine JQ.exit_then ?_
      refine JQ.exit_block ?_
      obtain rfl := Option.some.inj hF
      have ehr57 := hr57 _ rfl
      subst ehr57
      exact JQ.join () ⟨rfl, rfl, hs56, rfl⟩
  · rintro _ H33 f bs gs ⟨rfl, rfl, hs33, rfl⟩
    have hF := hKr34
    try dsimp only at hF
    refine JQ.go ?_
    refine JC.seq ?_
    refine JC.region (by rfl) ?_
    intro hQ
    refine JL.assign .none rfl ?_
    refine JL.done hQ ?_
    refine JQ.go ?_
    refine JC.ret ?_
    obtain rfl := Option.some.inj hF
    exact JQ.outS rfl (.tmp .nil) rfl

-- 75 slices.ContainsFunc[[]ferrule/api.Section,ferrule/api.Section]
def F_slices_ContainsFunc___api_Section_api_Section_ (n : Nat) (s : List Section) (f_ : Section → Option Bool) : Option Bool :=
  (F_slices_IndexFunc___api_Section_api_Section_ n s f_).bind fun y1 => some (decide (0 ≤ y1))
set_option maxRecDepth 100000 in
set_option maxHeartbeats 40000000 in
theorem c_slices_ContainsFunc___api_Section_api_Section_ (n : Nat) (H : Hp) (s : List Section) (s_v0 : Value) (hs_0 : SL H 7 R_Section s_v0 s) (f_ : Section → Option Bool) (f__k : Nat) (f__c : List Value) (f__e : Ent Try.prog f__k) (f__h : ∀ H', HSub H H' → ∀ (a0_ : Section) (y : Bool), f_ a0_ = some y → SC Try.prog f__k ([.agg [.int .i64 a0_.Arm.Low, .int .i64 a0_.Arm.High, .int .i64 a0_.Stretch.Low, .int .i64 a0_.Stretch.High, .int .i64 a0_.Base, .int .i64 a0_.Gear.Num, .int .i64 a0_.Gear.Den].toArray] ++ f__c) (.bool y) H') (y : Bool) (hF : F_slices_ContainsFunc___api_Section_api_Section_ n s f_ = some y) : SC Try.prog 75 [s_v0, .func (.func f__k) #[] f__c.toArray] (.bool y) H := by
  rw [F_slices_ContainsFunc___api_Section_api_Section_] at hF
  refine SC.of (N := 9) Try.func75 rfl rfl rfl fun w => ?_
  refine JC.seq ?_
  refine JC.region (by rfl) ?_
  intro hQ
  refine JL.assign .none rfl ?_
  refine JL.done hQ ?_
  refine JQ.go ?_
  refine JC.seq ?_
  refine JC.region (by rfl) ?_
  intro hQ
  refine JL.move .none rfl ?_
  refine JL.move .none rfl ?_
  obtain ⟨y1, hy1, hF⟩ := bind_some hF
  refine JL.callS (c_slices_IndexFunc___api_Section_api_Section_ n H s s_v0 hs_0 f_ f__k f__c f__e (fun H' hs' => f__h H' hs') y1 hy1) rfl en_90 .none rfl ?_
  refine JL.bin rfl rfl rfl .none rfl ?_
  refine JL.assign .none rfl ?_
  refine JL.done hQ ?_
  refine JQ.go ?_
  refine JC.ret ?_
  obtain rfl := Option.some.inj hF
  exact JQ.outS rfl (.tmp .nil) rfl

-- 51 ferrule/frames.Check
def F_frames_Check (n : Nat) (f_ : Frame) : Option Int :=
  (F_frames_within n f_.Low 1 f_.High).bind fun y2 => (F_frames_within n (f_.Sections.length : Int) 1 3).bind fun y7 => (if (!y7) = true then (some true) else ((F_slices_ContainsFunc___api_Section_api_Section_ n f_.Sections (fun a0_ => F_frames_Check_1 n a0_)).bind fun y12 => some y12) : Option Bool).bind fun p9 => (if (p9 || (!((y2 && (decide (f_.High ≤ 2000))) && (decide ((w64 (f_.High - f_.Low)) ≤ 200))))) = true then (some true) else ((F_frames_isShare n f_.Ease).bind fun y19 => some (!y19)) : Option Bool).bind fun p16 => (if p16 = true then (some true) else ((F_frames_within n f_.Rod 0 4000).bind fun y24 => some (!y24)) : Option Bool).bind fun p21 => (if p21 = true then (some true) else ((F_frames_within n f_.Case 0 4000).bind fun y29 => some (!y29)) : Option Bool).bind fun p26 => if p26 = true then (some 10) else (some 0)
set_option maxRecDepth 100000 in
set_option maxHeartbeats 40000000 in
theorem c_frames_Check (n : Nat) (H : Hp) (f_ : Frame) (f__v0 : Value) (hf__0 : SL H 7 R_Section f__v0 f_.Sections) (y : Int) (hF : F_frames_Check n f_ = some y) : SC Try.prog 51 [.agg [f__v0, .int .i64 f_.Low, .int .i64 f_.High, .int .i64 f_.Ease.Num, .int .i64 f_.Ease.Den, .int .i64 f_.Rod, .int .i64 f_.Case].toArray] (.int .i64 y) H := by
  rw [F_frames_Check] at hF
  refine SC.of (N := 56) Try.func51 rfl rfl rfl fun w => ?_
  refine JC.seq ?_
  refine JC.region (by rfl) ?_
  intro hQ
  refine JL.box (cs := [f__v0, .int .i64 f_.Low, .int .i64 f_.High, .int .i64 f_.Ease.Num, .int .i64 f_.Ease.Den, .int .i64 f_.Rod, .int .i64 f_.Case]) rfl .none rfl ?_
  intro b1
  refine JL.assign .none rfl ?_
  refine JL.done hQ ?_
  refine JQ.go ?_
  refine JC.seq ?_
  refine JC.region (by rfl) ?_
  intro hQ
  refine JL.assign .none rfl ?_
  refine JL.done hQ ?_
  refine JQ.go ?_
  refine JC.seq ?_
  refine JC.region (by rfl) ?_
  intro hQ
  refine JL.fieldAddr fo_26_1 rfl .none rfl ?_
  refine JL.loadOwn 0 az_3 rfl rfl rfl .none rfl ?_
  refine JL.fieldAddr fo_26_2 rfl .none rfl ?_
  refine JL.loadOwn 0 az_3 rfl rfl rfl .none rfl ?_
  obtain ⟨y2, hy2, hF⟩ := bind_some hF
  refine JL.callS (c_frames_within n H f_.Low 1 f_.High y2 hy2) rfl en_73 .none rfl ?_
  refine JL.move .none rfl ?_
  refine JL.cut 4 (fun f => f 1 = .pointer (some ⟨b1, 0, none⟩) ∧ f 3 = .func (.func 71) #[] [].toArray ∧ f 14 = .bool (y2 && (decide (f_.High ≤ 2000)))) ?_ ?_
  · intro hJ3
    rcases bcases y2 with hc4 | hc4
    · skip
      refine JL.fieldAddr fo_26_2 rfl (.some rfl rfl rfl hc4) rfl ?_
      refine JL.loadOwn 0 az_3 rfl rfl rfl (.some rfl rfl rfl hc4) rfl ?_
      refine JL.bin rfl rfl rfl (.some rfl rfl rfl hc4) rfl ?_
      refine JL.pick_t (b := y2) rfl hc4 .none rfl ?_
      exact hJ3 _ ⟨rfl, rfl, and_t hc4 rfl⟩
    · skip
      refine JL.skip (.bool rfl rfl rfl hc4) rfl ?_
      refine JL.skip (.bool rfl rfl rfl hc4) rfl ?_
      refine JL.skip (.bool rfl rfl rfl hc4) rfl ?_
      refine JL.pick_f (b := y2) rfl hc4 .none rfl ?_
      exact hJ3 _ ⟨rfl, rfl, and_f hc4 rfl⟩
  · rintro f ⟨hf1, hf3, hf14⟩
    refine (JL.norm (i := 1) hf1 (JL.norm (i := 3) hf3 (JL.norm (i := 14) hf14 ?_)))
    refine JL.move .none rfl ?_
    refine JL.cut 7 (fun f => f 1 = .pointer (some ⟨b1, 0, none⟩) ∧ f 3 = .func (.func 71) #[] [].toArray ∧ f 22 = .bool ((y2 && (decide (f_.High ≤ 2000))) && (decide ((w64 (f_.High - f_.Low)) ≤ 200)))) ?_ ?_
    · intro hJ5
      rcases bcases (y2 && (decide (f_.High ≤ 2000))) with hc6 | hc6
      · skip
        refine JL.fieldAddr fo_26_2 rfl (.some rfl rfl rfl hc6) rfl ?_
        refine JL.loadOwn 0 az_3 rfl rfl rfl (.some rfl rfl rfl hc6) rfl ?_
        refine JL.fieldAddr fo_26_1 rfl (.some rfl rfl rfl hc6) rfl ?_
        refine JL.loadOwn 0 az_3 rfl rfl rfl (.some rfl rfl rfl hc6) rfl ?_
        refine JL.bin rfl rfl rfl (.some rfl rfl rfl hc6) rfl ?_
        refine JL.bin rfl rfl rfl (.some rfl rfl rfl hc6) rfl ?_
        refine JL.pick_t (b := (y2 && (decide (f_.High ≤ 2000)))) rfl hc6 .none rfl ?_
        exact hJ5 _ ⟨rfl, rfl, and_t hc6 rfl⟩
      · skip
        refine JL.skip (.bool rfl rfl rfl hc6) rfl ?_
        refine JL.skip (.bool rfl rfl rfl hc6) rfl ?_
        refine JL.skip (.bool rfl rfl rfl hc6) rfl ?_
        refine JL.skip (.bool rfl rfl rfl hc6) rfl ?_
        refine JL.skip (.bool rfl rfl rfl hc6) rfl ?_
        refine JL.skip (.bool rfl rfl rfl hc6) rfl ?_
        refine JL.pick_f (b := (y2 && (decide (f_.High ≤ 2000)))) rfl hc6 .none rfl ?_
        exact hJ5 _ ⟨rfl, rfl, and_f hc6 rfl⟩
    · rintro f ⟨hf1, hf3, hf22⟩
      refine (JL.norm (i := 1) hf1 (JL.norm (i := 3) hf3 (JL.norm (i := 22) hf22 ?_)))
      refine JL.assign .none rfl ?_
      refine JL.done hQ ?_
      refine JQ.go ?_
      refine JC.seq ?_
      refine JC.seq ?_
      refine JC.region (by rfl) ?_
      intro hQ
      refine JL.fieldAddr fo_26_0 rfl .none rfl ?_
      refine JL.loadOwn 0 az_22 rfl rfl rfl .none rfl ?_
      refine JL.lenSL (R := R_Section) ul_22 hf__0 .none rfl ?_
      obtain ⟨y7, hy7, hF⟩ := bind_some hF
      refine JL.callS (c_frames_within n H (f_.Sections.length : Int) 1 3 y7 hy7) rfl en_73 .none rfl ?_
      refine JL.not rfl .none rfl ?_
      refine JL.move .none rfl ?_
      obtain ⟨p9, hp9, hF⟩ := bind_some hF
      refine JL.cut 5 (fun f => f 1 = .pointer (some ⟨b1, 0, none⟩) ∧ f 4 = .bool ((y2 && (decide (f_.High ≤ 2000))) && (decide ((w64 (f_.High - f_.Low)) ≤ 200))) ∧ f 33 = .bool p9) ?_ ?_
      · intro hJ10
        rcases ite_some hp9 with ⟨hc11, hF⟩ | ⟨hc11, hF⟩
        · skip
          refine JL.skip (.bool rfl rfl rfl hc11) rfl ?_
          refine JL.skip (.bool rfl rfl rfl hc11) rfl ?_
          refine JL.skip (.bool rfl rfl rfl hc11) rfl ?_
          refine JL.skip (.bool rfl rfl rfl hc11) rfl ?_
          refine JL.pick_t (b := (!y7)) rfl hc11 .none rfl ?_
          obtain rfl := Option.some.inj hF
          exact hJ10 _ ⟨rfl, rfl, rfl⟩
        · skip
          refine JL.fieldAddr fo_26_0 rfl (.some rfl rfl rfl hc11) rfl ?_
          refine JL.loadOwn 0 az_22 rfl rfl rfl (.some rfl rfl rfl hc11) rfl ?_
          refine JL.move (.some rfl rfl rfl hc11) rfl ?_
          obtain ⟨y12, hy12, hF⟩ := bind_some hF
          refine JL.callS (c_slices_ContainsFunc___api_Section_api_Section_ n H f_.Sections f__v0 hf__0 (fun a0_ => F_frames_Check_1 n a0_) 71 [] en_71 (fun H' hs' a0_ y' hy' => c_frames_Check_1 n H' a0_ y' hy') y12 hy12) rfl en_75 (.some rfl rfl rfl hc11) rfl ?_
          refine JL.pick_f (b := (!y7)) rfl hc11 .none rfl ?_
          obtain rfl := Option.some.inj hF
          exact hJ10 _ ⟨rfl, rfl, rfl⟩
      · rintro f ⟨hf1, hf4, hf33⟩
        refine (JL.norm (i := 1) hf1 (JL.norm (i := 4) hf4 (JL.norm (i := 33) hf33 ?_)))
        refine JL.move .none rfl ?_
        refine JL.cut 3 (fun f => f 1 = .pointer (some ⟨b1, 0, none⟩) ∧ f 37 = .bool (p9 || (!((y2 && (decide (f_.High ≤ 2000))) && (decide ((w64 (f_.High - f_.Low)) ≤ 200)))))) ?_ ?_
        · intro hJ13
          rcases bcases p9 with hc14 | hc14
          · skip
            refine JL.skip (.bool rfl rfl rfl hc14) rfl ?_
            refine JL.skip (.bool rfl rfl rfl hc14) rfl ?_
            refine JL.pick_t (b := p9) rfl hc14 .none rfl ?_
            exact hJ13 _ ⟨rfl, or_t hc14 rfl⟩
          · skip
            refine JL.move (.some rfl rfl rfl hc14) rfl ?_
            refine JL.not rfl (.some rfl rfl rfl hc14) rfl ?_
            refine JL.pick_f (b := p9) rfl hc14 .none rfl ?_
            exact hJ13 _ ⟨rfl, or_f hc14 rfl⟩
        · rintro f ⟨hf1, hf37⟩
          refine (JL.norm (i := 1) hf1 (JL.norm (i := 37) hf37 ?_))
          refine JL.move .none rfl ?_
          obtain ⟨p16, hp16, hF⟩ := bind_some hF
          refine JL.cut 5 (fun f => f 1 = .pointer (some ⟨b1, 0, none⟩) ∧ f 43 = .bool p16) ?_ ?_
          · intro hJ17
            rcases ite_some hp16 with ⟨hc18, hF⟩ | ⟨hc18, hF⟩
            · skip
              refine JL.skip (.bool rfl rfl rfl hc18) rfl ?_
              refine JL.skip (.bool rfl rfl rfl hc18) rfl ?_
              refine JL.skip (.bool rfl rfl rfl hc18) rfl ?_
              refine JL.skip (.bool rfl rfl rfl hc18) rfl ?_
              refine JL.pick_t (b := (p9 || (!((y2 && (decide (f_.High ≤ 2000))) && (decide ((w64 (f_.High - f_.Low)) ≤ 200)))))) rfl hc18 .none rfl ?_
              obtain rfl := Option.some.inj hF
              exact hJ17 _ ⟨rfl, rfl⟩
            · skip
              refine JL.fieldAddr fo_26_3 rfl (.some rfl rfl rfl hc18) rfl ?_
              refine JL.loadOwn 0 az_24 rfl rfl rfl (.some rfl rfl rfl hc18) rfl ?_
              obtain ⟨y19, hy19, hF⟩ := bind_some hF
              refine JL.callS (c_frames_isShare n H f_.Ease y19 hy19) rfl en_74 (.some rfl rfl rfl hc18) rfl ?_
              refine JL.not rfl (.some rfl rfl rfl hc18) rfl ?_
              refine JL.pick_f (b := (p9 || (!((y2 && (decide (f_.High ≤ 2000))) && (decide ((w64 (f_.High - f_.Low)) ≤ 200)))))) rfl hc18 .none rfl ?_
              obtain rfl := Option.some.inj hF
              exact hJ17 _ ⟨rfl, rfl⟩
          · rintro f ⟨hf1, hf43⟩
            refine (JL.norm (i := 1) hf1 (JL.norm (i := 43) hf43 ?_))
            refine JL.move .none rfl ?_
            obtain ⟨p21, hp21, hF⟩ := bind_some hF
            refine JL.cut 5 (fun f => f 1 = .pointer (some ⟨b1, 0, none⟩) ∧ f 49 = .bool p21) ?_ ?_
            · intro hJ22
              rcases ite_some hp21 with ⟨hc23, hF⟩ | ⟨hc23, hF⟩
              · skip
                refine JL.skip (.bool rfl rfl rfl hc23) rfl ?_
                refine JL.skip (.bool rfl rfl rfl hc23) rfl ?_
                refine JL.skip (.bool rfl rfl rfl hc23) rfl ?_
                refine JL.skip (.bool rfl rfl rfl hc23) rfl ?_
                refine JL.pick_t (b := p16) rfl hc23 .none rfl ?_
                obtain rfl := Option.some.inj hF
                exact hJ22 _ ⟨rfl, rfl⟩
              · skip
                refine JL.fieldAddr fo_26_4 rfl (.some rfl rfl rfl hc23) rfl ?_
                refine JL.loadOwn 0 az_3 rfl rfl rfl (.some rfl rfl rfl hc23) rfl ?_
                obtain ⟨y24, hy24, hF⟩ := bind_some hF
                refine JL.callS (c_frames_within n H f_.Rod 0 4000 y24 hy24) rfl en_73 (.some rfl rfl rfl hc23) rfl ?_
                refine JL.not rfl (.some rfl rfl rfl hc23) rfl ?_
                refine JL.pick_f (b := p16) rfl hc23 .none rfl ?_
                obtain rfl := Option.some.inj hF
                exact hJ22 _ ⟨rfl, rfl⟩
            · rintro f ⟨hf1, hf49⟩
              refine (JL.norm (i := 1) hf1 (JL.norm (i := 49) hf49 ?_))
              refine JL.move .none rfl ?_
              obtain ⟨p26, hp26, hF⟩ := bind_some hF
              refine JL.cut 5 (fun f => f 55 = .bool p26) ?_ ?_
              · intro hJ27
                rcases ite_some hp26 with ⟨hc28, hF⟩ | ⟨hc28, hF⟩
                · skip
                  refine JL.skip (.bool rfl rfl rfl hc28) rfl ?_
                  refine JL.skip (.bool rfl rfl rfl hc28) rfl ?_
                  refine JL.skip (.bool rfl rfl rfl hc28) rfl ?_
                  refine JL.skip (.bool rfl rfl rfl hc28) rfl ?_
                  refine JL.pick_t (b := p21) rfl hc28 .none rfl ?_
                  obtain rfl := Option.some.inj hF
                  exact hJ27 _ (rfl)
                · skip
                  refine JL.fieldAddr fo_26_5 rfl (.some rfl rfl rfl hc28) rfl ?_
                  refine JL.loadOwn 0 az_3 rfl rfl rfl (.some rfl rfl rfl hc28) rfl ?_
                  obtain ⟨y29, hy29, hF⟩ := bind_some hF
                  refine JL.callS (c_frames_within n H f_.Case 0 4000 y29 hy29) rfl en_73 (.some rfl rfl rfl hc28) rfl ?_
                  refine JL.not rfl (.some rfl rfl rfl hc28) rfl ?_
                  refine JL.pick_f (b := p21) rfl hc28 .none rfl ?_
                  obtain rfl := Option.some.inj hF
                  exact hJ27 _ (rfl)
              · rintro f hf55
                refine (JL.norm (i := 55) hf55 ?_)
                refine JL.done hQ ?_
                refine JQ.go ?_
                rcases ite_some hF with ⟨hc30, hF⟩ | ⟨hc30, hF⟩
                · refine JC.cond_t (b := p26) rfl hc30 ?_
                  refine JC.seq ?_
                  refine JC.region (by rfl) ?_
                  intro hQ
                  refine JL.assign .none rfl ?_
                  refine JL.done hQ ?_
                  refine JQ.go ?_
                  refine JC.ret ?_
                  refine JQ.ret_then ?_
                  obtain rfl := Option.some.inj hF
                  exact JQ.outS rfl (.tmp .nil) rfl
                · refine JC.cond_f (b := p26) rfl hc30 ?_
                  refine JC.skip ?_
                  refine JQ.go ?_
                  refine JC.seq ?_
                  refine JC.region (by rfl) ?_
                  intro hQ
                  refine JL.assign .none rfl ?_
                  refine JL.done hQ ?_
                  refine JQ.go ?_
                  refine JC.ret ?_
                  obtain rfl := Option.some.inj hF
                  exact JQ.outS rfl (.tmp .nil) rfl

-- 76 slices.IndexFunc[[]ferrule/api.Span,ferrule/api.Span]
def F_slices_IndexFunc___api_Span_api_Span__s1 (n : Nat) (s : List Span) (f_ : Span → Option Bool) : Int → Option (Int ⊕ (Int ⊕ Unit))
  | x_55 => if decide (x_55 < (s.length : Int)) = true then ((geti s x_55).bind fun y60 => (f_ y60).bind fun y65 => if y65 = true then (some (Sum.inr (Sum.inl x_55))) else (some (Sum.inl (w64 (x_55 + 1))))) else (some (Sum.inr (Sum.inr ())))
def F_slices_IndexFunc___api_Span_api_Span_ (n : Nat) (s : List Span) (f_ : Span → Option Bool) : Option Int :=
  (loopO n (F_slices_IndexFunc___api_Span_api_Span__s1 n s f_) 0).bind fun r34 => match r34 with | .inl o => some o | .inr _ => some (-1)
set_option maxRecDepth 100000 in
set_option maxHeartbeats 40000000 in
theorem c_slices_IndexFunc___api_Span_api_Span_ (n : Nat) (H : Hp) (s : List Span) (s_v0 : Value) (hs_0 : SL H 2 R_Span s_v0 s) (f_ : Span → Option Bool) (f__k : Nat) (f__c : List Value) (f__e : Ent Try.prog f__k) (f__h : ∀ H', HSub H H' → ∀ (a0_ : Span) (y : Bool), f_ a0_ = some y → SC Try.prog f__k ([.agg [.int .i64 a0_.Low, .int .i64 a0_.High].toArray] ++ f__c) (.bool y) H') (y : Int) (hF : F_slices_IndexFunc___api_Span_api_Span_ n s f_ = some y) : SC Try.prog 76 [s_v0, .func (.func f__k) #[] f__c.toArray] (.int .i64 y) H := by
  rw [F_slices_IndexFunc___api_Span_api_Span_] at hF
  refine SC.of (N := 19) Try.func76 rfl rfl rfl fun w => ?_
  refine JC.seq ?_
  refine JC.region (by rfl) ?_
  intro hQ
  refine JL.assign .none rfl ?_
  refine JL.done hQ ?_
  refine JQ.go ?_
  refine JC.seq ?_
  refine JC.seq ?_
  refine JC.region (by rfl) ?_
  intro hQ
  refine JL.move .none rfl ?_
  refine JL.lenSL (R := R_Span) ul_27 hs_0 .none rfl ?_
  refine JL.move .none rfl ?_
  refine JL.done hQ ?_
  refine JQ.go ?_
  obtain ⟨r34, hlr34, hKr34⟩ := bind_some hF
  refine JC.join (fun (_ : Unit) H33 f bs gs => bs = [] ∧ gs = [] ∧ HSub H H33 ∧ Sum.inr () = r34) ?_ ?_
  · skip
    refine JC.block ?_
    refine JC.loop hlr34 (fun (x_55 : Int) H56 f bs gs => f 0 = s_v0 ∧ f 1 = .func (.func f__k) #[] f__c.toArray ∧ f 7 = .int .i64 (s.length : Int) ∧ f 8 = .int .i64 x_55 ∧ bs = [] ∧ gs = [] ∧ HSub H H56) ⟨rfl, rfl, rfl, rfl, rfl, rfl, (HSub.refl _)⟩ ?_
    rintro x_55 x58 H56 f bs gs ⟨hf0, hf1, hf7, hf8, rfl, rfl, hs56⟩ hF hr57
    rw [F_slices_IndexFunc___api_Span_api_Span__s1] at hF
    refine (JC.norm (i := 0) hf0 (JC.norm (i := 1) hf1 (JC.norm (i := 7) hf7 (JC.norm (i := 8) hf8 ?_))))
    refine JC.seq ?_
    refine JC.region (by rfl) ?_
    intro hQ
    refine JL.bin rfl rfl rfl .none rfl ?_
    refine JL.done hQ ?_
    refine JQ.go ?_
    refine JC.seq ?_
    rcases ite_some hF with ⟨hc59, hF⟩ | ⟨hc59, hF⟩
    · refine JC.cond_t (b := decide (x_55 < (s.length : Int))) rfl hc59 ?_
      refine JC.skip ?_
      refine JQ.go ?_
      refine JC.seq ?_
      refine JC.block ?_
      refine JC.seq ?_
      refine JC.region (by rfl) ?_
      intro hQ
      refine JL.move .none rfl ?_
      refine JL.assign .none rfl ?_
      refine JL.done hQ ?_
      refine JQ.go ?_
      refine JC.seq ?_
      refine JC.region (by rfl) ?_
      intro hQ
      refine JL.move .none rfl ?_
      refine JL.move .none rfl ?_
      refine JL.move .none rfl ?_
      obtain ⟨y60, hy60, hF⟩ := bind_some hF
      refine JL.indexSL (R := R_Span) sl_27 (SL.mono R_Span_mono hs56 hs_0) rfl hy60 .none rfl ?_
      rintro b61 o62 cs63 hc64 - rfl
      refine JL.loadH 0 az_38 rfl hc64 rfl .none rfl ?_
      obtain ⟨y65, hy65, hF⟩ := bind_some hF
      refine JL.callV rfl (f__h H56 hs56 y60 y65 hy65) rfl f__e .none rfl ?_
      refine JL.done hQ ?_
      refine JQ.go ?_
      rcases ite_some hF with ⟨hc66, hF⟩ | ⟨hc66, hF⟩
      · refine JC.cond_t (b := y65) rfl hc66 ?_
        refine JC.seq ?_
        refine JC.region (by rfl) ?_
        intro hQ
        refine JL.move .none rfl ?_
        refine JL.assign .none rfl ?_
        refine JL.done hQ ?_
        refine JQ.go ?_
        refine JC.fresh (fun f => f 4 = .int .i64 x_55) rfl ?_
        rintro f hf4
        refine (JC.norm (i := 4) hf4 ?_)
        refine JC.ret ?_
        refine JQ.ret_block ?_
        refine JQ.ret_then ?_
        refine JQ.ret_then ?_
        refine JQ.ret_block ?_
        refine JQ.ret_join ?_
        refine JQ.ret_then ?_
        obtain rfl := Option.some.inj hF
        have ehr57 := hr57 _ rfl
        subst ehr57
        have hF := hKr34
        try dsimp only at hF
        obtain rfl := Option.some.inj hF
        exact JQ.outS rfl (.tmp .nil) rfl
      · refine JC.cond_f (b := y65) rfl hc66 ?_
        refine JC.skip ?_
        refine JQ.normal_block ?_
        refine JQ.go ?_
        refine JC.region (by rfl) ?_
        intro hQ
        refine JL.bin rfl rfl rfl .none rfl ?_
        refine JL.move .none rfl ?_
        refine JL.done hQ ?_
        obtain rfl := Option.some.inj hF
        exact JQ.next rfl ⟨rfl, rfl, rfl, rfl, rfl, rfl, hs56⟩
    · refine JC.cond_f (b := decide (x_55 < (s.length : Int))) rfl hc59 ?_
      refine JC.exit ?_
      refine JQ.exit_then ?_
      refine JQ.exit_then ?_
      refine JQ.exit_block ?_
      obtain rfl := Option.some.inj hF
      have ehr57 := hr57 _ rfl
      subst ehr57
      exact JQ.join () ⟨rfl, rfl, hs56, rfl⟩
  · rintro _ H33 f bs gs ⟨rfl, rfl, hs33, rfl⟩
    have hF := hKr34
    try dsimp only at hF
    refine JQ.go ?_
    refine JC.seq ?_
    refine JC.region (by rfl) ?_
    intro hQ
    refine JL.assign .none rfl ?_
    refine JL.done hQ ?_
    refine JQ.go ?_
    refine JC.ret ?_
    obtain rfl := Option.some.inj hF
    exact JQ.outS rfl (.tmp .nil) rfl

-- 52 slices.ContainsFunc[[]ferrule/api.Span,ferrule/api.Span]
def F_slices_ContainsFunc___api_Span_api_Span_ (n : Nat) (s : List Span) (f_ : Span → Option Bool) : Option Bool :=
  (F_slices_IndexFunc___api_Span_api_Span_ n s f_).bind fun y1 => some (decide (0 ≤ y1))
set_option maxRecDepth 100000 in
set_option maxHeartbeats 40000000 in
theorem c_slices_ContainsFunc___api_Span_api_Span_ (n : Nat) (H : Hp) (s : List Span) (s_v0 : Value) (hs_0 : SL H 2 R_Span s_v0 s) (f_ : Span → Option Bool) (f__k : Nat) (f__c : List Value) (f__e : Ent Try.prog f__k) (f__h : ∀ H', HSub H H' → ∀ (a0_ : Span) (y : Bool), f_ a0_ = some y → SC Try.prog f__k ([.agg [.int .i64 a0_.Low, .int .i64 a0_.High].toArray] ++ f__c) (.bool y) H') (y : Bool) (hF : F_slices_ContainsFunc___api_Span_api_Span_ n s f_ = some y) : SC Try.prog 52 [s_v0, .func (.func f__k) #[] f__c.toArray] (.bool y) H := by
  rw [F_slices_ContainsFunc___api_Span_api_Span_] at hF
  refine SC.of (N := 9) Try.func52 rfl rfl rfl fun w => ?_
  refine JC.seq ?_
  refine JC.region (by rfl) ?_
  intro hQ
  refine JL.assign .none rfl ?_
  refine JL.done hQ ?_
  refine JQ.go ?_
  refine JC.seq ?_
  refine JC.region (by rfl) ?_
  intro hQ
  refine JL.move .none rfl ?_
  refine JL.move .none rfl ?_
  obtain ⟨y1, hy1, hF⟩ := bind_some hF
  refine JL.callS (c_slices_IndexFunc___api_Span_api_Span_ n H s s_v0 hs_0 f_ f__k f__c f__e (fun H' hs' => f__h H' hs') y1 hy1) rfl en_76 .none rfl ?_
  refine JL.bin rfl rfl rfl .none rfl ?_
  refine JL.assign .none rfl ?_
  refine JL.done hQ ?_
  refine JQ.go ?_
  refine JC.ret ?_
  obtain rfl := Option.some.inj hF
  exact JQ.outS rfl (.tmp .nil) rfl

-- 77 slices.IndexFunc[[]int,int]
def F_slices_IndexFunc___int_int__s1 (n : Nat) (s : List Int) (f_ : Int → Option Bool) : Int → Option (Int ⊕ (Int ⊕ Unit))
  | x_55 => if decide (x_55 < (s.length : Int)) = true then ((geti s x_55).bind fun y60 => (f_ y60).bind fun y65 => if y65 = true then (some (Sum.inr (Sum.inl x_55))) else (some (Sum.inl (w64 (x_55 + 1))))) else (some (Sum.inr (Sum.inr ())))
def F_slices_IndexFunc___int_int_ (n : Nat) (s : List Int) (f_ : Int → Option Bool) : Option Int :=
  (loopO n (F_slices_IndexFunc___int_int__s1 n s f_) 0).bind fun r34 => match r34 with | .inl o => some o | .inr _ => some (-1)
set_option maxRecDepth 100000 in
set_option maxHeartbeats 40000000 in
theorem c_slices_IndexFunc___int_int_ (n : Nat) (H : Hp) (s : List Int) (s_v0 : Value) (hs_0 : SL H 1 RInt s_v0 s) (f_ : Int → Option Bool) (f__k : Nat) (f__c : List Value) (f__e : Ent Try.prog f__k) (f__h : ∀ H', HSub H H' → ∀ (a0_ : Int) (y : Bool), f_ a0_ = some y → SC Try.prog f__k ([.int .i64 a0_] ++ f__c) (.bool y) H') (y : Int) (hF : F_slices_IndexFunc___int_int_ n s f_ = some y) : SC Try.prog 77 [s_v0, .func (.func f__k) #[] f__c.toArray] (.int .i64 y) H := by
  rw [F_slices_IndexFunc___int_int_] at hF
  refine SC.of (N := 19) Try.func77 rfl rfl rfl fun w => ?_
  refine JC.seq ?_
  refine JC.region (by rfl) ?_
  intro hQ
  refine JL.assign .none rfl ?_
  refine JL.done hQ ?_
  refine JQ.go ?_
  refine JC.seq ?_
  refine JC.seq ?_
  refine JC.region (by rfl) ?_
  intro hQ
  refine JL.move .none rfl ?_
  refine JL.lenSL (R := RInt) ul_28 hs_0 .none rfl ?_
  refine JL.move .none rfl ?_
  refine JL.done hQ ?_
  refine JQ.go ?_
  obtain ⟨r34, hlr34, hKr34⟩ := bind_some hF
  refine JC.join (fun (_ : Unit) H33 f bs gs => bs = [] ∧ gs = [] ∧ HSub H H33 ∧ Sum.inr () = r34) ?_ ?_
  · skip
    refine JC.block ?_
    refine JC.loop hlr34 (fun (x_55 : Int) H56 f bs gs => f 0 = s_v0 ∧ f 1 = .func (.func f__k) #[] f__c.toArray ∧ f 7 = .int .i64 (s.length : Int) ∧ f 8 = .int .i64 x_55 ∧ bs = [] ∧ gs = [] ∧ HSub H H56) ⟨rfl, rfl, rfl, rfl, rfl, rfl, (HSub.refl _)⟩ ?_
    rintro x_55 x58 H56 f bs gs ⟨hf0, hf1, hf7, hf8, rfl, rfl, hs56⟩ hF hr57
    rw [F_slices_IndexFunc___int_int__s1] at hF
    refine (JC.norm (i := 0) hf0 (JC.norm (i := 1) hf1 (JC.norm (i := 7) hf7 (JC.norm (i := 8) hf8 ?_))))
    refine JC.seq ?_
    refine JC.region (by rfl) ?_
    intro hQ
    refine JL.bin rfl rfl rfl .none rfl ?_
    refine JL.done hQ ?_
    refine JQ.go ?_
    refine JC.seq ?_
    rcases ite_some hF with ⟨hc59, hF⟩ | ⟨hc59, hF⟩
    · refine JC.cond_t (b := decide (x_55 < (s.length : Int))) rfl hc59 ?_
      refine JC.skip ?_
      refine JQ.go ?_
      refine JC.seq ?_
      refine JC.block ?_
      refine JC.seq ?_
      refine JC.region (by rfl) ?_
      intro hQ
      refine JL.move .none rfl ?_
      refine JL.assign .none rfl ?_
      refine JL.done hQ ?_
      refine JQ.go ?_
      refine JC.seq ?_
      refine JC.region (by rfl) ?_
      intro hQ
      refine JL.move .none rfl ?_
      refine JL.move .none rfl ?_
      refine JL.move .none rfl ?_
      obtain ⟨y60, hy60, hF⟩ := bind_some hF
      refine JL.indexSL (R := RInt) sl_28 (SL.mono RInt.mono hs56 hs_0) rfl hy60 .none rfl ?_
      rintro b61 o62 cs63 hc64 - rfl
      refine JL.loadH 0 az_3 rfl hc64 rfl .none rfl ?_
      obtain ⟨y65, hy65, hF⟩ := bind_some hF
      refine JL.callV rfl (f__h H56 hs56 y60 y65 hy65) rfl f__e .none rfl ?_
      refine JL.done hQ ?_
      refine JQ.go ?_
      rcases ite_some hF with ⟨hc66, hF⟩ | ⟨hc66, hF⟩
      · refine JC.cond_t (b := y65) rfl hc66 ?_
        refine JC.seq ?_
        refine JC.region (by rfl) ?_
        intro hQ
        refine JL.move .none rfl ?_
        refine JL.assign .none rfl ?_
        refine JL.done hQ ?_
        refine JQ.go ?_
        refine JC.fresh (fun f => f 4 = .int .i64 x_55) rfl ?_
        rintro f hf4
        refine (JC.norm (i := 4) hf4 ?_)
        refine JC.ret ?_
        refine JQ.ret_block ?_
        refine JQ.ret_then ?_
        refine JQ.ret_then ?_
        refine JQ.ret_block ?_
        refine JQ.ret_join ?_
        refine JQ.ret_then ?_
        obtain rfl := Option.some.inj hF
        have ehr57 := hr57 _ rfl
        subst ehr57
        have hF := hKr34
        try dsimp only at hF
        obtain rfl := Option.some.inj hF
        exact JQ.outS rfl (.tmp .nil) rfl
      · refine JC.cond_f (b := y65) rfl hc66 ?_
        refine JC.skip ?_
        refine JQ.normal_block ?_
        refine JQ.go ?_
        refine JC.region (by rfl) ?_
        intro hQ
        refine JL.bin rfl rfl rfl .none rfl ?_
        refine JL.move .none rfl ?_
        refine JL.done hQ ?_
        obtain rfl := Option.some.inj hF
        exact JQ.next rfl ⟨rfl, rfl, rfl, rfl, rfl, rfl, hs56⟩
    · refine JC.cond_f (b := decide (x_55 < (s.length : Int))) rfl hc59 ?_
      refine JC.exit ?_
      refine JQ.exit_then ?_
      refine JQ.exit_then ?_
      refine JQ.exit_block ?_
      obtain rfl := Option.some.inj hF
      have ehr57 := hr57 _ rfl
      subst ehr57
      exact JQ.join () ⟨rfl, rfl, hs56, rfl⟩
  · rintro _ H33 f bs gs ⟨rfl, rfl, hs33, rfl⟩
    have hF := hKr34
    try dsimp only at hF
    refine JQ.go ?_
    refine JC.seq ?_
    refine JC.region (by rfl) ?_
    intro hQ
    refine JL.assign .none rfl ?_
    refine JL.done hQ ?_
    refine JQ.go ?_
    refine JC.ret ?_
    obtain rfl := Option.some.inj hF
    exact JQ.outS rfl (.tmp .nil) rfl

-- 53 slices.ContainsFunc[[]int,int]
def F_slices_ContainsFunc___int_int_ (n : Nat) (s : List Int) (f_ : Int → Option Bool) : Option Bool :=
  (F_slices_IndexFunc___int_int_ n s f_).bind fun y1 => some (decide (0 ≤ y1))
set_option maxRecDepth 100000 in
set_option maxHeartbeats 40000000 in
theorem c_slices_ContainsFunc___int_int_ (n : Nat) (H : Hp) (s : List Int) (s_v0 : Value) (hs_0 : SL H 1 RInt s_v0 s) (f_ : Int → Option Bool) (f__k : Nat) (f__c : List Value) (f__e : Ent Try.prog f__k) (f__h : ∀ H', HSub H H' → ∀ (a0_ : Int) (y : Bool), f_ a0_ = some y → SC Try.prog f__k ([.int .i64 a0_] ++ f__c) (.bool y) H') (y : Bool) (hF : F_slices_ContainsFunc___int_int_ n s f_ = some y) : SC Try.prog 53 [s_v0, .func (.func f__k) #[] f__c.toArray] (.bool y) H := by
  rw [F_slices_ContainsFunc___int_int_] at hF
  refine SC.of (N := 9) Try.func53 rfl rfl rfl fun w => ?_
  refine JC.seq ?_
  refine JC.region (by rfl) ?_
  intro hQ
  refine JL.assign .none rfl ?_
  refine JL.done hQ ?_
  refine JQ.go ?_
  refine JC.seq ?_
  refine JC.region (by rfl) ?_
  intro hQ
  refine JL.move .none rfl ?_
  refine JL.move .none rfl ?_
  obtain ⟨y1, hy1, hF⟩ := bind_some hF
  refine JL.callS (c_slices_IndexFunc___int_int_ n H s s_v0 hs_0 f_ f__k f__c f__e (fun H' hs' => f__h H' hs') y1 hy1) rfl en_77 .none rfl ?_
  refine JL.bin rfl rfl rfl .none rfl ?_
  refine JL.assign .none rfl ?_
  refine JL.done hQ ?_
  refine JQ.go ?_
  refine JC.ret ?_
  obtain rfl := Option.some.inj hF
  exact JQ.outS rfl (.tmp .nil) rfl

-- 17 ferrule/gusts.Check
def F_gusts_Check (n : Nat) (d : Canopy) : Option Int :=
  (F_frames_Check n d.Frame).bind fun y2 => (if (y2 != 0) = true then (some true) else ((F_gusts_within n (d.Ribs.length : Int) 3 10).bind fun y7 => some (!y7)) : Option Bool).bind fun p4 => (if (p4 || ((d.Shares.length : Int) != (d.Ribs.length : Int))) = true then (some true) else ((F_slices_ContainsFunc___api_Span_api_Span_ n d.Ribs (fun a0_ => F_gusts_Check_1 n a0_)).bind fun y14 => some y14) : Option Bool).bind fun p11 => (if p11 = true then (some true) else ((F_slices_ContainsFunc___int_int_ n d.Shares (fun a0_ => F_gusts_Check_2 n a0_)).bind fun y19 => some y19) : Option Bool).bind fun p16 => if p16 = true then (some 50) else (some 0)
set_option maxRecDepth 100000 in
set_option maxHeartbeats 40000000 in
theorem c_gusts_Check (n : Nat) (H : Hp) (d : Canopy) (d_v0 : Value) (hd_0 : SL H 7 R_Section d_v0 d.Frame.Sections) (d_v7 : Value) (hd_7 : SL H 2 R_Span d_v7 d.Ribs) (d_v8 : Value) (hd_8 : SL H 1 RInt d_v8 d.Shares) (y : Int) (hF : F_gusts_Check n d = some y) : SC Try.prog 17 [.agg [d_v0, .int .i64 d.Frame.Low, .int .i64 d.Frame.High, .int .i64 d.Frame.Ease.Num, .int .i64 d.Frame.Ease.Den, .int .i64 d.Frame.Rod, .int .i64 d.Frame.Case, d_v7, d_v8].toArray] (.int .i64 y) H := by
  rw [F_gusts_Check] at hF
  refine SC.of (N := 37) Try.func17 rfl rfl rfl fun w => ?_
  refine JC.seq ?_
  refine JC.region (by rfl) ?_
  intro hQ
  refine JL.box (cs := [d_v0, .int .i64 d.Frame.Low, .int .i64 d.Frame.High, .int .i64 d.Frame.Ease.Num, .int .i64 d.Frame.Ease.Den, .int .i64 d.Frame.Rod, .int .i64 d.Frame.Case, d_v7, d_v8]) rfl .none rfl ?_
  intro b1
  refine JL.assign .none rfl ?_
  refine JL.done hQ ?_
  refine JQ.go ?_
  refine JC.seq ?_
  refine JC.region (by rfl) ?_
  intro hQ
  refine JL.assign .none rfl ?_
  refine JL.done hQ ?_
  refine JQ.go ?_
  refine JC.seq ?_
  refine JC.region (by rfl) ?_
  intro hQ
  refine JL.assign .none rfl ?_
  refine JL.done hQ ?_
  refine JQ.go ?_
  refine JC.seq ?_
  refine JC.seq ?_
  refine JC.region (by rfl) ?_
  intro hQ
  refine JL.fieldAddr fo_30_0 rfl .none rfl ?_
  refine JL.loadOwn 0 az_26 rfl rfl rfl .none rfl ?_
  obtain ⟨y2, hy2, hF⟩ := bind_some hF
  refine JL.callS (c_frames_Check n H d.Frame d_v0 hd_0 y2 hy2) rfl en_51 .none rfl ?_
  refine JL.bin rfl rfl rfl .none rfl ?_
  refine JL.move .none rfl ?_
  obtain ⟨p4, hp4, hF⟩ := bind_some hF
  refine JL.cut 6 (fun f => f 1 = .pointer (some ⟨b1, 0, none⟩) ∧ f 3 = .func (.func 48) #[] [].toArray ∧ f 4 = .func (.func 50) #[] [].toArray ∧ f 15 = .bool p4) ?_ ?_
  · intro hJ5
    rcases ite_some hp4 with ⟨hc6, hF⟩ | ⟨hc6, hF⟩
    · skip
      refine JL.skip (.bool rfl rfl rfl hc6) rfl ?_
      refine JL.skip (.bool rfl rfl rfl hc6) rfl ?_
      refine JL.skip (.bool rfl rfl rfl hc6) rfl ?_
      refine JL.skip (.bool rfl rfl rfl hc6) rfl ?_
      refine JL.skip (.bool rfl rfl rfl hc6) rfl ?_
      refine JL.pick_t (b := (y2 != 0)) rfl hc6 .none rfl ?_
      obtain rfl := Option.some.inj hF
      exact hJ5 _ ⟨rfl, rfl, rfl, rfl⟩
    · skip
      refine JL.fieldAddr fo_30_1 rfl (.some rfl rfl rfl hc6) rfl ?_
      refine JL.loadOwn 0 az_27 rfl rfl rfl (.some rfl rfl rfl hc6) rfl ?_
      refine JL.lenSL (R := R_Span) ul_27 hd_7 (.some rfl rfl rfl hc6) rfl ?_
      obtain ⟨y7, hy7, hF⟩ := bind_some hF
      refine JL.callS (c_gusts_within n H (d.Ribs.length : Int) 3 10 y7 hy7) rfl en_49 (.some rfl rfl rfl hc6) rfl ?_
      refine JL.not rfl (.some rfl rfl rfl hc6) rfl ?_
      refine JL.pick_f (b := (y2 != 0)) rfl hc6 .none rfl ?_
      obtain rfl := Option.some.inj hF
      exact hJ5 _ ⟨rfl, rfl, rfl, rfl⟩
  · rintro f ⟨hf1, hf3, hf4, hf15⟩
    refine (JL.norm (i := 1) hf1 (JL.norm (i := 3) hf3 (JL.norm (i := 4) hf4 (JL.norm (i := 15) hf15 ?_))))
    refine JL.move .none rfl ?_
    refine JL.cut 8 (fun f => f 1 = .pointer (some ⟨b1, 0, none⟩) ∧ f 3 = .func (.func 48) #[] [].toArray ∧ f 4 = .func (.func 50) #[] [].toArray ∧ f 24 = .bool (p4 || ((d.Shares.length : Int) != (d.Ribs.length : Int)))) ?_ ?_
    · intro hJ8
      rcases bcases p4 with hc9 | hc9
      · skip
        refine JL.skip (.bool rfl rfl rfl hc9) rfl ?_
        refine JL.skip (.bool rfl rfl rfl hc9) rfl ?_
        refine JL.skip (.bool rfl rfl rfl hc9) rfl ?_
        refine JL.skip (.bool rfl rfl rfl hc9) rfl ?_
        refine JL.skip (.bool rfl rfl rfl hc9) rfl ?_
        refine JL.skip (.bool rfl rfl rfl hc9) rfl ?_
        refine JL.skip (.bool rfl rfl rfl hc9) rfl ?_
        refine JL.pick_t (b := p4) rfl hc9 .none rfl ?_
        exact hJ8 _ ⟨rfl, rfl, rfl, or_t hc9 rfl⟩
      · skip
        refine JL.fieldAddr fo_30_2 rfl (.some rfl rfl rfl hc9) rfl ?_
        refine JL.loadOwn 0 az_28 rfl rfl rfl (.some rfl rfl rfl hc9) rfl ?_
        refine JL.lenSL (R := RInt) ul_28 hd_8 (.some rfl rfl rfl hc9) rfl ?_
        refine JL.fieldAddr fo_30_1 rfl (.some rfl rfl rfl hc9) rfl ?_
        refine JL.loadOwn 0 az_27 rfl rfl rfl (.some rfl rfl rfl hc9) rfl ?_
        refine JL.lenSL (R := R_Span) ul_27 hd_7 (.some rfl rfl rfl hc9) rfl ?_
        refine JL.bin rfl rfl rfl (.some rfl rfl rfl hc9) rfl ?_
        refine JL.pick_f (b := p4) rfl hc9 .none rfl ?_
        exact hJ8 _ ⟨rfl, rfl, rfl, or_f hc9 rfl⟩
    · rintro f ⟨hf1, hf3, hf4, hf24⟩
      refine (JL.norm (i := 1) hf1 (JL.norm (i := 3) hf3 (JL.norm (i := 4) hf4 (JL.norm (i := 24) hf24 ?_))))
      refine JL.move .none rfl ?_
      obtain ⟨p11, hp11, hF⟩ := bind_some hF
      refine JL.cut 5 (fun f => f 1 = .pointer (some ⟨b1, 0, none⟩) ∧ f 4 = .func (.func 50) #[] [].toArray ∧ f 30 = .bool p11) ?_ ?_
      · intro hJ12
        rcases ite_some hp11 with ⟨hc13, hF⟩ | ⟨hc13, hF⟩
        · skip
          refine JL.skip (.bool rfl rfl rfl hc13) rfl ?_
          refine JL.skip (.bool rfl rfl rfl hc13) rfl ?_
          refine JL.skip (.bool rfl rfl rfl hc13) rfl ?_
          refine JL.skip (.bool rfl rfl rfl hc13) rfl ?_
          refine JL.pick_t (b := (p4 || ((d.Shares.length : Int) != (d.Ribs.length : Int)))) rfl hc13 .none rfl ?_
          obtain rfl := Option.some.inj hF
          exact hJ12 _ ⟨rfl, rfl, rfl⟩
        · skip
          refine JL.fieldAddr fo_30_1 rfl (.some rfl rfl rfl hc13) rfl ?_
          refine JL.loadOwn 0 az_27 rfl rfl rfl (.some rfl rfl rfl hc13) rfl ?_
          refine JL.move (.some rfl rfl rfl hc13) rfl ?_
          obtain ⟨y14, hy14, hF⟩ := bind_some hF
          refine JL.callS (c_slices_ContainsFunc___api_Span_api_Span_ n H d.Ribs d_v7 hd_7 (fun a0_ => F_gusts_Check_1 n a0_) 48 [] en_48 (fun H' hs' a0_ y' hy' => c_gusts_Check_1 n H' a0_ y' hy') y14 hy14) rfl en_52 (.some rfl rfl rfl hc13) rfl ?_
          refine JL.pick_f (b := (p4 || ((d.Shares.length : Int) != (d.Ribs.length : Int)))) rfl hc13 .none rfl ?_
          obtain rfl := Option.some.inj hF
          exact hJ12 _ ⟨rfl, rfl, rfl⟩
      · rintro f ⟨hf1, hf4, hf30⟩
        refine (JL.norm (i := 1) hf1 (JL.norm (i := 4) hf4 (JL.norm (i := 30) hf30 ?_)))
        refine JL.move .none rfl ?_
        obtain ⟨p16, hp16, hF⟩ := bind_some hF
        refine JL.cut 5 (fun f => f 36 = .bool p16) ?_ ?_
        · intro hJ17
          rcases ite_some hp16 with ⟨hc18, hF⟩ | ⟨hc18, hF⟩
          · skip
            refine JL.skip (.bool rfl rfl rfl hc18) rfl ?_
            refine JL.skip (.bool rfl rfl rfl hc18) rfl ?_
            refine JL.skip (.bool rfl rfl rfl hc18) rfl ?_
            refine JL.skip (.bool rfl rfl rfl hc18) rfl ?_
            refine JL.pick_t (b := p11) rfl hc18 .none rfl ?_
            obtain rfl := Option.some.inj hF
            exact hJ17 _ (rfl)
          · skip
            refine JL.fieldAddr fo_30_2 rfl (.some rfl rfl rfl hc18) rfl ?_
            refine JL.loadOwn 0 az_28 rfl rfl rfl (.some rfl rfl rfl hc18) rfl ?_
            refine JL.move (.some rfl rfl rfl hc18) rfl ?_
            obtain ⟨y19, hy19, hF⟩ := bind_some hF
            refine JL.callS (c_slices_ContainsFunc___int_int_ n H d.Shares d_v8 hd_8 (fun a0_ => F_gusts_Check_2 n a0_) 50 [] en_50 (fun H' hs' a0_ y' hy' => c_gusts_Check_2 n H' a0_ y' hy') y19 hy19) rfl en_53 (.some rfl rfl rfl hc18) rfl ?_
            refine JL.pick_f (b := p11) rfl hc18 .none rfl ?_
            obtain rfl := Option.some.inj hF
            exact hJ17 _ (rfl)
        · rintro f hf36
          refine (JL.norm (i := 36) hf36 ?_)
          refine JL.done hQ ?_
          refine JQ.go ?_
          rcases ite_some hF with ⟨hc20, hF⟩ | ⟨hc20, hF⟩
          · refine JC.cond_t (b := p16) rfl hc20 ?_
            refine JC.seq ?_
            refine JC.region (by rfl) ?_
            intro hQ
            refine JL.assign .none rfl ?_
            refine JL.done hQ ?_
            refine JQ.go ?_
            refine JC.ret ?_
            refine JQ.ret_then ?_
            obtain rfl := Option.some.inj hF
            exact JQ.outS rfl (.tmp .nil) rfl
          · refine JC.cond_f (b := p16) rfl hc20 ?_
            refine JC.skip ?_
            refine JQ.go ?_
            refine JC.seq ?_
            refine JC.region (by rfl) ?_
            intro hQ
            refine JL.assign .none rfl ?_
            refine JL.done hQ ?_
            refine JQ.go ?_
            refine JC.ret ?_
            obtain rfl := Option.some.inj hF
            exact JQ.outS rfl (.tmp .nil) rfl

-- 91 ferrule/frames.ask
def F_frames_ask (n : Nat) (f_ : Frame) (section_ : Int) (r : Int) : Option Int :=
  (F_frames_Check n f_).bind fun y2 => if (y2 != 0) = true then (some y2) else ((F_frames_within n section_ 0 (w64 ((f_.Sections.length : Int) - 1))).bind fun y4 => (if (!y4) = true then (some true) else ((F_frames_within n r f_.Low f_.High).bind fun y9 => some (!y9)) : Option Bool).bind fun p6 => if p6 = true then (some 1) else (some 0))
set_option maxRecDepth 100000 in
set_option maxHeartbeats 40000000 in
theorem c_frames_ask (n : Nat) (H : Hp) (f_ : Frame) (f__v0 : Value) (hf__0 : SL H 7 R_Section f__v0 f_.Sections) (section_ : Int) (r : Int) (y : Int) (hF : F_frames_ask n f_ section_ r = some y) : SC Try.prog 91 [.agg [f__v0, .int .i64 f_.Low, .int .i64 f_.High, .int .i64 f_.Ease.Num, .int .i64 f_.Ease.Den, .int .i64 f_.Rod, .int .i64 f_.Case].toArray, .int .i64 section_, .int .i64 r] (.int .i64 y) H := by
  rw [F_frames_ask] at hF
  refine SC.of (N := 29) Try.func91 rfl rfl rfl fun w => ?_
  refine JC.seq ?_
  refine JC.region (by rfl) ?_
  intro hQ
  refine JL.box (cs := [f__v0, .int .i64 f_.Low, .int .i64 f_.High, .int .i64 f_.Ease.Num, .int .i64 f_.Ease.Den, .int .i64 f_.Rod, .int .i64 f_.Case]) rfl .none rfl ?_
  intro b1
  refine JL.assign .none rfl ?_
  refine JL.done hQ ?_
  refine JQ.go ?_
  refine JC.seq ?_
  refine JC.seq ?_
  refine JC.region (by rfl) ?_
  intro hQ
  refine JL.loadOwn 0 az_26 rfl rfl rfl .none rfl ?_
  obtain ⟨y2, hy2, hF⟩ := bind_some hF
  refine JL.callS (c_frames_Check n H f_ f__v0 hf__0 y2 hy2) rfl en_51 .none rfl ?_
  refine JL.assign .none rfl ?_
  refine JL.done hQ ?_
  refine JQ.go ?_
  refine JC.seq ?_
  refine JC.region (by rfl) ?_
  intro hQ
  refine JL.move .none rfl ?_
  refine JL.bin rfl rfl rfl .none rfl ?_
  refine JL.done hQ ?_
  refine JQ.go ?_
  rcases ite_some hF with ⟨hc3, hF⟩ | ⟨hc3, hF⟩
  · refine JC.cond_t (b := (y2 != 0)) rfl hc3 ?_
    refine JC.seq ?_
    refine JC.region (by rfl) ?_
    intro hQ
    refine JL.move .none rfl ?_
    refine JL.assign .none rfl ?_
    refine JL.done hQ ?_
    refine JQ.go ?_
    refine JC.ret ?_
    refine JQ.ret_then ?_
    obtain rfl := Option.some.inj hF
    exact JQ.outS rfl (.tmp .nil) rfl
  · refine JC.cond_f (b := (y2 != 0)) rfl hc3 ?_
    refine JC.skip ?_
    refine JQ.go ?_
    refine JC.seq ?_
    refine JC.seq ?_
    refine JC.region (by rfl) ?_
    intro hQ
    refine JL.move .none rfl ?_
    refine JL.fieldAddr fo_26_0 rfl .none rfl ?_
    refine JL.loadOwn 0 az_22 rfl rfl rfl .none rfl ?_
    refine JL.lenSL (R := R_Section) ul_22 hf__0 .none rfl ?_
    refine JL.bin rfl rfl rfl .none rfl ?_
    obtain ⟨y4, hy4, hF⟩ := bind_some hF
    refine JL.callS (c_frames_within n H section_ 0 (w64 ((f_.Sections.length : Int) - 1)) y4 hy4) rfl en_73 .none rfl ?_
    refine JL.not rfl .none rfl ?_
    refine JL.move .none rfl ?_
    obtain ⟨p6, hp6, hF⟩ := bind_some hF
    refine JL.cut 8 (fun f => f 28 = .bool p6) ?_ ?_
    · intro hJ7
      rcases ite_some hp6 with ⟨hc8, hF⟩ | ⟨hc8, hF⟩
      · skip
        refine JL.skip (.bool rfl rfl rfl hc8) rfl ?_
        refine JL.skip (.bool rfl rfl rfl hc8) rfl ?_
        refine JL.skip (.bool rfl rfl rfl hc8) rfl ?_
        refine JL.skip (.bool rfl rfl rfl hc8) rfl ?_
        refine JL.skip (.bool rfl rfl rfl hc8) rfl ?_
        refine JL.skip (.bool rfl rfl rfl hc8) rfl ?_
        refine JL.skip (.bool rfl rfl rfl hc8) rfl ?_
        refine JL.pick_t (b := (!y4)) rfl hc8 .none rfl ?_
        obtain rfl := Option.some.inj hF
        exact hJ7 _ (rfl)
      · skip
        refine JL.move (.some rfl rfl rfl hc8) rfl ?_
        refine JL.fieldAddr fo_26_1 rfl (.some rfl rfl rfl hc8) rfl ?_
        refine JL.loadOwn 0 az_3 rfl rfl rfl (.some rfl rfl rfl hc8) rfl ?_
        refine JL.fieldAddr fo_26_2 rfl (.some rfl rfl rfl hc8) rfl ?_
        refine JL.loadOwn 0 az_3 rfl rfl rfl (.some rfl rfl rfl hc8) rfl ?_
        obtain ⟨y9, hy9, hF⟩ := bind_some hF
        refine JL.callS (c_frames_within n H r f_.Low f_.High y9 hy9) rfl en_73 (.some rfl rfl rfl hc8) rfl ?_
        refine JL.not rfl (.some rfl rfl rfl hc8) rfl ?_
        refine JL.pick_f (b := (!y4)) rfl hc8 .none rfl ?_
        obtain rfl := Option.some.inj hF
        exact hJ7 _ (rfl)
    · rintro f hf28
      refine (JL.norm (i := 28) hf28 ?_)
      refine JL.done hQ ?_
      refine JQ.go ?_
      rcases ite_some hF with ⟨hc10, hF⟩ | ⟨hc10, hF⟩
      · refine JC.cond_t (b := p6) rfl hc10 ?_
        refine JC.seq ?_
        refine JC.region (by rfl) ?_
        intro hQ
        refine JL.assign .none rfl ?_
        refine JL.done hQ ?_
        refine JQ.go ?_
        refine JC.ret ?_
        refine JQ.ret_then ?_
        obtain rfl := Option.some.inj hF
        exact JQ.outS rfl (.tmp .nil) rfl
      · refine JC.cond_f (b := p6) rfl hc10 ?_
        refine JC.skip ?_
        refine JQ.go ?_
        refine JC.seq ?_
        refine JC.region (by rfl) ?_
        intro hQ
        refine JL.assign .none rfl ?_
        refine JL.done hQ ?_
        refine JQ.go ?_
        refine JC.ret ?_
        obtain rfl := Option.some.inj hF
        exact JQ.outS rfl (.tmp .nil) rfl

-- 92 ferrule/frames.distance
def F_frames_distance_s1 (n : Nat) (y2 : List Section) : Int × Int → Option ((Int × Int) ⊕ Int)
  | (r_70, x_71) => if decide (x_71 < (y2.length : Int)) = true then ((geti y2 x_71).bind fun y76 => (nz y76.Gear.Den).bind fun _ => some (Sum.inl ((w64 (y76.Base + (w64 ((w64 (r_70 * y76.Gear.Num)).tdiv y76.Gear.Den)))), (w64 (x_71 + 1))))) else (some (Sum.inr r_70))
def F_frames_distance (n : Nat) (f_ : Frame) (section_ : Int) (r : Int) : Option Int :=
  (slc f_.Sections 1 (w64 (section_ + 1))).bind fun y2 => (loopO n (F_frames_distance_s1 n y2) (r, 0)).bind fun r_43 => some r_43
set_option maxRecDepth 100000 in
set_option maxHeartbeats 40000000 in
theorem c_frames_distance (n : Nat) (H : Hp) (f_ : Frame) (f__v0 : Value) (hf__0 : SL H 7 R_Section f__v0 f_.Sections) (section_ : Int) (r : Int) (y : Int) (hF : F_frames_distance n f_ section_ r = some y) : SC Try.prog 92 [.agg [f__v0, .int .i64 f_.Low, .int .i64 f_.High, .int .i64 f_.Ease.Num, .int .i64 f_.Ease.Den, .int .i64 f_.Rod, .int .i64 f_.Case].toArray, .int .i64 section_, .int .i64 r] (.int .i64 y) H := by
  rw [F_frames_distance] at hF
  refine SC.of (N := 33) Try.func92 rfl rfl rfl fun w => ?_
  refine JC.seq ?_
  refine JC.region (by rfl) ?_
  intro hQ
  refine JL.box (cs := [f__v0, .int .i64 f_.Low, .int .i64 f_.High, .int .i64 f_.Ease.Num, .int .i64 f_.Ease.Den, .int .i64 f_.Rod, .int .i64 f_.Case]) rfl .none rfl ?_
  intro b1
  refine JL.assign .none rfl ?_
  refine JL.done hQ ?_
  refine JQ.go ?_
  refine JC.seq ?_
  refine JC.seq ?_
  refine JC.region (by rfl) ?_
  intro hQ
  refine JL.fieldAddr fo_26_0 rfl .none rfl ?_
  refine JL.loadOwn 0 az_22 rfl rfl rfl .none rfl ?_
  refine JL.move .none rfl ?_
  refine JL.bin rfl rfl rfl .none rfl ?_
  obtain ⟨y2, hy2, hF⟩ := bind_some hF
  refine JL.sliceLoHi (R := R_Section) sl_22 hf__0 rfl rfl hy2 .none rfl ?_
  intro v3 hv4
  refine JL.lenSL (R := R_Section) ul_22 hv4 .none rfl ?_
  refine JL.move .none rfl ?_
  refine JL.done hQ ?_
  refine JQ.go ?_
  obtain ⟨r45, hlr45, hKr45⟩ := bind_some hF
  refine JC.join (fun (r_43 : Int) H44 f bs gs => f 2 = .int .i64 r_43 ∧ bs = [] ∧ gs = [] ∧ HSub H H44 ∧ r_43 = r45) ?_ ?_
  · skip
    refine JC.block ?_
    refine JC.mask [false] [] ?_
    refine JC.loop hlr45 (fun (x : Int × Int) H72 f bs gs => match x with | (r_70, x_71) => f 2 = .int .i64 r_70 ∧ f 13 = v3 ∧ f 14 = .int .i64 (y2.length : Int) ∧ f 15 = .int .i64 x_71 ∧ bs = [] ∧ gs = [] ∧ HSub H H72) ⟨rfl, rfl, rfl, rfl, rfl, rfl, (HSub.refl _)⟩ ?_
    rintro ⟨r_70, x_71⟩ x74 H72 f bs gs ⟨hf2, hf13, hf14, hf15, rfl, rfl, hs72⟩ hF hr73
    rw [F_frames_distance_s1] at hF
    refine (JC.norm (i := 2) hf2 (JC.norm (i := 13) hf13 (JC.norm (i := 14) hf14 (JC.norm (i := 15) hf15 ?_))))
    refine JC.seq ?_
    refine JC.region (by rfl) ?_
    intro hQ
    refine JL.bin rfl rfl rfl .none rfl ?_
    refine JL.done hQ ?_
    refine JQ.go ?_
    refine JC.seq ?_
    rcases ite_some hF with ⟨hc75, hF⟩ | ⟨hc75, hF⟩
    · refine JC.cond_t (b := decide (x_71 < (y2.length : Int))) rfl hc75 ?_
      refine JC.skip ?_
      refine JQ.go ?_
      refine JC.seq ?_
      refine JC.block ?_
      refine JC.seq ?_
      refine JC.region (by rfl) ?_
      intro hQ
      obtain ⟨y76, hy76, hF⟩ := bind_some hF
      refine JL.indexSL (R := R_Section) sl_22 (SL.mono R_Section_mono hs72 hv4) rfl hy76 .none rfl ?_
      rintro b77 o78 cs79 hc80 - rfl
      refine JL.loadH 0 az_118 rfl hc80 rfl .none rfl ?_
      refine JL.alloc ze_118 .none rfl ?_
      intro b81
      refine JL.storeOwn 0 (cs := [.int .i64 y76.Arm.Low, .int .i64 y76.Arm.High, .int .i64 y76.Stretch.Low, .int .i64 y76.Stretch.High, .int .i64 y76.Base, .int .i64 y76.Gear.Num, .int .i64 y76.Gear.Den]) az_118 rfl rfl rfl (one_cons rfl (one_cons rfl (one_cons rfl (one_cons rfl (one_cons rfl (one_cons rfl (one_cons rfl one_nil))))))) rfl rfl .none ?_
      refine JL.done hQ ?_
      refine JQ.go ?_
      refine JC.draw (by rfl) mo_ (by kernel_rfl) ?_
      intro hQ
      refine JL.fieldAddr fo_118_2 rfl .none rfl ?_
      refine JL.loadOwn 0 az_3 rfl rfl rfl .none rfl ?_
      refine JL.move .none rfl ?_
      refine JL.fieldAddr fo_118_3 rfl .none rfl ?_
      refine JL.fieldAddr fo_24_0 rfl .none rfl ?_
      refine JL.loadOwn 0 az_3 rfl rfl rfl .none rfl ?_
      refine JL.bin rfl rfl rfl .none rfl ?_
      refine JL.fieldAddr fo_118_3 rfl .none rfl ?_
      refine JL.fieldAddr fo_24_1 rfl .none rfl ?_
      refine JL.loadOwn 0 az_3 rfl rfl rfl .none rfl ?_
      obtain ⟨u83, hu83, hF⟩ := bind_some hF
      refine JL.div rfl rfl (nz_some hu83) rfl .none rfl ?_
      refine JL.bin rfl rfl rfl .none rfl ?_
      refine JL.assign .none rfl ?_
      refine JL.doneQ hQ ?_
      refine JQ.normal_block ?_
      refine JQ.go ?_
      refine JC.fresh (fun f => f 2 = .int .i64 (w64 (y76.Base + (w64 ((w64 (r_70 * y76.Gear.Num)).tdiv y76.Gear.Den)))) ∧ f 13 = v3 ∧ f 14 = .int .i64 (y2.length : Int) ∧ f 15 = .int .i64 x_71) ⟨rfl, rfl, rfl, rfl⟩ ?_
      rintro f ⟨hf2, hf13, hf14, hf15⟩
      refine (JC.norm (i := 2) hf2 (JC.norm (i := 13) hf13 (JC.norm (i := 14) hf14 (JC.norm (i := 15) hf15 ?_))))
      refine JC.region (by rfl) ?_
      intro hQ
      refine JL.bin rfl rfl rfl .none rfl ?_
      refine JL.move .none rfl ?_
      refine JL.done hQ ?_
      obtain rfl := Option.some.inj hF
      refine JQ.mask [false] [] ?_
      exact JQ.next rfl ⟨rfl, rfl, rfl, rfl, rfl, rfl, hs72⟩
    · refine JC.cond_f (b := decide (x_71 < (y2.length : Int))) rfl hc75 ?_
      refine JC.exit ?_
      refine JQ.exit_then ?_
      refine JQ.exit_then ?_
      refine JQ.exit_block ?_
      obtain rfl := Option.some.inj hF
      have ehr73 := hr73 _ rfl
      subst ehr73
      exact JQ.join r_70 ⟨rfl, rfl, rfl, hs72, rfl⟩
  · rintro r_43 H44 f bs gs ⟨hf2, rfl, rfl, hs44, rfl⟩
    have hF := hKr45
    try dsimp only at hF
    refine (JQ.norm (i := 2) hf2 ?_)
    refine JQ.go ?_
    refine JC.seq ?_
    refine JC.region (by rfl) ?_
    intro hQ
    refine JL.move .none rfl ?_
    refine JL.assign .none rfl ?_
    refine JL.done hQ ?_
    refine JQ.go ?_
    refine JC.ret ?_
    obtain rfl := Option.some.inj hF
    exact JQ.outS rfl (.tmp .nil) rfl

-- 94 (ferrule/frames.sides).cosine
def F_frames_sides_cosine (n : Nat) (x_ : frames_sides) (d : Int) : Option Frac :=
  some (Frac.mk (w64 ((w64 ((w64 (d * d)) + (w64 (x_.arm * x_.arm)))) - (w64 (x_.stretch * x_.stretch)))) (w64 ((w64 (2 * d)) * x_.arm)))
set_option maxRecDepth 100000 in
set_option maxHeartbeats 40000000 in
theorem c_frames_sides_cosine (n : Nat) (H : Hp) (x_ : frames_sides) (d : Int) (y : Frac) (hF : F_frames_sides_cosine n x_ d = some y) : SC Try.prog 94 [.agg [.int .i64 x_.arm, .int .i64 x_.stretch].toArray, .int .i64 d] (.agg [.int .i64 y.Num, .int .i64 y.Den].toArray) H := by
  rw [F_frames_sides_cosine] at hF
  refine SC.of (N := 26) Try.func94 rfl rfl rfl fun w => ?_
  refine JC.seq ?_
  refine JC.region (by rfl) ?_
  intro hQ
  refine JL.box (cs := [.int .i64 x_.arm, .int .i64 x_.stretch]) rfl .none rfl ?_
  intro b1
  refine JL.alloc ze_24 .none rfl ?_
  intro b2
  refine JL.done hQ ?_
  refine JQ.go ?_
  refine JC.seq ?_
  refine JC.region (by rfl) ?_
  intro hQ
  refine JL.move .none rfl ?_
  refine JL.move .none rfl ?_
  refine JL.bin rfl rfl rfl .none rfl ?_
  refine JL.fieldAddr fo_140_0 rfl .none rfl ?_
  refine JL.loadOwn 1 az_3 rfl rfl rfl .none rfl ?_
  refine JL.fieldAddr fo_140_0 rfl .none rfl ?_
  refine JL.loadOwn 1 az_3 rfl rfl rfl .none rfl ?_
  refine JL.bin rfl rfl rfl .none rfl ?_
  refine JL.bin rfl rfl rfl .none rfl ?_
  refine JL.fieldAddr fo_140_1 rfl .none rfl ?_
  refine JL.loadOwn 1 az_3 rfl rfl rfl .none rfl ?_
  refine JL.fieldAddr fo_140_1 rfl .none rfl ?_
  refine JL.loadOwn 1 az_3 rfl rfl rfl .none rfl ?_
  refine JL.bin rfl rfl rfl .none rfl ?_
  refine JL.bin rfl rfl rfl .none rfl ?_
  refine JL.move .none rfl ?_
  refine JL.bin rfl rfl rfl .none rfl ?_
  refine JL.fieldAddr fo_140_0 rfl .none rfl ?_
  refine JL.loadOwn 1 az_3 rfl rfl rfl .none rfl ?_
  refine JL.bin rfl rfl rfl .none rfl ?_
  refine JL.build (l := [.int .i64 (w64 ((w64 ((w64 (d * d)) + (w64 (x_.arm * x_.arm)))) - (w64 (x_.stretch * x_.stretch)))), .int .i64 (w64 ((w64 (2 * d)) * x_.arm))]) (by kernel_rfl) .none rfl ?_
  refine JL.storeOwn 0 (cs := [.int .i64 (w64 ((w64 ((w64 (d * d)) + (w64 (x_.arm * x_.arm)))) - (w64 (x_.stretch * x_.stretch)))), .int .i64 (w64 ((w64 (2 * d)) * x_.arm))]) az_24 rfl rfl rfl (one_cons rfl (one_cons rfl one_nil)) rfl rfl .none ?_
  refine JL.done hQ ?_
  refine JQ.go ?_
  refine JC.fresh (fun f => f 4 = .pointer (some ⟨b2, 0, none⟩)) rfl ?_
  rintro f hf4
  refine (JC.norm (i := 4) hf4 ?_)
  refine JC.ret ?_
  obtain rfl := Option.some.inj hF
  exact JQ.outS rfl (.cell 0 az_24 rfl rfl rfl .nil) rfl

-- 99 cmp.isNaN[int]
def F_cmp_isNaN_int_ (n : Nat) (x_ : Int) : Option Bool :=
  some (x_ != x_)
set_option maxRecDepth 100000 in
set_option maxHeartbeats 40000000 in
theorem c_cmp_isNaN_int_ (n : Nat) (H : Hp) (x_ : Int) (y : Bool) (hF : F_cmp_isNaN_int_ n x_ = some y) : SC Try.prog 99 [.int .i64 x_] (.bool y) H := by
  rw [F_cmp_isNaN_int_] at hF
  refine SC.of (N := 6) Try.func99 rfl rfl rfl fun w => ?_
  refine JC.seq ?_
  refine JC.region (by rfl) ?_
  intro hQ
  refine JL.assign .none rfl ?_
  refine JL.done hQ ?_
  refine JQ.go ?_
  refine JC.seq ?_
  refine JC.region (by rfl) ?_
  intro hQ
  refine JL.move .none rfl ?_
  refine JL.move .none rfl ?_
  refine JL.bin rfl rfl rfl .none rfl ?_
  refine JL.assign .none rfl ?_
  refine JL.done hQ ?_
  refine JQ.go ?_
  refine JC.ret ?_
  obtain rfl := Option.some.inj hF
  exact JQ.outS rfl (.tmp .nil) rfl

end Go.Proofs.Ytcpnnfdhafbemaa
