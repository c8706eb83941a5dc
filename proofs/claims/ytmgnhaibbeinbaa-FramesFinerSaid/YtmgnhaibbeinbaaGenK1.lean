/-
  Printed by a program: functions of the translation as plain functions, and their contracts.
-/
import Derived.Test.YtmgnhaibbeinbaaMan
namespace Go.Proofs.Ytmgnhaibbeinbaa
open Go Go.RowKit Go.Dec
set_option linter.unusedVariables false
-- 14 ferrule/frames.Check
def F_frames_Check (n : Nat) (f_ : Frame) : Option Int :=
  (F_frames_within n f_.Low 1 f_.High).bind fun y2 => (F_frames_within n (f_.Sections.length : Int) 1 3).bind fun y7 => (if (!y7) = true then (some true) else ((F_slices_ContainsFunc___api_Section_api_Section_ n f_.Sections (fun a0_ => F_frames_Check_1 n a0_)).bind fun y12 => some y12) : Option Bool).bind fun p9 => (if (p9 || (!((y2 && (decide (f_.High ≤ 2000))) && (decide ((w64 (f_.High - f_.Low)) ≤ 200))))) = true then (some true) else ((F_frames_isShare n f_.Ease).bind fun y19 => some (!y19)) : Option Bool).bind fun p16 => (if p16 = true then (some true) else ((F_frames_within n f_.Rod 0 4000).bind fun y24 => some (!y24)) : Option Bool).bind fun p21 => (if p21 = true then (some true) else ((F_frames_within n f_.Case 0 4000).bind fun y29 => some (!y29)) : Option Bool).bind fun p26 => if p26 = true then (some 10) else (some 0)
set_option maxRecDepth 100000 in
set_option maxHeartbeats 40000000 in
theorem c_frames_Check (n : Nat) (H : Hp) (f_ : Frame) (f__v0 : Value) (hf__0 : SL H 7 R_Section f__v0 f_.Sections) (y : Int) (hF : F_frames_Check n f_ = some y) : SC Try.prog 14 [.agg [f__v0, .int .i64 f_.Low, .int .i64 f_.High, .int .i64 f_.Ease.Num, .int .i64 f_.Ease.Den, .int .i64 f_.Rod, .int .i64 f_.Case].toArray] (.int .i64 y) H := by
  rw [F_frames_Check] at hF
  refine SC.of (N := 56) Try.func14 rfl rfl rfl fun w => ?_
  refine JC.seq ?_
  refine JC.region (by rfl) ?_
  intro hQ
  refine JL.box (cs := [f__v0, .int .i64 f_.Low, .int .i64 f_.High, .int .i64 f_.Ease.Num, .int .i64 f_.Ease.Den, .int .i64 f_.Rod, .int .i64 f_.Case]) rfl .none rfl ?_
  intro b1
  refine JL.assign .none rfl ?_
  refine JL.done hQ ?_
  refine JQ.go ?_
  refine JC.seq ?_
  refine JC.region (by rfl) ?_
  intro hQ
  refine JL.assign .none rfl ?_
  refine JL.done hQ ?_
  refine JQ.go ?_
  refine JC.seq ?_
  refine JC.region (by rfl) ?_
  intro hQ
  refine JL.fieldAddr fo_26_1 rfl .none rfl ?_
  refine JL.loadOwn 0 az_3 rfl rfl rfl .none rfl ?_
  refine JL.fieldAddr fo_26_2 rfl .none rfl ?_
  refine JL.loadOwn 0 az_3 rfl rfl rfl .none rfl ?_
  obtain ⟨y2, hy2, hF⟩ := bind_some hF
  refine JL.callS (c_frames_within n H f_.Low 1 f_.High y2 hy2) rfl en_50 .none rfl ?_
  refine JL.move .none rfl ?_
  refine JL.cut 4 (fun f => f 1 = .pointer (some ⟨b1, 0, none⟩) ∧ f 3 = .func (.func 48) #[] [].toArray ∧ f 14 = .bool (y2 && (decide (f_.High ≤ 2000)))) ?_ ?_
  · intro hJ3
    rcases bcases y2 with hc4 | hc4
    · skip
      refine JL.fieldAddr fo_26_2 rfl (.some rfl rfl rfl hc4) rfl ?_
      refine JL.loadOwn 0 az_3 rfl rfl rfl (.some rfl rfl rfl hc4) rfl ?_
      refine JL.bin rfl rfl rfl (.some rfl rfl rfl hc4) rfl ?_
      refine JL.pick_t (b := y2) rfl hc4 .none rfl ?_
      exact hJ3 _ ⟨rfl, rfl, and_t hc4 rfl⟩
    · skip
      refine JL.skip (.bool rfl rfl rfl hc4) rfl ?_
      refine JL.skip (.bool rfl rfl rfl hc4) rfl ?_
      refine JL.skip (.bool rfl rfl rfl hc4) rfl ?_
      refine JL.pick_f (b := y2) rfl hc4 .none rfl ?_
      exact hJ3 _ ⟨rfl, rfl, and_f hc4 rfl⟩
  · rintro f ⟨hf1, hf3, hf14⟩
    refine (JL.norm (i := 1) hf1 (JL.norm (i := 3) hf3 (JL.norm (i := 14) hf14 ?_)))
    refine JL.move .none rfl ?_
    refine JL.cut 7 (fun f => f 1 = .pointer (some ⟨b1, 0, none⟩) ∧ f 3 = .func (.func 48) #[] [].toArray ∧ f 22 = .bool ((y2 && (decide (f_.High ≤ 2000))) && (decide ((w64 (f_.High - f_.Low)) ≤ 200)))) ?_ ?_
    · intro hJ5
      rcases bcases (y2 && (decide (f_.High ≤ 2000))) with hc6 | hc6
      · skip
        refine JL.fieldAddr fo_26_2 rfl (.some rfl rfl rfl hc6) rfl ?_
        refine JL.loadOwn 0 az_3 rfl rfl rfl (.some rfl rfl rfl hc6) rfl ?_
        refine JL.fieldAddr fo_26_1 rfl (.some rfl rfl rfl hc6) rfl ?_
        refine JL.loadOwn 0 az_3 rfl rfl rfl (.some rfl rfl rfl hc6) rfl ?_
        refine JL.bin rfl rfl rfl (.some rfl rfl rfl hc6) rfl ?_
        refine JL.bin rfl rfl rfl (.some rfl rfl rfl hc6) rfl ?_
        refine JL.pick_t (b := (y2 && (decide (f_.High ≤ 2000)))) rfl hc6 .none rfl ?_
        exact hJ5 _ ⟨rfl, rfl, and_t hc6 rfl⟩
      · skip
        refine JL.skip (.bool rfl rfl rfl hc6) rfl ?_
        refine JL.skip (.bool rfl rfl rfl hc6) rfl ?_
        refine JL.skip (.bool rfl rfl rfl hc6) rfl ?_
        refine JL.skip (.bool rfl rfl rfl hc6) rfl ?_
        refine JL.skip (.bool rfl rfl rfl hc6) rfl ?_
        refine JL.skip (.bool rfl rfl rfl hc6) rfl ?_
        refine JL.pick_f (b := (y2 && (decide (f_.High ≤ 2000)))) rfl hc6 .none rfl ?_
        exact hJ5 _ ⟨rfl, rfl, and_f hc6 rfl⟩
    · rintro f ⟨hf1, hf3, hf22⟩
      refine (JL.norm (i := 1) hf1 (JL.norm (i := 3) hf3 (JL.norm (i := 22) hf22 ?_)))
      refine JL.assign .none rfl ?_
      refine JL.done hQ ?_
      refine JQ.go ?_
      refine JC.seq ?_
      refine JC.seq ?_
      refine JC.region (by rfl) ?_
      intro hQ
      refine JL.fieldAddr fo_26_0 rfl .none rfl ?_
      refine JL.loadOwn 0 az_22 rfl rfl rfl .none rfl ?_
      refine JL.lenSL (R := R_Section) ul_22 hf__0 .none rfl ?_
      obtain ⟨y7, hy7, hF⟩ := bind_some hF
      refine JL.callS (c_frames_within n H (f_.Sections.length : Int) 1 3 y7 hy7) rfl en_50 .none rfl ?_
      refine JL.not rfl .none rfl ?_
      refine JL.move .none rfl ?_
      obtain ⟨p9, hp9, hF⟩ := bind_some hF
      refine JL.cut 5 (fun f => f 1 = .pointer (some ⟨b1, 0, none⟩) ∧ f 4 = .bool ((y2 && (decide (f_.High ≤ 2000))) && (decide ((w64 (f_.High - f_.Low)) ≤ 200))) ∧ f 33 = .bool p9) ?_ ?_
      · intro hJ10
        rcases ite_some hp9 with ⟨hc11, hF⟩ | ⟨hc11, hF⟩
        · skip
          refine JL.skip (.bool rfl rfl rfl hc11) rfl ?_
          refine JL.skip (.bool rfl rfl rfl hc11) rfl ?_
          refine JL.skip (.bool rfl rfl rfl hc11) rfl ?_
          refine JL.skip (.bool rfl rfl rfl hc11) rfl ?_
          refine JL.pick_t (b := (!y7)) rfl hc11 .none rfl ?_
          obtain rfl := Option.some.inj hF
          exact hJ10 _ ⟨rfl, rfl, rfl⟩
        · skip
          refine JL.fieldAddr fo_26_0 rfl (.some rfl rfl rfl hc11) rfl ?_
          refine JL.loadOwn 0 az_22 rfl rfl rfl (.some rfl rfl rfl hc11) rfl ?_
          refine JL.move (.some rfl rfl rfl hc11) rfl ?_
          obtain ⟨y12, hy12, hF⟩ := bind_some hF
          refine JL.callS (c_slices_ContainsFunc___api_Section_api_Section_ n H f_.Sections f__v0 hf__0 (fun a0_ => F_frames_Check_1 n a0_) 48 [] en_48 (fun H' hs' a0_ y' hy' => c_frames_Check_1 n H' a0_ y' hy') y12 hy12) rfl en_52 (.some rfl rfl rfl hc11) rfl ?_
          refine JL.pick_f (b := (!y7)) rfl hc11 .none rfl ?_
          obtain rfl := Option.some.inj hF
          exact hJ10 _ ⟨rfl, rfl, rfl⟩
      · rintro f ⟨hf1, hf4, hf33⟩
        refine (JL.norm (i := 1) hf1 (JL.norm (i := 4) hf4 (JL.norm (i := 33) hf33 ?_)))
        refine JL.move .none rfl ?_
        refine JL.cut 3 (fun f => f 1 = .pointer (some ⟨b1, 0, none⟩) ∧ f 37 = .bool (p9 || (!((y2 && (decide (f_.High ≤ 2000))) && (decide ((w64 (f_.High - f_.Low)) ≤ 200)))))) ?_ ?_
        · intro hJ13
          rcases bcases p9 with hc14 | hc14
          · skip
            refine JL.skip (.bool rfl rfl rfl hc14) rfl ?_
            refine JL.skip (.bool rfl rfl rfl hc14) rfl ?_
            refine JL.pick_t (b := p9) rfl hc14 .none rfl ?_
            exact hJ13 _ ⟨rfl, or_t hc14 rfl⟩
          · skip
            refine JL.move (.some rfl rfl rfl hc14) rfl ?_
            refine JL.not rfl (.some rfl rfl rfl hc14) rfl ?_
            refine JL.pick_f (b := p9) rfl hc14 .none rfl ?_
            exact hJ13 _ ⟨rfl, or_f hc14 rfl⟩
        · rintro f ⟨hf1, hf37⟩
          refine (JL.norm (i := 1) hf1 (JL.norm (i := 37) hf37 ?_))
          refine JL.move .none rfl ?_
          obtain ⟨p16, hp16, hF⟩ := bind_some hF
          refine JL.cut 5 (fun f => f 1 = .pointer (some ⟨b1, 0, none⟩) ∧ f 43 = .bool p16) ?_ ?_
          · intro hJ17
            rcases ite_some hp16 with ⟨hc18, hF⟩ | ⟨hc18, hF⟩
            · skip
              refine JL.skip (.bool rfl rfl rfl hc18) rfl ?_
              refine JL.skip (.bool rfl rfl rfl hc18) rfl ?_
              refine JL.skip (.bool rfl rfl rfl hc18) rfl ?_
              refine JL.skip (.bool rfl rfl rfl hc18) rfl ?_
              refine JL.pick_t (b := (p9 || (!((y2 && (decide (f_.High ≤ 2000))) && (decide ((w64 (f_.High - f_.Low)) ≤ 200)))))) rfl hc18 .none rfl ?_
              obtain rfl := Option.some.inj hF
              exact hJ17 _ ⟨rfl, rfl⟩
            · skip
              refine JL.fieldAddr fo_26_3 rfl (.some rfl rfl rfl hc18) rfl ?_
              refine JL.loadOwn 0 az_24 rfl rfl rfl (.some rfl rfl rfl hc18) rfl ?_
              obtain ⟨y19, hy19, hF⟩ := bind_some hF
              refine JL.callS (c_frames_isShare n H f_.Ease y19 hy19) rfl en_51 (.some rfl rfl rfl hc18) rfl ?_
              refine JL.not rfl (.some rfl rfl rfl hc18) rfl ?_
              refine JL.pick_f (b := (p9 || (!((y2 && (decide (f_.High ≤ 2000))) && (decide ((w64 (f_.High - f_.Low)) ≤ 200)))))) rfl hc18 .none rfl ?_
              obtain rfl := Option.some.inj hF
              exact hJ17 _ ⟨rfl, rfl⟩
          · rintro f ⟨hf1, hf43⟩
            refine (JL.norm (i := 1) hf1 (JL.norm (i := 43) hf43 ?_))
            refine JL.move .none rfl ?_
            obtain ⟨p21, hp21, hF⟩ := bind_some hF
            refine JL.cut 5 (fun f => f 1 = .pointer (some ⟨b1, 0, none⟩) ∧ f 49 = .bool p21) ?_ ?_
            · intro hJ22
              rcases ite_some hp21 with ⟨hc23, hF⟩ | ⟨hc23, hF⟩
              · skip
                refine JL.skip (.bool rfl rfl rfl hc23) rfl ?_
                refine JL.skip (.bool rfl rfl rfl hc23) rfl ?_
                refine JL.skip (.bool rfl rfl rfl hc23) rfl ?_
                refine JL.skip (.bool rfl rfl rfl hc23) rfl ?_
                refine JL.pick_t (b := p16) rfl hc23 .none rfl ?_
                obtain rfl := Option.some.inj hF
                exact hJ22 _ ⟨rfl, rfl⟩
              · skip
                refine JL.fieldAddr fo_26_4 rfl (.some rfl rfl rfl hc23) rfl ?_
                refine JL.loadOwn 0 az_3 rfl rfl rfl (.some rfl rfl rfl hc23) rfl ?_
                obtain ⟨y24, hy24, hF⟩ := bind_some hF
                refine JL.callS (c_frames_within n H f_.Rod 0 4000 y24 hy24) rfl en_50 (.some rfl rfl rfl hc23) rfl ?_
                refine JL.not rfl (.some rfl rfl rfl hc23) rfl ?_
                refine JL.pick_f (b := p16) rfl hc23 .none rfl ?_
                obtain rfl := Option.some.inj hF
                exact hJ22 _ ⟨rfl, rfl⟩
            · rintro f ⟨hf1, hf49⟩
              refine (JL.norm (i := 1) hf1 (JL.norm (i := 49) hf49 ?_))
              refine JL.move .none rfl ?_
              obtain ⟨p26, hp26, hF⟩ := bind_some hF
              refine JL.cut 5 (fun f => f 55 = .bool p26) ?_ ?_
              · intro hJ27
                rcases ite_some hp26 with ⟨hc28, hF⟩ | ⟨hc28, hF⟩
                · skip
                  refine JL.skip (.bool rfl rfl rfl hc28) rfl ?_
                  refine JL.skip (.bool rfl rfl rfl hc28) rfl ?_
                  refine JL.skip (.bool rfl rfl rfl hc28) rfl ?_
                  refine JL.skip (.bool rfl rfl rfl hc28) rfl ?_
                  refine JL.pick_t (b := p21) rfl hc28 .none rfl ?_
                  obtain rfl := Option.some.inj hF
                  exact hJ27 _ (rfl)
                · skip
                  refine JL.fieldAddr fo_26_5 rfl (.some rfl rfl rfl hc28) rfl ?_
                  refine JL.loadOwn 0 az_3 rfl rfl rfl (.some rfl rfl rfl hc28) rfl ?_
                  obtain ⟨y29, hy29, hF⟩ := bind_some hF
                  refine JL.callS (c_frames_within n H f_.Case 0 4000 y29 hy29) rfl en_50 (.some rfl rfl rfl hc28) rfl ?_
                  refine JL.not rfl (.some rfl rfl rfl hc28) rfl ?_
                  refine JL.pick_f (b := p21) rfl hc28 .none rfl ?_
                  obtain rfl := Option.some.inj hF
                  exact hJ27 _ (rfl)
              · rintro f hf55
                refine (JL.norm (i := 55) hf55 ?_)
                refine JL.done hQ ?_
                refine JQ.go ?_
                rcases ite_some hF with ⟨hc30, hF⟩ | ⟨hc30, hF⟩
                · refine JC.cond_t (b := p26) rfl hc30 ?_
                  refine JC.seq ?_
                  refine JC.region (by rfl) ?_
                  intro hQ
                  refine JL.assign .none rfl ?_
                  refine JL.done hQ ?_
                  refine JQ.go ?_
                  refine JC.ret ?_
                  refine JQ.ret_then ?_
                  obtain rfl := Option.some.inj hF
                  exact JQ.outS rfl (.tmp .nil) rfl
                · refine JC.cond_f (b := p26) rfl hc30 ?_
                  refine JC.skip ?_
                  refine JQ.go ?_
                  refine JC.seq ?_
                  refine JC.region (by rfl) ?_
                  intro hQ
                  refine JL.assign .none rfl ?_
                  refine JL.done hQ ?_
                  refine JQ.go ?_
                  refine JC.ret ?_
                  obtain rfl := Option.some.inj hF
                  exact JQ.outS rfl (.tmp .nil) rfl

-- 56 ferrule/frames.ask
def F_frames_ask (n : Nat) (f_ : Frame) (section_ : Int) (r : Int) : Option Int :=
  (F_frames_Check n f_).bind fun y2 => if (y2 != 0) = true then (some y2) else ((F_frames_within n section_ 0 (w64 ((f_.Sections.length : Int) - 1))).bind fun y4 => (if (!y4) = true then (some true) else ((F_frames_within n r f_.Low f_.High).bind fun y9 => some (!y9)) : Option Bool).bind fun p6 => if p6 = true then (some 1) else (some 0))
set_option maxRecDepth 100000 in
set_option maxHeartbeats 40000000 in
theorem c_frames_ask (n : Nat) (H : Hp) (f_ : Frame) (f__v0 : Value) (hf__0 : SL H 7 R_Section f__v0 f_.Sections) (section_ : Int) (r : Int) (y : Int) (hF : F_frames_ask n f_ section_ r = some y) : SC Try.prog 56 [.agg [f__v0, .int .i64 f_.Low, .int .i64 f_.High, .int .i64 f_.Ease.Num, .int .i64 f_.Ease.Den, .int .i64 f_.Rod, .int .i64 f_.Case].toArray, .int .i64 section_, .int .i64 r] (.int .i64 y) H := by
  rw [F_frames_ask] at hF
  refine SC.of (N := 29) Try.func56 rfl rfl rfl fun w => ?_
  refine JC.seq ?_
  refine JC.region (by rfl) ?_
  intro hQ
  refine JL.box (cs := [f__v0, .int .i64 f_.Low, .int .i64 f_.High, .int .i64 f_.Ease.Num, .int .i64 f_.Ease.Den, .int .i64 f_.Rod, .int .i64 f_.Case]) rfl .none rfl ?_
  intro b1
  refine JL.assign .none rfl ?_
  refine JL.done hQ ?_
  refine JQ.go ?_
  refine JC.seq ?_
  refine JC.seq ?_
  refine JC.region (by rfl) ?_
  intro hQ
  refine JL.loadOwn 0 az_26 rfl rfl rfl .none rfl ?_
  obtain ⟨y2, hy2, hF⟩ := bind_some hF
  refine JL.callS (c_frames_Check n H f_ f__v0 hf__0 y2 hy2) rfl en_14 .none rfl ?_
  refine JL.assign .none rfl ?_
  refine JL.done hQ ?_
  refine JQ.go ?_
  refine JC.seq ?_
  refine JC.region (by rfl) ?_
  intro hQ
  refine JL.move .none rfl ?_
  refine JL.bin rfl rfl rfl .none rfl ?_
  refine JL.done hQ ?_
  refine JQ.go ?_
  rcases ite_some hF with ⟨hc3, hF⟩ | ⟨hc3, hF⟩
  · refine JC.cond_t (b := (y2 != 0)) rfl hc3 ?_
    refine JC.seq ?_
    refine JC.region (by rfl) ?_
    intro hQ
    refine JL.move .none rfl ?_
    refine JL.assign .none rfl ?_
    refine JL.done hQ ?_
    refine JQ.go ?_
    refine JC.ret ?_
    refine JQ.ret_then ?_
    obtain rfl := Option.some.inj hF
    exact JQ.outS rfl (.tmp .nil) rfl
  · refine JC.cond_f (b := (y2 != 0)) rfl hc3 ?_
    refine JC.skip ?_
    refine JQ.go ?_
    refine JC.seq ?_
    refine JC.seq ?_
    refine JC.region (by rfl) ?_
    intro hQ
    refine JL.move .none rfl ?_
    refine JL.fieldAddr fo_26_0 rfl .none rfl ?_
    refine JL.loadOwn 0 az_22 rfl rfl rfl .none rfl ?_
    refine JL.lenSL (R := R_Section) ul_22 hf__0 .none rfl ?_
    refine JL.bin rfl rfl rfl .none rfl ?_
    obtain ⟨y4, hy4, hF⟩ := bind_some hF
    refine JL.callS (c_frames_within n H section_ 0 (w64 ((f_.Sections.length : Int) - 1)) y4 hy4) rfl en_50 .none rfl ?_
    refine JL.not rfl .none rfl ?_
    refine JL.move .none rfl ?_
    obtain ⟨p6, hp6, hF⟩ := bind_some hF
    refine JL.cut 8 (fun f => f 28 = .bool p6) ?_ ?_
    · intro hJ7
      rcases ite_some hp6 with ⟨hc8, hF⟩ | ⟨hc8, hF⟩
      · skip
        refine JL.skip (.bool rfl rfl rfl hc8) rfl ?_
        refine JL.skip (.bool rfl rfl rfl hc8) rfl ?_
        refine JL.skip (.bool rfl rfl rfl hc8) rfl ?_
        refine JL.skip (.bool rfl rfl rfl hc8) rfl ?_
        refine JL.skip (.bool rfl rfl rfl hc8) rfl ?_
        refine JL.skip (.bool rfl rfl rfl hc8) rfl ?_
        refine JL.skip (.bool rfl rfl rfl hc8) rfl ?_
        refine JL.pick_t (b := (!y4)) rfl hc8 .none rfl ?_
        obtain rfl := Option.some.inj hF
        exact hJ7 _ (rfl)
      · skip
        refine JL.move (.some rfl rfl rfl hc8) rfl ?_
        refine JL.fieldAddr fo_26_1 rfl (.some rfl rfl rfl hc8) rfl ?_
        refine JL.loadOwn 0 az_3 rfl rfl rfl (.some rfl rfl rfl hc8) rfl ?_
        refine JL.fieldAddr fo_26_2 rfl (.some rfl rfl rfl hc8) rfl ?_
        refine JL.loadOwn 0 az_3 rfl rfl rfl (.some rfl rfl rfl hc8) rfl ?_
        obtain ⟨y9, hy9, hF⟩ := bind_some hF
        refine JL.callS (c_frames_within n H r f_.Low f_.High y9 hy9) rfl en_50 (.some rfl rfl rfl hc8) rfl ?_
        refine JL.not rfl (.some rfl rfl rfl hc8) rfl ?_
        refine JL.pick_f (b := (!y4)) rfl hc8 .none rfl ?_
        obtain rfl := Option.some.inj hF
        exact hJ7 _ (rfl)
    · rintro f hf28
      refine (JL.norm (i := 28) hf28 ?_)
      refine JL.done hQ ?_
      refine JQ.go ?_
      rcases ite_some hF with ⟨hc10, hF⟩ | ⟨hc10, hF⟩
      · refine JC.cond_t (b := p6) rfl hc10 ?_
        refine JC.seq ?_
        refine JC.region (by rfl) ?_
        intro hQ
        refine JL.assign .none rfl ?_
        refine JL.done hQ ?_
        refine JQ.go ?_
        refine JC.ret ?_
        refine JQ.ret_then ?_
        obtain rfl := Option.some.inj hF
        exact JQ.outS rfl (.tmp .nil) rfl
      · refine JC.cond_f (b := p6) rfl hc10 ?_
        refine JC.skip ?_
        refine JQ.go ?_
        refine JC.seq ?_
        refine JC.region (by rfl) ?_
        intro hQ
        refine JL.assign .none rfl ?_
        refine JL.done hQ ?_
        refine JQ.go ?_
        refine JC.ret ?_
        obtain rfl := Option.some.inj hF
        exact JQ.outS rfl (.tmp .nil) rfl

-- 57 ferrule/frames.distance
def F_frames_distance_s1 (n : Nat) (y2 : List Section) : Int × Int → Option ((Int × Int) ⊕ Int)
  | (r_70, x_71) => if decide (x_71 < (y2.length : Int)) = true then ((geti y2 x_71).bind fun y76 => (nz y76.Gear.Den).bind fun _ => some (Sum.inl ((w64 (y76.Base + (w64 ((w64 (r_70 * y76.Gear.Num)).tdiv y76.Gear.Den)))), (w64 (x_71 + 1))))) else (some (Sum.inr r_70))
def F_frames_distance (n : Nat) (f_ : Frame) (section_ : Int) (r : Int) : Option Int :=
  (slc f_.Sections 1 (w64 (section_ + 1))).bind fun y2 => (loopO n (F_frames_distance_s1 n y2) (r, 0)).bind fun r_43 => some r_43
set_option maxRecDepth 100000 in
set_option maxHeartbeats 40000000 in
theorem c_frames_distance (n : Nat) (H : Hp) (f_ : Frame) (f__v0 : Value) (hf__0 : SL H 7 R_Section f__v0 f_.Sections) (section_ : Int) (r : Int) (y : Int) (hF : F_frames_distance n f_ section_ r = some y) : SC Try.prog 57 [.agg [f__v0, .int .i64 f_.Low, .int .i64 f_.High, .int .i64 f_.Ease.Num, .int .i64 f_.Ease.Den, .int .i64 f_.Rod, .int .i64 f_.Case].toArray, .int .i64 section_, .int .i64 r] (.int .i64 y) H := by
  rw [F_frames_distance] at hF
  refine SC.of (N := 33) Try.func57 rfl rfl rfl fun w => ?_
  refine JC.seq ?_
  refine JC.region (by rfl) ?_
  intro hQ
  refine JL.box (cs := [f__v0, .int .i64 f_.Low, .int .i64 f_.High, .int .i64 f_.Ease.Num, .int .i64 f_.Ease.Den, .int .i64 f_.Rod, .int .i64 f_.Case]) rfl .none rfl ?_
  intro b1
  refine JL.assign .none rfl ?_
  refine JL.done hQ ?_
  refine JQ.go ?_
  refine JC.seq ?_
  refine JC.seq ?_
  refine JC.region (by rfl) ?_
  intro hQ
  refine JL.fieldAddr fo_26_0 rfl .none rfl ?_
  refine JL.loadOwn 0 az_22 rfl rfl rfl .none rfl ?_
  refine JL.move .none rfl ?_
  refine JL.bin rfl rfl rfl .none rfl ?_
  obtain ⟨y2, hy2, hF⟩ := bind_some hF
  refine JL.sliceLoHi (R := R_Section) sl_22 hf__0 rfl rfl hy2 .none rfl ?_
  intro v3 hv4
  refine JL.lenSL (R := R_Section) ul_22 hv4 .none rfl ?_
  refine JL.move .none rfl ?_
  refine JL.done hQ ?_
  refine JQ.go ?_
  obtain ⟨r45, hlr45, hKr45⟩ := bind_some hF
  refine JC.join (fun (r_43 : Int) H44 f bs gs => f 2 = .int .i64 r_43 ∧ bs = [] ∧ gs = [] ∧ HSub H H44 ∧ r_43 = r45) ?_ ?_
  · skip
    refine JC.block ?_
    refine JC.mask [false] [] ?_
    refine JC.loop hlr45 (fun (x : Int × Int) H72 f bs gs => match x with | (r_70, x_71) => f 2 = .int .i64 r_70 ∧ f 13 = v3 ∧ f 14 = .int .i64 (y2.length : Int) ∧ f 15 = .int .i64 x_71 ∧ bs = [] ∧ gs = [] ∧ HSub H H72) ⟨rfl, rfl, rfl, rfl, rfl, rfl, (HSub.refl _)⟩ ?_
    rintro ⟨r_70, x_71⟩ x74 H72 f bs gs ⟨hf2, hf13, hf14, hf15, rfl, rfl, hs72⟩ hF hr73
    rw [F_frames_distance_s1] at hF
    refine (JC.norm (i := 2) hf2 (JC.norm (i := 13) hf13 (JC.norm (i := 14) hf14 (JC.norm (i := 15) hf15 ?_))))
    refine JC.seq ?_
    refine JC.region (by rfl) ?_
    intro hQ
    refine JL.bin rfl rfl rfl .none rfl ?_
    refine JL.done hQ ?_
    refine JQ.go ?_
    refine JC.seq ?_
    rcases ite_some hF with ⟨hc75, hF⟩ | ⟨hc75, hF⟩
    · refine JC.cond_t (b := decide (x_71 < (y2.length : Int))) rfl hc75 ?_
      refine JC.skip ?_
      refine JQ.go ?_
      refine JC.seq ?_
      refine JC.block ?_
      refine JC.seq ?_
      refine JC.region (by rfl) ?_
      intro hQ
      obtain ⟨y76, hy76, hF⟩ := bind_some hF
      refine JL.indexSL (R := R_Section) sl_22 (SL.mono R_Section_mono hs72 hv4) rfl hy76 .none rfl ?_
      rintro b77 o78 cs79 hc80 - rfl
      refine JL.loadH 0 az_61 rfl hc80 rfl .none rfl ?_
      refine JL.alloc ze_61 .none rfl ?_
      intro b81
      refine JL.storeOwn 0 (cs := [.int .i64 y76.Arm.Low, .int .i64 y76.Arm.High, .int .i64 y76.Stretch.Low, .int .i64 y76.Stretch.High, .int .i64 y76.Base, .int .i64 y76.Gear.Num, .int .i64 y76.Gear.Den]) az_61 rfl rfl rfl (one_cons rfl (one_cons rfl (one_cons rfl (one_cons rfl (one_cons rfl (one_cons rfl (one_cons rfl one_nil))))))) rfl rfl .none ?_
      refine JL.done hQ ?_
      refine JQ.go ?_
      refine JC.draw (by rfl) mo_ (by kernel_rfl) ?_
      intro hQ
      refine JL.fieldAddr fo_61_2 rfl .none rfl ?_
      refine JL.loadOwn 0 az_3 rfl rfl rfl .none rfl ?_
      refine JL.move .none rfl ?_
      refine JL.fieldAddr fo_61_3 rfl .none rfl ?_
      refine JL.fieldAddr fo_24_0 rfl .none rfl ?_
      refine JL.loadOwn 0 az_3 rfl rfl rfl .none rfl ?_
      refine JL.bin rfl rfl rfl .none rfl ?_
      refine JL.fieldAddr fo_61_3 rfl .none rfl ?_
      refine JL.fieldAddr fo_24_1 rfl .none rfl ?_
      refine JL.loadOwn 0 az_3 rfl rfl rfl .none rfl ?_
      obtain ⟨u83, hu83, hF⟩ := bind_some hF
      refine JL.div rfl rfl (nz_some hu83) rfl .none rfl ?_
      refine JL.bin rfl rfl rfl .none rfl ?_
      refine JL.assign .none rfl ?_
      refine JL.doneQ hQ ?_
      refine JQ.normal_block ?_
      refine JQ.go ?_
      refine JC.fresh (fun f => f 2 = .int .i64 (w64 (y76.Base + (w64 ((w64 (r_70 * y76.Gear.Num)).tdiv y76.Gear.Den)))) ∧ f 13 = v3 ∧ f 14 = .int .i64 (y2.length : Int) ∧ f 15 = .int .i64 x_71) ⟨rfl, rfl, rfl, rfl⟩ ?_
      rintro f ⟨hf2, hf13, hf14, hf15⟩
      refine (JC.norm (i := 2) hf2 (JC.norm (i := 13) hf13 (JC.norm (i := 14) hf14 (JC.norm (i := 15) hf15 ?_))))
      refine JC.region (by rfl) ?_
      intro hQ
      refine JL.bin rfl rfl rfl .none rfl ?_
      refine JL.move .none rfl ?_
      refine JL.done hQ ?_
      obtain rfl := Option.some.inj hF
      refine JQ.mask [false] [] ?_
      exact JQ.next rfl ⟨rfl, rfl, rfl, rfl, rfl, rfl, hs72⟩
    · refine JC.cond_f (b := decide (x_71 < (y2.length : Int))) rfl hc75 ?_
      refine JC.exit ?_
      refine JQ.exit_then ?_
      refine JQ.exit_then ?_
      refine JQ.exit_block ?_
      obtain rfl := Option.some.inj hF
      have ehr73 := hr73 _ rfl
      subst ehr73
      exact JQ.join r_70 ⟨rfl, rfl, rfl, hs72, rfl⟩
  · rintro r_43 H44 f bs gs ⟨hf2, rfl, rfl, hs44, rfl⟩
    have hF := hKr45
    try dsimp only at hF
    refine (JQ.norm (i := 2) hf2 ?_)
    refine JQ.go ?_
    refine JC.seq ?_
    refine JC.region (by rfl) ?_
    intro hQ
    refine JL.move .none rfl ?_
    refine JL.assign .none rfl ?_
    refine JL.done hQ ?_
    refine JQ.go ?_
    refine JC.ret ?_
    obtain rfl := Option.some.inj hF
    exact JQ.outS rfl (.tmp .nil) rfl

-- 16 ferrule/frames.Distance
def F_frames_Distance (n : Nat) (f_ : Frame) (section_ : Int) (r : Int) : Option (Int × Int) :=
  (F_frames_ask n f_ section_ r).bind fun y2 => if (y2 != 0) = true then (some (0, y2)) else ((F_frames_distance n f_ section_ r).bind fun y4 => some (y4, 0))
set_option maxRecDepth 100000 in
set_option maxHeartbeats 40000000 in
theorem c_frames_Distance (n : Nat) (H : Hp) (f_ : Frame) (f__v0 : Value) (hf__0 : SL H 7 R_Section f__v0 f_.Sections) (section_ : Int) (r : Int) (y : Int × Int) (hF : F_frames_Distance n f_ section_ r = some y) : SC Try.prog 16 [.agg [f__v0, .int .i64 f_.Low, .int .i64 f_.High, .int .i64 f_.Ease.Num, .int .i64 f_.Ease.Den, .int .i64 f_.Rod, .int .i64 f_.Case].toArray, .int .i64 section_, .int .i64 r] (.tuple [.int .i64 y.1, .int .i64 y.2].toArray) H := by
  rw [F_frames_Distance] at hF
  refine SC.of (N := 20) Try.func16 rfl rfl rfl fun w => ?_
  refine JC.seq ?_
  refine JC.region (by rfl) ?_
  intro hQ
  refine JL.box (cs := [f__v0, .int .i64 f_.Low, .int .i64 f_.High, .int .i64 f_.Ease.Num, .int .i64 f_.Ease.Den, .int .i64 f_.Rod, .int .i64 f_.Case]) rfl .none rfl ?_
  intro b1
  refine JL.assign .none rfl ?_
  refine JL.assign .none rfl ?_
  refine JL.done hQ ?_
  refine JQ.go ?_
  refine JC.seq ?_
  refine JC.seq ?_
  refine JC.region (by rfl) ?_
  intro hQ
  refine JL.loadOwn 0 az_26 rfl rfl rfl .none rfl ?_
  refine JL.move .none rfl ?_
  refine JL.move .none rfl ?_
  obtain ⟨y2, hy2, hF⟩ := bind_some hF
  refine JL.callS (c_frames_ask n H f_ f__v0 hf__0 section_ r y2 hy2) rfl en_56 .none rfl ?_
  refine JL.assign .none rfl ?_
  refine JL.done hQ ?_
  refine JQ.go ?_
  refine JC.seq ?_
  refine JC.region (by rfl) ?_
  intro hQ
  refine JL.move .none rfl ?_
  refine JL.bin rfl rfl rfl .none rfl ?_
  refine JL.done hQ ?_
  refine JQ.go ?_
  rcases ite_some hF with ⟨hc3, hF⟩ | ⟨hc3, hF⟩
  · refine JC.cond_t (b := (y2 != 0)) rfl hc3 ?_
    refine JC.seq ?_
    refine JC.region (by rfl) ?_
    intro hQ
    refine JL.move .none rfl ?_
    refine JL.assign .none rfl ?_
    refine JL.assign .none rfl ?_
    refine JL.done hQ ?_
    refine JQ.go ?_
    refine JC.fresh (fun f => f 6 = .int .i64 0 ∧ f 7 = .int .i64 y2) ⟨rfl, rfl⟩ ?_
    rintro f ⟨hf6, hf7⟩
    refine (JC.norm (i := 6) hf6 (JC.norm (i := 7) hf7 ?_))
    refine JC.ret ?_
    refine JQ.ret_then ?_
    obtain rfl := Option.some.inj hF
    exact JQ.outS rfl (.tmp (.tmp .nil)) rfl
  · refine JC.cond_f (b := (y2 != 0)) rfl hc3 ?_
    refine JC.skip ?_
    refine JQ.go ?_
    refine JC.seq ?_
    refine JC.region (by rfl) ?_
    intro hQ
    refine JL.loadOwn 0 az_26 rfl rfl rfl .none rfl ?_
    refine JL.move .none rfl ?_
    refine JL.move .none rfl ?_
    obtain ⟨y4, hy4, hF⟩ := bind_some hF
    refine JL.callS (c_frames_distance n H f_ f__v0 hf__0 section_ r y4 hy4) rfl en_57 .none rfl ?_
    refine JL.assign .none rfl ?_
    refine JL.assign .none rfl ?_
    refine JL.done hQ ?_
    refine JQ.go ?_
    refine JC.fresh (fun f => f 6 = .int .i64 y4 ∧ f 7 = .int .i64 0) ⟨rfl, rfl⟩ ?_
    rintro f ⟨hf6, hf7⟩
    refine (JC.norm (i := 6) hf6 (JC.norm (i := 7) hf7 ?_))
    refine JC.ret ?_
    obtain rfl := Option.some.inj hF
    exact JQ.outS rfl (.tmp (.tmp .nil)) rfl

-- 61 ferrule/frames.truths
def F_frames_truths (n : Nat) (s : Section) : Option Section :=
  some s
set_option maxRecDepth 100000 in
set_option maxHeartbeats 40000000 in
theorem c_frames_truths (n : Nat) (H : Hp) (s : Section) (y : Section) (hF : F_frames_truths n s = some y) : HC Try.prog 61 [.agg [.int .i64 s.Arm.Low, .int .i64 s.Arm.High, .int .i64 s.Stretch.Low, .int .i64 s.Stretch.High, .int .i64 s.Base, .int .i64 s.Gear.Num, .int .i64 s.Gear.Den].toArray] H (fun H' v => ∃ b0_ : Nat, v = .func (.func 75) #[] [.pointer (some ⟨b0_, 0, none⟩)].toArray ∧ Cells H' b0_ 0 [.int .i64 y.Arm.Low, .int .i64 y.Arm.High, .int .i64 y.Stretch.Low, .int .i64 y.Stretch.High, .int .i64 y.Base, .int .i64 y.Gear.Num, .int .i64 y.Gear.Den]) := by
  rw [F_frames_truths] at hF
  refine HC.of (N := 4) Try.func61 rfl rfl rfl fun w => ?_
  refine JC.seq ?_
  refine JC.region (by rfl) ?_
  intro hQ
  refine JL.box (cs := [.int .i64 s.Arm.Low, .int .i64 s.Arm.High, .int .i64 s.Stretch.Low, .int .i64 s.Stretch.High, .int .i64 s.Base, .int .i64 s.Gear.Num, .int .i64 s.Gear.Den]) rfl .none rfl ?_
  intro b1
  refine JL.assign .none rfl ?_
  refine JL.done hQ ?_
  refine JQ.go ?_
  refine JC.seq ?_
  refine JC.region (by rfl) ?_
  intro hQ
  refine JL.makeFunc .none rfl ?_
  refine JL.assign .none rfl ?_
  refine JL.done hQ ?_
  refine JQ.go ?_
  refine JC.ret ?_
  refine JQ.freezeC 0 (l := [.int .i64 s.Arm.Low, .int .i64 s.Arm.High, .int .i64 s.Stretch.Low, .int .i64 s.Stretch.High, .int .i64 s.Base, .int .i64 s.Gear.Num, .int .i64 s.Gear.Den]) rfl ?_
  intro H2 hs2 hc3
  obtain rfl := Option.some.inj hF
  exact JQ.outH rfl (.tmp .nil) ⟨b1, rfl, hc3⟩

-- 62 (ferrule/frames.sides).cosine
def F_frames_sides_cosine (n : Nat) (x_ : frames_sides) (d : Int) : Option Frac :=
  some (Frac.mk (w64 ((w64 ((w64 (d * d)) + (w64 (x_.arm * x_.arm)))) - (w64 (x_.stretch * x_.stretch)))) (w64 ((w64 (2 * d)) * x_.arm)))
set_option maxRecDepth 100000 in
set_option maxHeartbeats 40000000 in
theorem c_frames_sides_cosine (n : Nat) (H : Hp) (x_ : frames_sides) (d : Int) (y : Frac) (hF : F_frames_sides_cosine n x_ d = some y) : SC Try.prog 62 [.agg [.int .i64 x_.arm, .int .i64 x_.stretch].toArray, .int .i64 d] (.agg [.int .i64 y.Num, .int .i64 y.Den].toArray) H := by
  rw [F_frames_sides_cosine] at hF
  refine SC.of (N := 26) Try.func62 rfl rfl rfl fun w => ?_
  refine JC.seq ?_
  refine JC.region (by rfl) ?_
  intro hQ
  refine JL.box (cs := [.int .i64 x_.arm, .int .i64 x_.stretch]) rfl .none rfl ?_
  intro b1
  refine JL.alloc ze_24 .none rfl ?_
  intro b2
  refine JL.done hQ ?_
  refine JQ.go ?_
  refine JC.seq ?_
  refine JC.region (by rfl) ?_
  intro hQ
  refine JL.move .none rfl ?_
  refine JL.move .none rfl ?_
  refine JL.bin rfl rfl rfl .none rfl ?_
  refine JL.fieldAddr fo_82_0 rfl .none rfl ?_
  refine JL.loadOwn 1 az_3 rfl rfl rfl .none rfl ?_
  refine JL.fieldAddr fo_82_0 rfl .none rfl ?_
  refine JL.loadOwn 1 az_3 rfl rfl rfl .none rfl ?_
  refine JL.bin rfl rfl rfl .none rfl ?_
  refine JL.bin rfl rfl rfl .none rfl ?_
  refine JL.fieldAddr fo_82_1 rfl .none rfl ?_
  refine JL.loadOwn 1 az_3 rfl rfl rfl .none rfl ?_
  refine JL.fieldAddr fo_82_1 rfl .none rfl ?_
  refine JL.loadOwn 1 az_3 rfl rfl rfl .none rfl ?_
  refine JL.bin rfl rfl rfl .none rfl ?_
  refine JL.bin rfl rfl rfl .none rfl ?_
  refine JL.move .none rfl ?_
  refine JL.bin rfl rfl rfl .none rfl ?_
  refine JL.fieldAddr fo_82_0 rfl .none rfl ?_
  refine JL.loadOwn 1 az_3 rfl rfl rfl .none rfl ?_
  refine JL.bin rfl rfl rfl .none rfl ?_
  refine JL.build (l := [.int .i64 (w64 ((w64 ((w64 (d * d)) + (w64 (x_.arm * x_.arm)))) - (w64 (x_.stretch * x_.stretch)))), .int .i64 (w64 ((w64 (2 * d)) * x_.arm))]) (by kernel_rfl) .none rfl ?_
  refine JL.storeOwn 0 (cs := [.int .i64 (w64 ((w64 ((w64 (d * d)) + (w64 (x_.arm * x_.arm)))) - (w64 (x_.stretch * x_.stretch)))), .int .i64 (w64 ((w64 (2 * d)) * x_.arm))]) az_24 rfl rfl rfl (one_cons rfl (one_cons rfl one_nil)) rfl rfl .none ?_
  refine JL.done hQ ?_
  refine JQ.go ?_
  refine JC.fresh (fun f => f 4 = .pointer (some ⟨b2, 0, none⟩)) rfl ?_
  rintro f hf4
  refine (JC.norm (i := 4) hf4 ?_)
  refine JC.ret ?_
  obtain rfl := Option.some.inj hF
  exact JQ.outS rfl (.cell 0 az_24 rfl rfl rfl .nil) rfl

-- 81 cmp.isNaN[int]
def F_cmp_isNaN_int_ (n : Nat) (x_ : Int) : Option Bool :=
  some (x_ != x_)
set_option maxRecDepth 100000 in
set_option maxHeartbeats 40000000 in
theorem c_cmp_isNaN_int_ (n : Nat) (H : Hp) (x_ : Int) (y : Bool) (hF : F_cmp_isNaN_int_ n x_ = some y) : SC Try.prog 81 [.int .i64 x_] (.bool y) H := by
  rw [F_cmp_isNaN_int_] at hF
  refine SC.of (N := 6) Try.func81 rfl rfl rfl fun w => ?_
  refine JC.seq ?_
  refine JC.region (by rfl) ?_
  intro hQ
  refine JL.assign .none rfl ?_
  refine JL.done hQ ?_
  refine JQ.go ?_
  refine JC.seq ?_
  refine JC.region (by rfl) ?_
  intro hQ
  refine JL.move .none rfl ?_
  refine JL.move .none rfl ?_
  refine JL.bin rfl rfl rfl .none rfl ?_
  refine JL.assign .none rfl ?_
  refine JL.done hQ ?_
  refine JQ.go ?_
  refine JC.ret ?_
  obtain rfl := Option.some.inj hF
  exact JQ.outS rfl (.tmp .nil) rfl

-- 76 cmp.Compare[int]
def F_cmp_Compare_int_ (n : Nat) (x_ : Int) (y_ : Int) : Option Int :=
  (F_cmp_isNaN_int_ n x_).bind fun y1 => (F_cmp_isNaN_int_ n y_).bind fun y2 => if y1 = true then (if y2 = true then (some 0) else (some (-1))) else (if y2 = true then (some 1) else (if decide (x_ < y_) = true then (some (-1)) else (if decide (y_ < x_) = true then (some 1) else (some 0))))
set_option maxRecDepth 100000 in
set_option maxHeartbeats 40000000 in
theorem c_cmp_Compare_int_ (n : Nat) (H : Hp) (x_ : Int) (y_ : Int) (y : Int) (hF : F_cmp_Compare_int_ n x_ y_ = some y) : SC Try.prog 76 [.int .i64 x_, .int .i64 y_] (.int .i64 y) H := by
  rw [F_cmp_Compare_int_] at hF
  refine SC.of (N := 20) Try.func76 rfl rfl rfl fun w => ?_
  refine JC.seq ?_
  refine JC.region (by rfl) ?_
  intro hQ
  refine JL.assign .none rfl ?_
  refine JL.done hQ ?_
  refine JQ.go ?_
  refine JC.seq ?_
  refine JC.region (by rfl) ?_
  intro hQ
  refine JL.move .none rfl ?_
  obtain ⟨y1, hy1, hF⟩ := bind_some hF
  refine JL.callS (c_cmp_isNaN_int_ n H x_ y1 hy1) rfl en_81 .none rfl ?_
  refine JL.assign .none rfl ?_
  refine JL.done hQ ?_
  refine JQ.go ?_
  refine JC.seq ?_
  refine JC.region (by rfl) ?_
  intro hQ
  refine JL.move .none rfl ?_
  obtain ⟨y2, hy2, hF⟩ := bind_some hF
  refine JL.callS (c_cmp_isNaN_int_ n H y_ y2 hy2) rfl en_81 .none rfl ?_
  refine JL.assign .none rfl ?_
  refine JL.done hQ ?_
  refine JQ.go ?_
  refine JC.seq ?_
  refine JC.seq ?_
  refine JC.region (by rfl) ?_
  intro hQ
  refine JL.move .none rfl ?_
  refine JL.done hQ ?_
  refine JQ.go ?_
  rcases ite_some hF with ⟨hc3, hF⟩ | ⟨hc3, hF⟩
  · refine JC.cond_t (b := y1) rfl hc3 ?_
    refine JC.seq ?_
    refine JC.seq ?_
    refine JC.region (by rfl) ?_
    intro hQ
    refine JL.move .none rfl ?_
    refine JL.done hQ ?_
    refine JQ.go ?_
    rcases ite_some hF with ⟨hc4, hF⟩ | ⟨hc4, hF⟩
    · refine JC.cond_t (b := y2) rfl hc4 ?_
      refine JC.seq ?_
      refine JC.region (by rfl) ?_
      intro hQ
      refine JL.assign .none rfl ?_
      refine JL.done hQ ?_
      refine JQ.go ?_
      refine JC.ret ?_
      refine JQ.ret_then ?_
      refine JQ.ret_then ?_
      obtain rfl := Option.some.inj hF
      exact JQ.outS rfl (.tmp .nil) rfl
    · refine JC.cond_f (b := y2) rfl hc4 ?_
      refine JC.skip ?_
      refine JQ.go ?_
      refine JC.seq ?_
      refine JC.region (by rfl) ?_
      intro hQ
      refine JL.assign .none rfl ?_
      refine JL.done hQ ?_
      refine JQ.go ?_
      refine JC.ret ?_
      refine JQ.ret_then ?_
      obtain rfl := Option.some.inj hF
      exact JQ.outS rfl (.tmp .nil) rfl
  · refine JC.cond_f (b := y1) rfl hc3 ?_
    refine JC.skip ?_
    refine JQ.go ?_
    refine JC.seq ?_
    refine JC.seq ?_
    refine JC.region (by rfl) ?_
    intro hQ
    refine JL.move .none rfl ?_
    refine JL.done hQ ?_
    refine JQ.go ?_
    rcases ite_some hF with ⟨hc5, hF⟩ | ⟨hc5, hF⟩
    · refine JC.cond_t (b := y2) rfl hc5 ?_
      refine JC.seq ?_
      refine JC.region (by rfl) ?_
      intro hQ
      refine JL.assign .none rfl ?_
      refine JL.done hQ ?_
      refine JQ.go ?_
      refine JC.ret ?_
      refine JQ.ret_then ?_
      obtain rfl := Option.some.inj hF
      exact JQ.outS rfl (.tmp .nil) rfl
    · refine JC.cond_f (b := y2) rfl hc5 ?_
      refine JC.skip ?_
      refine JQ.go ?_
      refine JC.seq ?_
      refine JC.seq ?_
      refine JC.region (by rfl) ?_
      intro hQ
      refine JL.move .none rfl ?_
      refine JL.move .none rfl ?_
      refine JL.bin rfl rfl rfl .none rfl ?_
      refine JL.done hQ ?_
      refine JQ.go ?_
      refine JC.fresh (fun f => f 0 = .int .i64 x_ ∧ f 1 = .int .i64 y_ ∧ f 4 = .int .i64 0 ∧ f 16 = .bool (decide (x_ < y_))) ⟨rfl, rfl, rfl, rfl⟩ ?_
      rintro f ⟨hf0, hf1, hf4, hf16⟩
      refine (JC.norm (i := 0) hf0 (JC.norm (i := 1) hf1 (JC.norm (i := 4) hf4 (JC.norm (i := 16) hf16 ?_))))
      rcases ite_some hF with ⟨hc6, hF⟩ | ⟨hc6, hF⟩
      · refine JC.cond_t (b := decide (x_ < y_)) rfl hc6 ?_
        refine JC.seq ?_
        refine JC.region (by rfl) ?_
        intro hQ
        refine JL.assign .none rfl ?_
        refine JL.done hQ ?_
        refine JQ.go ?_
        refine JC.ret ?_
        refine JQ.ret_then ?_
        obtain rfl := Option.some.inj hF
        exact JQ.outS rfl (.tmp .nil) rfl
      · refine JC.cond_f (b := decide (x_ < y_)) rfl hc6 ?_
        refine JC.skip ?_
        refine JQ.go ?_
        refine JC.seq ?_
        refine JC.seq ?_
        refine JC.region (by rfl) ?_
        intro hQ
        refine JL.move .none rfl ?_
        refine JL.move .none rfl ?_
        refine JL.bin rfl rfl rfl .none rfl ?_
        refine JL.done hQ ?_
        refine JQ.go ?_
        rcases ite_some hF with ⟨hc7, hF⟩ | ⟨hc7, hF⟩
        · refine JC.cond_t (b := decide (y_ < x_)) rfl hc7 ?_
          refine JC.seq ?_
          refine JC.region (by rfl) ?_
          intro hQ
          refine JL.assign .none rfl ?_
          refine JL.done hQ ?_
          refine JQ.go ?_
          refine JC.ret ?_
          refine JQ.ret_then ?_
          obtain rfl := Option.some.inj hF
          exact JQ.outS rfl (.tmp .nil) rfl
        · refine JC.cond_f (b := decide (y_ < x_)) rfl hc7 ?_
          refine JC.skip ?_
          refine JQ.go ?_
          refine JC.seq ?_
          refine JC.region (by rfl) ?_
          intro hQ
          refine JL.assign .none rfl ?_
          refine JL.done hQ ?_
          refine JQ.go ?_
          refine JC.ret ?_
          obtain rfl := Option.some.inj hF
          exact JQ.outS rfl (.tmp .nil) rfl

-- 63 ferrule/frames.compare
def F_frames_compare (n : Nat) (a : Frac) (b : Frac) : Option Int :=
  (F_cmp_Compare_int_ n (w64 (a.Num * b.Den)) (w64 (b.Num * a.Den))).bind fun y3 => some y3
set_option maxRecDepth 100000 in
set_option maxHeartbeats 40000000 in
theorem c_frames_compare (n : Nat) (H : Hp) (a : Frac) (b : Frac) (y : Int) (hF : F_frames_compare n a b = some y) : SC Try.prog 63 [.agg [.int .i64 a.Num, .int .i64 a.Den].toArray, .agg [.int .i64 b.Num, .int .i64 b.Den].toArray] (.int .i64 y) H := by
  rw [F_frames_compare] at hF
  refine SC.of (N := 16) Try.func63 rfl rfl rfl fun w => ?_
  refine JC.seq ?_
  refine JC.region (by rfl) ?_
  intro hQ
  refine JL.box (cs := [.int .i64 a.Num, .int .i64 a.Den]) rfl .none rfl ?_
  intro b1
  refine JL.box (cs := [.int .i64 b.Num, .int .i64 b.Den]) rfl .none rfl ?_
  intro b2
  refine JL.assign .none rfl ?_
  refine JL.done hQ ?_
  refine JQ.go ?_
  refine JC.seq ?_
  refine JC.region (by rfl) ?_
  intro hQ
  refine JL.fieldAddr fo_24_0 rfl .none rfl ?_
  refine JL.loadOwn 1 az_3 rfl rfl rfl .none rfl ?_
  refine JL.fieldAddr fo_24_1 rfl .none rfl ?_
  refine JL.loadOwn 0 az_3 rfl rfl rfl .none rfl ?_
  refine JL.bin rfl rfl rfl .none rfl ?_
  refine JL.fieldAddr fo_24_0 rfl .none rfl ?_
  refine JL.loadOwn 0 az_3 rfl rfl rfl .none rfl ?_
  refine JL.fieldAddr fo_24_1 rfl .none rfl ?_
  refine JL.loadOwn 1 az_3 rfl rfl rfl .none rfl ?_
  refine JL.bin rfl rfl rfl .none rfl ?_
  obtain ⟨y3, hy3, hF⟩ := bind_some hF
  refine JL.callS (c_cmp_Compare_int_ n H (w64 (a.Num * b.Den)) (w64 (b.Num * a.Den)) y3 hy3) rfl en_76 .none rfl ?_
  refine JL.assign .none rfl ?_
  refine JL.done hQ ?_
  refine JQ.go ?_
  refine JC.fresh (fun f => f 4 = .int .i64 y3) rfl ?_
  rintro f hf4
  refine (JC.norm (i := 4) hf4 ?_)
  refine JC.ret ?_
  obtain rfl := Option.some.inj hF
  exact JQ.outS rfl (.tmp .nil) rfl

-- 64 ferrule/frames.reduced
def F_frames_reduced_s1 (n : Nat)  : Int × Int → Option ((Int × Int) ⊕ Int)
  | (a_38, b_39) => if (b_39 != 0) = true then ((nz b_39).bind fun _ => some (Sum.inl (b_39, (a_38.tmod b_39)))) else (some (Sum.inr a_38))
def F_frames_reduced (n : Nat) (f_ : Frac) : Option Frac :=
  (loopO n (F_frames_reduced_s1 n) ((max f_.Num (w64 (-f_.Num))), f_.Den)).bind fun a_23 => (nz a_23).bind fun _ => (nz a_23).bind fun _ => some (Frac.mk (w64 (f_.Num.tdiv a_23)) (w64 (f_.Den.tdiv a_23)))
set_option maxRecDepth 100000 in
set_option maxHeartbeats 40000000 in
theorem c_frames_reduced (n : Nat) (H : Hp) (f_ : Frac) (y : Frac) (hF : F_frames_reduced n f_ = some y) : SC Try.prog 64 [.agg [.int .i64 f_.Num, .int .i64 f_.Den].toArray] (.agg [.int .i64 y.Num, .int .i64 y.Den].toArray) H := by
  rw [F_frames_reduced] at hF
  refine SC.of (N := 28) Try.func64 rfl rfl rfl fun w => ?_
  refine JC.seq ?_
  refine JC.region (by rfl) ?_
  intro hQ
  refine JL.box (cs := [.int .i64 f_.Num, .int .i64 f_.Den]) rfl .none rfl ?_
  intro b1
  refine JL.alloc ze_24 .none rfl ?_
  intro b2
  refine JL.done hQ ?_
  refine JQ.go ?_
  refine JC.seq ?_
  refine JC.draw (by rfl) mo_ (by kernel_rfl) ?_
  intro hQ
  refine JL.fieldAddr fo_24_0 rfl .none rfl ?_
  refine JL.loadOwn 1 az_3 rfl rfl rfl .none rfl ?_
  refine JL.fieldAddr fo_24_0 rfl .none rfl ?_
  refine JL.loadOwn 1 az_3 rfl rfl rfl .none rfl ?_
  refine JL.neg rfl .none rfl ?_
  refine JL.max rfl rfl .none rfl ?_
  refine JL.fieldAddr fo_24_1 rfl .none rfl ?_
  refine JL.loadOwn 1 az_3 rfl rfl rfl .none rfl ?_
  refine JL.assign .none rfl ?_
  refine JL.assign .none rfl ?_
  refine JL.doneQ hQ ?_
  refine JQ.go ?_
  refine JC.seq ?_
  obtain ⟨r25, hlr25, hKr25⟩ := bind_some hF
  refine JC.join (fun (a_23 : Int) H24 f bs gs => f 1 = .pointer (some ⟨b1, 0, none⟩) ∧ f 2 = .pointer (some ⟨b2, 0, none⟩) ∧ f 3 = .int .i64 a_23 ∧ bs = [(b2, .cells [.int .i64 0, .int .i64 0].toArray 24), (b1, .cells [.int .i64 f_.Num, .int .i64 f_.Den].toArray 24)] ∧ gs = [] ∧ HSub H H24 ∧ a_23 = r25) ?_ ?_
  · skip
    refine JC.block ?_
    refine JC.loop hlr25 (fun (x : Int × Int) H40 f bs gs => match x with | (a_38, b_39) => f 1 = .pointer (some ⟨b1, 0, none⟩) ∧ f 2 = .pointer (some ⟨b2, 0, none⟩) ∧ f 3 = .int .i64 a_38 ∧ f 4 = .int .i64 b_39 ∧ bs = [(b2, .cells [.int .i64 0, .int .i64 0].toArray 24), (b1, .cells [.int .i64 f_.Num, .int .i64 f_.Den].toArray 24)] ∧ gs = [] ∧ HSub H H40) ⟨rfl, rfl, rfl, rfl, rfl, rfl, (HSub.refl _)⟩ ?_
    rintro ⟨a_38, b_39⟩ x42 H40 f bs gs ⟨hf1, hf2, hf3, hf4, rfl, rfl, hs40⟩ hF hr41
    rw [F_frames_reduced_s1] at hF
    refine (JC.norm (i := 1) hf1 (JC.norm (i := 2) hf2 (JC.norm (i := 3) hf3 (JC.norm (i := 4) hf4 ?_))))
    refine JC.seq ?_
    refine JC.seq ?_
    refine JC.region (by rfl) ?_
    intro hQ
    refine JL.move .none rfl ?_
    refine JL.bin rfl rfl rfl .none rfl ?_
    refine JL.done hQ ?_
    refine JQ.go ?_
    rcases ite_some hF with ⟨hc43, hF⟩ | ⟨hc43, hF⟩
    · refine JC.cond_t (b := (b_39 != 0)) rfl hc43 ?_
      refine JC.skip ?_
      refine JQ.go ?_
      refine JC.block ?_
      refine JC.draw (by rfl) mo_ (by kernel_rfl) ?_
      intro hQ
      refine JL.move .none rfl ?_
      refine JL.move .none rfl ?_
      refine JL.move .none rfl ?_
      obtain ⟨u45, hu45, hF⟩ := bind_some hF
      refine JL.div rfl rfl (nz_some hu45) rfl .none rfl ?_
      refine JL.assign .none rfl ?_
      refine JL.assign .none rfl ?_
      refine JL.doneQ hQ ?_
      refine JQ.normal_block ?_
      obtain rfl := Option.some.inj hF
      exact JQ.next rfl ⟨rfl, rfl, rfl, rfl, rfl, rfl, hs40⟩
    · refine JC.cond_f (b := (b_39 != 0)) rfl hc43 ?_
      refine JC.exit ?_
      refine JQ.exit_then ?_
      refine JQ.exit_then ?_
      refine JQ.exit_block ?_
      obtain rfl := Option.some.inj hF
      have ehr41 := hr41 _ rfl
      subst ehr41
      exact JQ.join a_38 ⟨rfl, rfl, rfl, rfl, rfl, hs40, rfl⟩
  · rintro a_23 H24 f bs gs ⟨hf1, hf2, hf3, rfl, rfl, hs24, rfl⟩
    have hF := hKr25
    try dsimp only at hF
    refine (JQ.norm (i := 1) hf1 (JQ.norm (i := 2) hf2 (JQ.norm (i := 3) hf3 ?_)))
    refine JQ.go ?_
    refine JC.seq ?_
    obtain ⟨u48, hu48, hF⟩ := bind_some hF
    obtain ⟨u49, hu49, hF⟩ := bind_some hF
    refine JC.mixed 9 10 #[false, false, false, false, false, false, false, false, false, false] [(b2, .cells [.int .i64 0, .int .i64 0].toArray 24), (b1, .cells [.int .i64 f_.Num, .int .i64 f_.Den].toArray 24)] (by rfl) mo_ (by kernel_rfl) (by kernel_rfl) ?_
    intro hQ hE
    refine JA.take 0 (listed' := #[true, false, false, false, false, false, false, false, false, false]) hQ rfl (by kernel_rfl) (by kernel_rfl) (by kernel_rfl) (by kernel_rfl) (by kernel_rfl) hE (HSub.refl _) (.cons_cons _ (.cons_cons _ (List.nil_sublist _))) ?_
    refine JL.fieldAddr fo_24_0 rfl .none rfl ?_
    refine JA.cont ?_
    refine JA.take 1 (listed' := #[true, true, false, false, false, false, false, false, false, false]) hQ rfl (by kernel_rfl) (by kernel_rfl) (by kernel_rfl) (by kernel_rfl) (by kernel_rfl) hE (HSub.refl _) (.cons_cons _ (.cons_cons _ (List.nil_sublist _))) ?_
    refine JL.loadOwn 1 az_3 rfl rfl rfl .none rfl ?_
    refine JA.cont ?_
    refine JA.take 2 (listed' := #[true, true, true, false, false, false, false, false, false, false]) hQ rfl (by kernel_rfl) (by kernel_rfl) (by kernel_rfl) (by kernel_rfl) (by kernel_rfl) hE (HSub.refl _) (.cons_cons _ (.cons_cons _ (List.nil_sublist _))) ?_
    refine JL.move .none rfl ?_
    refine JA.cont ?_
    refine JA.take 3 (listed' := #[true, true, true, true, false, false, false, false, false, false]) hQ rfl (by kernel_rfl) (by kernel_rfl) (by kernel_rfl) (by kernel_rfl) (by kernel_rfl) hE (HSub.refl _) (.cons_cons _ (.cons_cons _ (List.nil_sublist _))) ?_
    refine JL.div rfl rfl (nz_some hu48) rfl .none rfl ?_
    refine JA.cont ?_
    refine JA.take 4 (listed' := #[true, true, true, true, true, false, false, false, false, false]) hQ rfl (by kernel_rfl) (by kernel_rfl) (by kernel_rfl) (by kernel_rfl) (by kernel_rfl) hE (HSub.refl _) (.cons_cons _ (.cons_cons _ (List.nil_sublist _))) ?_
    refine JL.fieldAddr fo_24_1 rfl .none rfl ?_
    refine JA.cont ?_
    refine JA.take 5 (listed' := #[true, true, true, true, true, true, false, false, false, false]) hQ rfl (by kernel_rfl) (by kernel_rfl) (by kernel_rfl) (by kernel_rfl) (by kernel_rfl) hE (HSub.refl _) (.cons_cons _ (.cons_cons _ (List.nil_sublist _))) ?_
    refine JL.loadOwn 1 az_3 rfl rfl rfl .none rfl ?_
    refine JA.cont ?_
    refine JA.take 6 (listed' := #[true, true, true, true, true, true, true, false, false, false]) hQ rfl (by kernel_rfl) (by kernel_rfl) (by kernel_rfl) (by kernel_rfl) (by kernel_rfl) hE (HSub.refl _) (.cons_cons _ (.cons_cons _ (List.nil_sublist _))) ?_
    refine JL.move .none rfl ?_
    refine JA.cont ?_
    refine JA.take 7 (listed' := #[true, true, true, true, true, true, true, true, false, false]) hQ rfl (by kernel_rfl) (by kernel_rfl) (by kernel_rfl) (by kernel_rfl) (by kernel_rfl) hE (HSub.refl _) (.cons_cons _ (.cons_cons _ (List.nil_sublist _))) ?_
    refine JL.div rfl rfl (nz_some hu49) rfl .none rfl ?_
    refine JA.cont ?_
    refine JA.take 8 (listed' := #[true, true, true, true, true, true, true, true, true, false]) hQ rfl (by kernel_rfl) (by kernel_rfl) (by kernel_rfl) (by kernel_rfl) (by kernel_rfl) hE (HSub.refl _) (.cons_cons _ (.cons_cons _ (List.nil_sublist _))) ?_
    refine JL.build (l := [.int .i64 (w64 (f_.Num.tdiv a_23)), .int .i64 (w64 (f_.Den.tdiv a_23))]) (by kernel_rfl) .none rfl ?_
    refine JA.cont ?_
    refine JA.many [9] (by kernel_rfl) (by simp) (all_one ⟨_, #[true, true, true, true, true, true, true, true, true, true], rfl, (by kernel_rfl), ?_⟩)
    refine JL.storeOwn 0 (cs := [.int .i64 (w64 (f_.Num.tdiv a_23)), .int .i64 (w64 (f_.Den.tdiv a_23))]) az_24 rfl rfl rfl (one_cons rfl (one_cons rfl one_nil)) rfl rfl .none ?_
    refine JA.sink (by kernel_rfl) ?_
    refine JA.done hQ (by kernel_rfl) ?_
    refine JQ.go ?_
    refine JC.ret ?_
    obtain rfl := Option.some.inj hF
    exact JQ.outS rfl (.cell 0 az_24 rfl rfl rfl .nil) rfl

end Go.Proofs.Ytmgnhaibbeinbaa
