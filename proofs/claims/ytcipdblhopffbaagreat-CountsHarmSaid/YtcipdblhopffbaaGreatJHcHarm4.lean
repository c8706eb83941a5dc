/-
  A part of the proof of HcHarm: the texts HaGenK3, HaGenK4.
-/
import Derived.Test.YtcipdblhopffbaaGreatJHcHarm3
section
set_option maxRecDepth 100000
set_option maxHeartbeats 40000000
namespace Go.Proofs.YtcipdblhopffbaaGreat
open Go Go.RowKit Go.Dec
set_option linter.unusedVariables false
-- 87 ferrule/frames.Check
def F_frames_Check (n : Nat) (f_ : Frame) : Option Int :=
 (F_frames_within n f_.Low 1 f_.High).bind fun y2 => (F_frames_within n (f_.Sections.length : Int) 1 3).bind fun y7 => (if (!y7) = true then (some true) else ((F_slices_ContainsFunc___api_Section_api_Section_ n f_.Sections (fun a0_ => F_frames_Check_1 n a0_)).bind fun y12 => some y12) : Option Bool).bind fun p9 => (if (p9 || (!((y2 && (decide (f_.High ≤ 2000))) && (decide ((w64 (f_.High - f_.Low)) ≤ 200))))) = true then (some true) else ((F_frames_isShare n f_.Ease).bind fun y19 => some (!y19)) : Option Bool).bind fun p16 => (if p16 = true then (some true) else ((F_frames_within n f_.Rod 0 4000).bind fun y24 => some (!y24)) : Option Bool).bind fun p21 => (if p21 = true then (some true) else ((F_frames_within n f_.Case 0 4000).bind fun y29 => some (!y29)) : Option Bool).bind fun p26 => if p26 = true then (some 10) else (some 0)
theorem c_frames_Check (n : Nat) (H : Hp) (f_ : Frame) (f__v0 : Value) (hf__0 : SL H 7 R_Section f__v0 f_.Sections) (y : Int) (hF : F_frames_Check n f_ = some y) : SC Tryz.prog 87 [.agg [f__v0, .int .i64 f_.Low, .int .i64 f_.High, .int .i64 f_.Ease.Num, .int .i64 f_.Ease.Den, .int .i64 f_.Rod, .int .i64 f_.Case].toArray] (.int .i64 y) H := by
 rw [F_frames_Check] at hF
 refine SC.of (N := 56) Tryz.func87 rfl rfl rfl fun w => ?_
 refine JC.seq (JC.region (by rfl) ?_)
 intro hQ
 refine JL.box (cs := [f__v0, .int .i64 f_.Low, .int .i64 f_.High, .int .i64 f_.Ease.Num, .int .i64 f_.Ease.Den, .int .i64 f_.Rod, .int .i64 f_.Case]) rfl .none rfl ?_
 intro b1
 refine JL.assign .none rfl (JL.done hQ (JQ.go (JC.seq (JC.region (by rfl) ?_))))
 intro hQ
 refine JL.assign .none rfl (JL.done hQ (JQ.go (JC.seq (JC.region (by rfl) ?_))))
 intro hQ
 refine JL.fieldAddr fo_26_1 rfl .none rfl (JL.loadOwn 0 az_3 rfl rfl rfl .none rfl (JL.fieldAddr fo_26_2 rfl .none rfl (JL.loadOwn 0 az_3 rfl rfl rfl .none rfl ?_)))
 obtain ⟨y2, hy2, hF⟩ := bind_some hF
 refine JL.callS (c_frames_within n H f_.Low 1 f_.High y2 hy2) rfl en_102 .none rfl ?_
 refine JL.move .none rfl (JL.cut 4 (fun f => f 1 = .pointer (some ⟨b1, 0, none⟩) ∧ f 3 = .func (.func 100) #[] [].toArray ∧ f 14 = .bool (y2 && (decide (f_.High ≤ 2000)))) ?_ ?_)
 ·intro hJ3
  rcases bcases y2 with hc4 | hc4
  ·skip
   exact JL.fieldAddr fo_26_2 rfl (.some rfl rfl rfl hc4) rfl (JL.loadOwn 0 az_3 rfl rfl rfl (.some rfl rfl rfl hc4) rfl (JL.bin rfl rfl rfl (.some rfl rfl rfl hc4) rfl (JL.pick_t (b := y2) rfl hc4 .none rfl (hJ3 _ ⟨rfl, rfl, and_t hc4 rfl⟩))))
  ·skip
   exact JL.skip (.bool rfl rfl rfl hc4) rfl (JL.skip (.bool rfl rfl rfl hc4) rfl (JL.skip (.bool rfl rfl rfl hc4) rfl (JL.pick_f (b := y2) rfl hc4 .none rfl (hJ3 _ ⟨rfl, rfl, and_f hc4 rfl⟩))))
 ·rintro f ⟨hf1, hf3, hf14⟩
  refine (JL.norm (i := 1) hf1 (JL.norm (i := 3) hf3 (JL.norm (i := 14) hf14 ?_)))
  refine JL.move .none rfl (JL.cut 7 (fun f => f 1 = .pointer (some ⟨b1, 0, none⟩) ∧ f 3 = .func (.func 100) #[] [].toArray ∧ f 22 = .bool ((y2 && (decide (f_.High ≤ 2000))) && (decide ((w64 (f_.High - f_.Low)) ≤ 200)))) ?_ ?_)
  ·intro hJ5
   rcases bcases (y2 && (decide (f_.High ≤ 2000))) with hc6 | hc6
   ·skip
    exact JL.fieldAddr fo_26_2 rfl (.some rfl rfl rfl hc6) rfl (JL.loadOwn 0 az_3 rfl rfl rfl (.some rfl rfl rfl hc6) rfl (JL.fieldAddr fo_26_1 rfl (.some rfl rfl rfl hc6) rfl (JL.loadOwn 0 az_3 rfl rfl rfl (.some rfl rfl rfl hc6) rfl (JL.bin rfl rfl rfl (.some rfl rfl rfl hc6) rfl (JL.bin rfl rfl rfl (.some rfl rfl rfl hc6) rfl (JL.pick_t (b := (y2 && (decide (f_.High ≤ 2000)))) rfl hc6 .none rfl (hJ5 _ ⟨rfl, rfl, and_t hc6 rfl⟩)))))))
   ·skip
    exact JL.skip (.bool rfl rfl rfl hc6) rfl (JL.skip (.bool rfl rfl rfl hc6) rfl (JL.skip (.bool rfl rfl rfl hc6) rfl (JL.skip (.bool rfl rfl rfl hc6) rfl (JL.skip (.bool rfl rfl rfl hc6) rfl (JL.skip (.bool rfl rfl rfl hc6) rfl (JL.pick_f (b := (y2 && (decide (f_.High ≤ 2000)))) rfl hc6 .none rfl (hJ5 _ ⟨rfl, rfl, and_f hc6 rfl⟩)))))))
  ·rintro f ⟨hf1, hf3, hf22⟩
   refine (JL.norm (i := 1) hf1 (JL.norm (i := 3) hf3 (JL.norm (i := 22) hf22 ?_)))
   refine JL.assign .none rfl (JL.done hQ (JQ.go (JC.seq (JC.seq (JC.region (by rfl) ?_)))))
   intro hQ
   refine JL.fieldAddr fo_26_0 rfl .none rfl (JL.loadOwn 0 az_22 rfl rfl rfl .none rfl (JL.lenSL (R := R_Section) ul_22 hf__0 .none rfl ?_))
   obtain ⟨y7, hy7, hF⟩ := bind_some hF
   refine JL.callS (c_frames_within n H (f_.Sections.length : Int) 1 3 y7 hy7) rfl en_102 .none rfl ?_
   refine JL.not rfl .none rfl (JL.move .none rfl ?_)
   obtain ⟨p9, hp9, hF⟩ := bind_some hF
   refine JL.cut 5 (fun f => f 1 = .pointer (some ⟨b1, 0, none⟩) ∧ f 4 = .bool ((y2 && (decide (f_.High ≤ 2000))) && (decide ((w64 (f_.High - f_.Low)) ≤ 200))) ∧ f 33 = .bool p9) ?_ ?_
   ·intro hJ10
    rcases ite_some hp9 with ⟨hc11, hF⟩ | ⟨hc11, hF⟩
    ·skip
     refine JL.skip (.bool rfl rfl rfl hc11) rfl (JL.skip (.bool rfl rfl rfl hc11) rfl (JL.skip (.bool rfl rfl rfl hc11) rfl (JL.skip (.bool rfl rfl rfl hc11) rfl (JL.pick_t (b := (!y7)) rfl hc11 .none rfl ?_))))
     obtain rfl := Option.some.inj hF
     exact hJ10 _ ⟨rfl, rfl, rfl⟩
    ·skip
     refine JL.fieldAddr fo_26_0 rfl (.some rfl rfl rfl hc11) rfl (JL.loadOwn 0 az_22 rfl rfl rfl (.some rfl rfl rfl hc11) rfl (JL.move (.some rfl rfl rfl hc11) rfl ?_))
     obtain ⟨y12, hy12, hF⟩ := bind_some hF
     refine JL.callS (c_slices_ContainsFunc___api_Section_api_Section_ n H f_.Sections f__v0 hf__0 (fun a0_ => F_frames_Check_1 n a0_) 100 [] en_100 (fun H' hs' a0_ y' hy' => c_frames_Check_1 n H' a0_ y' hy') y12 hy12) rfl en_104 (.some rfl rfl rfl hc11) rfl ?_
     refine JL.pick_f (b := (!y7)) rfl hc11 .none rfl ?_
     obtain rfl := Option.some.inj hF
     exact hJ10 _ ⟨rfl, rfl, rfl⟩
   ·rintro f ⟨hf1, hf4, hf33⟩
    refine (JL.norm (i := 1) hf1 (JL.norm (i := 4) hf4 (JL.norm (i := 33) hf33 ?_)))
    refine JL.move .none rfl (JL.cut 3 (fun f => f 1 = .pointer (some ⟨b1, 0, none⟩) ∧ f 37 = .bool (p9 || (!((y2 && (decide (f_.High ≤ 2000))) && (decide ((w64 (f_.High - f_.Low)) ≤ 200)))))) ?_ ?_)
    ·intro hJ13
     rcases bcases p9 with hc14 | hc14
     ·skip
      exact JL.skip (.bool rfl rfl rfl hc14) rfl (JL.skip (.bool rfl rfl rfl hc14) rfl (JL.pick_t (b := p9) rfl hc14 .none rfl (hJ13 _ ⟨rfl, or_t hc14 rfl⟩)))
     ·skip
      exact JL.move (.some rfl rfl rfl hc14) rfl (JL.not rfl (.some rfl rfl rfl hc14) rfl (JL.pick_f (b := p9) rfl hc14 .none rfl (hJ13 _ ⟨rfl, or_f hc14 rfl⟩)))
    ·rintro f ⟨hf1, hf37⟩
     refine (JL.norm (i := 1) hf1 (JL.norm (i := 37) hf37 ?_))
     refine JL.move .none rfl ?_
     obtain ⟨p16, hp16, hF⟩ := bind_some hF
     refine JL.cut 5 (fun f => f 1 = .pointer (some ⟨b1, 0, none⟩) ∧ f 43 = .bool p16) ?_ ?_
     ·intro hJ17
      rcases ite_some hp16 with ⟨hc18, hF⟩ | ⟨hc18, hF⟩
      ·skip
       refine JL.skip (.bool rfl rfl rfl hc18) rfl (JL.skip (.bool rfl rfl rfl hc18) rfl (JL.skip (.bool rfl rfl rfl hc18) rfl (JL.skip (.bool rfl rfl rfl hc18) rfl (JL.pick_t (b := (p9 || (!((y2 && (decide (f_.High ≤ 2000))) && (decide ((w64 (f_.High - f_.Low)) ≤ 200)))))) rfl hc18 .none rfl ?_))))
       obtain rfl := Option.some.inj hF
       exact hJ17 _ ⟨rfl, rfl⟩
      ·skip
       refine JL.fieldAddr fo_26_3 rfl (.some rfl rfl rfl hc18) rfl (JL.loadOwn 0 az_24 rfl rfl rfl (.some rfl rfl rfl hc18) rfl ?_)
       obtain ⟨y19, hy19, hF⟩ := bind_some hF
       refine JL.callS (c_frames_isShare n H f_.Ease y19 hy19) rfl en_103 (.some rfl rfl rfl hc18) rfl ?_
       refine JL.not rfl (.some rfl rfl rfl hc18) rfl (JL.pick_f (b := (p9 || (!((y2 && (decide (f_.High ≤ 2000))) && (decide ((w64 (f_.High - f_.Low)) ≤ 200)))))) rfl hc18 .none rfl ?_)
       obtain rfl := Option.some.inj hF
       exact hJ17 _ ⟨rfl, rfl⟩
     ·rintro f ⟨hf1, hf43⟩
      refine (JL.norm (i := 1) hf1 (JL.norm (i := 43) hf43 ?_))
      refine JL.move .none rfl ?_
      obtain ⟨p21, hp21, hF⟩ := bind_some hF
      refine JL.cut 5 (fun f => f 1 = .pointer (some ⟨b1, 0, none⟩) ∧ f 49 = .bool p21) ?_ ?_
      ·intro hJ22
       rcases ite_some hp21 with ⟨hc23, hF⟩ | ⟨hc23, hF⟩
       ·skip
        refine JL.skip (.bool rfl rfl rfl hc23) rfl (JL.skip (.bool rfl rfl rfl hc23) rfl (JL.skip (.bool rfl rfl rfl hc23) rfl (JL.skip (.bool rfl rfl rfl hc23) rfl (JL.pick_t (b := p16) rfl hc23 .none rfl ?_))))
        obtain rfl := Option.some.inj hF
        exact hJ22 _ ⟨rfl, rfl⟩
       ·skip
        refine JL.fieldAddr fo_26_4 rfl (.some rfl rfl rfl hc23) rfl (JL.loadOwn 0 az_3 rfl rfl rfl (.some rfl rfl rfl hc23) rfl ?_)
        obtain ⟨y24, hy24, hF⟩ := bind_some hF
        refine JL.callS (c_frames_within n H f_.Rod 0 4000 y24 hy24) rfl en_102 (.some rfl rfl rfl hc23) rfl ?_
        refine JL.not rfl (.some rfl rfl rfl hc23) rfl (JL.pick_f (b := p16) rfl hc23 .none rfl ?_)
        obtain rfl := Option.some.inj hF
        exact hJ22 _ ⟨rfl, rfl⟩
      ·rintro f ⟨hf1, hf49⟩
       refine (JL.norm (i := 1) hf1 (JL.norm (i := 49) hf49 ?_))
       refine JL.move .none rfl ?_
       obtain ⟨p26, hp26, hF⟩ := bind_some hF
       refine JL.cut 5 (fun f => f 55 = .bool p26) ?_ ?_
       ·intro hJ27
        rcases ite_some hp26 with ⟨hc28, hF⟩ | ⟨hc28, hF⟩
        ·skip
         refine JL.skip (.bool rfl rfl rfl hc28) rfl (JL.skip (.bool rfl rfl rfl hc28) rfl (JL.skip (.bool rfl rfl rfl hc28) rfl (JL.skip (.bool rfl rfl rfl hc28) rfl (JL.pick_t (b := p21) rfl hc28 .none rfl ?_))))
         obtain rfl := Option.some.inj hF
         exact hJ27 _ (rfl)
        ·skip
         refine JL.fieldAddr fo_26_5 rfl (.some rfl rfl rfl hc28) rfl (JL.loadOwn 0 az_3 rfl rfl rfl (.some rfl rfl rfl hc28) rfl ?_)
         obtain ⟨y29, hy29, hF⟩ := bind_some hF
         refine JL.callS (c_frames_within n H f_.Case 0 4000 y29 hy29) rfl en_102 (.some rfl rfl rfl hc28) rfl ?_
         refine JL.not rfl (.some rfl rfl rfl hc28) rfl (JL.pick_f (b := p21) rfl hc28 .none rfl ?_)
         obtain rfl := Option.some.inj hF
         exact hJ27 _ (rfl)
       ·rintro f hf55
        refine (JL.norm (i := 55) hf55 ?_)
        refine JL.done hQ (JQ.go ?_)
        rcases ite_some hF with ⟨hc30, hF⟩ | ⟨hc30, hF⟩
        ·refine JC.cond_t (b := p26) rfl hc30 ?_
         refine JC.seq (JC.region (by rfl) ?_)
         intro hQ
         refine JL.assign .none rfl (JL.done hQ (JQ.go (JC.ret (JQ.ret_then ?_))))
         obtain rfl := Option.some.inj hF
         exact JQ.outS rfl (.tmp .nil) rfl
        ·refine JC.cond_f (b := p26) rfl hc30 ?_
         refine JC.skip (JQ.go (JC.seq (JC.region (by rfl) ?_)))
         intro hQ
         refine JL.assign .none rfl (JL.done hQ (JQ.go (JC.ret ?_)))
         obtain rfl := Option.some.inj hF
         exact JQ.outS rfl (.tmp .nil) rfl
-- 105 slices.IndexFunc[[]ferrule/api.Span,ferrule/api.Span]
def F_slices_IndexFunc___api_Span_api_Span__s1 (n : Nat) (s : List Span) (f_ : Span → Option Bool) : Int → Option (Int ⊕ (Int ⊕ Unit))
 | x_55 => if decide (x_55 < (s.length : Int)) = true then ((geti s x_55).bind fun y60 => (f_ y60).bind fun y65 => if y65 = true then (some (Sum.inr (Sum.inl x_55))) else (some (Sum.inl (w64 (x_55 + 1))))) else (some (Sum.inr (Sum.inr ())))
def F_slices_IndexFunc___api_Span_api_Span_ (n : Nat) (s : List Span) (f_ : Span → Option Bool) : Option Int :=
 (loopO n (F_slices_IndexFunc___api_Span_api_Span__s1 n s f_) 0).bind fun r34 => match r34 with | .inl o => some o | .inr _ => some (-1)
theorem c_slices_IndexFunc___api_Span_api_Span_ (n : Nat) (H : Hp) (s : List Span) (s_v0 : Value) (hs_0 : SL H 2 R_Span s_v0 s) (f_ : Span → Option Bool) (f__k : Nat) (f__c : List Value) (f__e : Ent Tryz.prog f__k) (f__h : ∀ H', HSub H H' → ∀ (a0_ : Span) (y : Bool), f_ a0_ = some y → SC Tryz.prog f__k ([.agg [.int .i64 a0_.Low, .int .i64 a0_.High].toArray] ++ f__c) (.bool y) H') (y : Int) (hF : F_slices_IndexFunc___api_Span_api_Span_ n s f_ = some y) : SC Tryz.prog 105 [s_v0, .func (.func f__k) #[] f__c.toArray] (.int .i64 y) H := by
 rw [F_slices_IndexFunc___api_Span_api_Span_] at hF
 refine SC.of (N := 19) Tryz.func105 rfl rfl rfl fun w => ?_
 refine JC.seq (JC.region (by rfl) ?_)
 intro hQ
 refine JL.assign .none rfl (JL.done hQ (JQ.go (JC.seq (JC.seq (JC.region (by rfl) ?_)))))
 intro hQ
 refine JL.move .none rfl (JL.lenSL (R := R_Span) ul_27 hs_0 .none rfl ?_)
 refine JL.move .none rfl (JL.done hQ (JQ.go ?_))
 obtain ⟨r34, hlr34, hKr34⟩ := bind_some hF
 refine JC.join (fun (_ : Unit) H33 f bs gs => bs = [] ∧ gs = [] ∧ HSub H H33 ∧ Sum.inr () = r34) ?_ ?_
 ·skip
  refine JC.block (JC.loop hlr34 (fun (x_55 : Int) H56 f bs gs => f 0 = s_v0 ∧ f 1 = .func (.func f__k) #[] f__c.toArray ∧ f 7 = .int .i64 (s.length : Int) ∧ f 8 = .int .i64 x_55 ∧ bs = [] ∧ gs = [] ∧ HSub H H56) ⟨rfl, rfl, rfl, rfl, rfl, rfl, (HSub.refl _)⟩ ?_)
  rintro x_55 x58 H56 f bs gs ⟨hf0, hf1, hf7, hf8, rfl, rfl, hs56⟩ hF hr57
  rw [F_slices_IndexFunc___api_Span_api_Span__s1] at hF
  refine (JC.norm (i := 0) hf0 (JC.norm (i := 1) hf1 (JC.norm (i := 7) hf7 (JC.norm (i := 8) hf8 ?_))))
  refine JC.seq (JC.region (by rfl) ?_)
  intro hQ
  refine JL.bin rfl rfl rfl .none rfl (JL.done hQ (JQ.go (JC.seq ?_)))
  rcases ite_some hF with ⟨hc59, hF⟩ | ⟨hc59, hF⟩
  ·refine JC.cond_t (b := decide (x_55 < (s.length : Int))) rfl hc59 ?_
   refine JC.skip (JQ.go (JC.seq (JC.block (JC.seq (JC.region (by rfl) ?_)))))
   intro hQ
   refine JL.move .none rfl (JL.assign .none rfl (JL.done hQ (JQ.go (JC.seq (JC.region (by rfl) ?_)))))
   intro hQ
   refine JL.move .none rfl (JL.move .none rfl (JL.move .none rfl ?_))
   obtain ⟨y60, hy60, hF⟩ := bind_some hF
   refine JL.indexSL (R := R_Span) sl_27 (SL.mono R_Span_mono hs56 hs_0) rfl hy60 .none rfl ?_
   rintro b61 o62 cs63 hc64 - rfl
   refine JL.loadH 0 az_42 rfl hc64 rfl .none rfl ?_
   obtain ⟨y65, hy65, hF⟩ := bind_some hF
   refine JL.callV rfl (f__h H56 hs56 y60 y65 hy65) rfl f__e .none rfl ?_
   refine JL.done hQ (JQ.go ?_)
   rcases ite_some hF with ⟨hc66, hF⟩ | ⟨hc66, hF⟩
   ·refine JC.cond_t (b := y65) rfl hc66 ?_
    refine JC.seq (JC.region (by rfl) ?_)
    intro hQ
    refine JL.move .none rfl (JL.assign .none rfl (JL.done hQ (JQ.go (JC.fresh (fun f => f 4 = .int .i64 x_55) rfl ?_))))
    rintro f hf4
    refine (JC.norm (i := 4) hf4 ?_)
    refine JC.ret (JQ.ret_block (JQ.ret_then (JQ.ret_then (JQ.ret_block (JQ.ret_join (JQ.ret_then ?_))))))
    obtain rfl := Option.some.inj hF
    have ehr57 := hr57 _ rfl
    subst ehr57
    have hF := hKr34
    try dsimp only at hF
    obtain rfl := Option.some.inj hF
    exact JQ.outS rfl (.tmp .nil) rfl
   ·refine JC.cond_f (b := y65) rfl hc66 ?_
    refine JC.skip (JQ.normal_block (JQ.go (JC.region (by rfl) ?_)))
    intro hQ
    refine JL.bin rfl rfl rfl .none rfl (JL.move .none rfl (JL.done hQ ?_))
    obtain rfl := Option.some.inj hF
    exact JQ.next rfl ⟨rfl, rfl, rfl, rfl, rfl, rfl, hs56⟩
  ·refine JC.cond_f (b := decide (x_55 < (s.length : Int))) rfl hc59 ?_
   refine JC.exit (JQ.exit_then (JQ.exit_then (JQ.exit_block ?_)))
   obtain rfl := Option.some.inj hF
   have ehr57 := hr57 _ rfl
   subst ehr57
   exact JQ.join () ⟨rfl, rfl, hs56, rfl⟩
 ·rintro _ H33 f bs gs ⟨rfl, rfl, hs33, rfl⟩
  have hF := hKr34
  try dsimp only at hF
  refine JQ.go (JC.seq (JC.region (by rfl) ?_))
  intro hQ
  refine JL.assign .none rfl (JL.done hQ (JQ.go (JC.ret ?_)))
  obtain rfl := Option.some.inj hF
  exact JQ.outS rfl (.tmp .nil) rfl
-- 88 slices.ContainsFunc[[]ferrule/api.Span,ferrule/api.Span]
def F_slices_ContainsFunc___api_Span_api_Span_ (n : Nat) (s : List Span) (f_ : Span → Option Bool) : Option Bool :=
 (F_slices_IndexFunc___api_Span_api_Span_ n s f_).bind fun y1 => some (decide (0 ≤ y1))
theorem c_slices_ContainsFunc___api_Span_api_Span_ (n : Nat) (H : Hp) (s : List Span) (s_v0 : Value) (hs_0 : SL H 2 R_Span s_v0 s) (f_ : Span → Option Bool) (f__k : Nat) (f__c : List Value) (f__e : Ent Tryz.prog f__k) (f__h : ∀ H', HSub H H' → ∀ (a0_ : Span) (y : Bool), f_ a0_ = some y → SC Tryz.prog f__k ([.agg [.int .i64 a0_.Low, .int .i64 a0_.High].toArray] ++ f__c) (.bool y) H') (y : Bool) (hF : F_slices_ContainsFunc___api_Span_api_Span_ n s f_ = some y) : SC Tryz.prog 88 [s_v0, .func (.func f__k) #[] f__c.toArray] (.bool y) H := by
 rw [F_slices_ContainsFunc___api_Span_api_Span_] at hF
 refine SC.of (N := 9) Tryz.func88 rfl rfl rfl fun w => ?_
 refine JC.seq (JC.region (by rfl) ?_)
 intro hQ
 refine JL.assign .none rfl (JL.done hQ (JQ.go (JC.seq (JC.region (by rfl) ?_))))
 intro hQ
 refine JL.move .none rfl (JL.move .none rfl ?_)
 obtain ⟨y1, hy1, hF⟩ := bind_some hF
 refine JL.callS (c_slices_IndexFunc___api_Span_api_Span_ n H s s_v0 hs_0 f_ f__k f__c f__e (fun H' hs' => f__h H' hs') y1 hy1) rfl en_105 .none rfl ?_
 refine JL.bin rfl rfl rfl .none rfl (JL.assign .none rfl (JL.done hQ (JQ.go (JC.ret ?_))))
 obtain rfl := Option.some.inj hF
 exact JQ.outS rfl (.tmp .nil) rfl
-- 106 slices.IndexFunc[[]int,int]
def F_slices_IndexFunc___int_int__s1 (n : Nat) (s : List Int) (f_ : Int → Option Bool) : Int → Option (Int ⊕ (Int ⊕ Unit))
 | x_55 => if decide (x_55 < (s.length : Int)) = true then ((geti s x_55).bind fun y60 => (f_ y60).bind fun y65 => if y65 = true then (some (Sum.inr (Sum.inl x_55))) else (some (Sum.inl (w64 (x_55 + 1))))) else (some (Sum.inr (Sum.inr ())))
def F_slices_IndexFunc___int_int_ (n : Nat) (s : List Int) (f_ : Int → Option Bool) : Option Int :=
 (loopO n (F_slices_IndexFunc___int_int__s1 n s f_) 0).bind fun r34 => match r34 with | .inl o => some o | .inr _ => some (-1)
theorem c_slices_IndexFunc___int_int_ (n : Nat) (H : Hp) (s : List Int) (s_v0 : Value) (hs_0 : SL H 1 RInt s_v0 s) (f_ : Int → Option Bool) (f__k : Nat) (f__c : List Value) (f__e : Ent Tryz.prog f__k) (f__h : ∀ H', HSub H H' → ∀ (a0_ : Int) (y : Bool), f_ a0_ = some y → SC Tryz.prog f__k ([.int .i64 a0_] ++ f__c) (.bool y) H') (y : Int) (hF : F_slices_IndexFunc___int_int_ n s f_ = some y) : SC Tryz.prog 106 [s_v0, .func (.func f__k) #[] f__c.toArray] (.int .i64 y) H := by
 rw [F_slices_IndexFunc___int_int_] at hF
 refine SC.of (N := 19) Tryz.func106 rfl rfl rfl fun w => ?_
 refine JC.seq (JC.region (by rfl) ?_)
 intro hQ
 refine JL.assign .none rfl (JL.done hQ (JQ.go (JC.seq (JC.seq (JC.region (by rfl) ?_)))))
 intro hQ
 refine JL.move .none rfl (JL.lenSL (R := RInt) ul_28 hs_0 .none rfl ?_)
 refine JL.move .none rfl (JL.done hQ (JQ.go ?_))
 obtain ⟨r34, hlr34, hKr34⟩ := bind_some hF
 refine JC.join (fun (_ : Unit) H33 f bs gs => bs = [] ∧ gs = [] ∧ HSub H H33 ∧ Sum.inr () = r34) ?_ ?_
 ·skip
  refine JC.block (JC.loop hlr34 (fun (x_55 : Int) H56 f bs gs => f 0 = s_v0 ∧ f 1 = .func (.func f__k) #[] f__c.toArray ∧ f 7 = .int .i64 (s.length : Int) ∧ f 8 = .int .i64 x_55 ∧ bs = [] ∧ gs = [] ∧ HSub H H56) ⟨rfl, rfl, rfl, rfl, rfl, rfl, (HSub.refl _)⟩ ?_)
  rintro x_55 x58 H56 f bs gs ⟨hf0, hf1, hf7, hf8, rfl, rfl, hs56⟩ hF hr57
  rw [F_slices_IndexFunc___int_int__s1] at hF
  refine (JC.norm (i := 0) hf0 (JC.norm (i := 1) hf1 (JC.norm (i := 7) hf7 (JC.norm (i := 8) hf8 ?_))))
  refine JC.seq (JC.region (by rfl) ?_)
  intro hQ
  refine JL.bin rfl rfl rfl .none rfl (JL.done hQ (JQ.go (JC.seq ?_)))
  rcases ite_some hF with ⟨hc59, hF⟩ | ⟨hc59, hF⟩
  ·refine JC.cond_t (b := decide (x_55 < (s.length : Int))) rfl hc59 ?_
   refine JC.skip (JQ.go (JC.seq (JC.block (JC.seq (JC.region (by rfl) ?_)))))
   intro hQ
   refine JL.move .none rfl (JL.assign .none rfl (JL.done hQ (JQ.go (JC.seq (JC.region (by rfl) ?_)))))
   intro hQ
   refine JL.move .none rfl (JL.move .none rfl (JL.move .none rfl ?_))
   obtain ⟨y60, hy60, hF⟩ := bind_some hF
   refine JL.indexSL (R := RInt) sl_28 (SL.mono RInt.mono hs56 hs_0) rfl hy60 .none rfl ?_
   rintro b61 o62 cs63 hc64 - rfl
   refine JL.loadH 0 az_3 rfl hc64 rfl .none rfl ?_
   obtain ⟨y65, hy65, hF⟩ := bind_some hF
   refine JL.callV rfl (f__h H56 hs56 y60 y65 hy65) rfl f__e .none rfl ?_
   refine JL.done hQ (JQ.go ?_)
   rcases ite_some hF with ⟨hc66, hF⟩ | ⟨hc66, hF⟩
   ·refine JC.cond_t (b := y65) rfl hc66 ?_
    refine JC.seq (JC.region (by rfl) ?_)
    intro hQ
    refine JL.move .none rfl (JL.assign .none rfl (JL.done hQ (JQ.go (JC.fresh (fun f => f 4 = .int .i64 x_55) rfl ?_))))
    rintro f hf4
    refine (JC.norm (i := 4) hf4 ?_)
    refine JC.ret (JQ.ret_block (JQ.ret_then (JQ.ret_then (JQ.ret_block (JQ.ret_join (JQ.ret_then ?_))))))
    obtain rfl := Option.some.inj hF
    have ehr57 := hr57 _ rfl
    subst ehr57
    have hF := hKr34
    try dsimp only at hF
    obtain rfl := Option.some.inj hF
    exact JQ.outS rfl (.tmp .nil) rfl
   ·refine JC.cond_f (b := y65) rfl hc66 ?_
    refine JC.skip (JQ.normal_block (JQ.go (JC.region (by rfl) ?_)))
    intro hQ
    refine JL.bin rfl rfl rfl .none rfl (JL.move .none rfl (JL.done hQ ?_))
    obtain rfl := Option.some.inj hF
    exact JQ.next rfl ⟨rfl, rfl, rfl, rfl, rfl, rfl, hs56⟩
  ·refine JC.cond_f (b := decide (x_55 < (s.length : Int))) rfl hc59 ?_
   refine JC.exit (JQ.exit_then (JQ.exit_then (JQ.exit_block ?_)))
   obtain rfl := Option.some.inj hF
   have ehr57 := hr57 _ rfl
   subst ehr57
   exact JQ.join () ⟨rfl, rfl, hs56, rfl⟩
 ·rintro _ H33 f bs gs ⟨rfl, rfl, hs33, rfl⟩
  have hF := hKr34
  try dsimp only at hF
  refine JQ.go (JC.seq (JC.region (by rfl) ?_))
  intro hQ
  refine JL.assign .none rfl (JL.done hQ (JQ.go (JC.ret ?_)))
  obtain rfl := Option.some.inj hF
  exact JQ.outS rfl (.tmp .nil) rfl
-- 89 slices.ContainsFunc[[]int,int]
def F_slices_ContainsFunc___int_int_ (n : Nat) (s : List Int) (f_ : Int → Option Bool) : Option Bool :=
 (F_slices_IndexFunc___int_int_ n s f_).bind fun y1 => some (decide (0 ≤ y1))
theorem c_slices_ContainsFunc___int_int_ (n : Nat) (H : Hp) (s : List Int) (s_v0 : Value) (hs_0 : SL H 1 RInt s_v0 s) (f_ : Int → Option Bool) (f__k : Nat) (f__c : List Value) (f__e : Ent Tryz.prog f__k) (f__h : ∀ H', HSub H H' → ∀ (a0_ : Int) (y : Bool), f_ a0_ = some y → SC Tryz.prog f__k ([.int .i64 a0_] ++ f__c) (.bool y) H') (y : Bool) (hF : F_slices_ContainsFunc___int_int_ n s f_ = some y) : SC Tryz.prog 89 [s_v0, .func (.func f__k) #[] f__c.toArray] (.bool y) H := by
 rw [F_slices_ContainsFunc___int_int_] at hF
 refine SC.of (N := 9) Tryz.func89 rfl rfl rfl fun w => ?_
 refine JC.seq (JC.region (by rfl) ?_)
 intro hQ
 refine JL.assign .none rfl (JL.done hQ (JQ.go (JC.seq (JC.region (by rfl) ?_))))
 intro hQ
 refine JL.move .none rfl (JL.move .none rfl ?_)
 obtain ⟨y1, hy1, hF⟩ := bind_some hF
 refine JL.callS (c_slices_IndexFunc___int_int_ n H s s_v0 hs_0 f_ f__k f__c f__e (fun H' hs' => f__h H' hs') y1 hy1) rfl en_106 .none rfl ?_
 refine JL.bin rfl rfl rfl .none rfl (JL.assign .none rfl (JL.done hQ (JQ.go (JC.ret ?_))))
 obtain rfl := Option.some.inj hF
 exact JQ.outS rfl (.tmp .nil) rfl
-- 62 ferrule/gusts.Check
def F_gusts_Check (n : Nat) (d : Canopy) : Option Int :=
 (F_frames_Check n d.Frame).bind fun y2 => (if (y2 != 0) = true then (some true) else ((F_gusts_within n (d.Ribs.length : Int) 3 10).bind fun y7 => some (!y7)) : Option Bool).bind fun p4 => (if (p4 || ((d.Shares.length : Int) != (d.Ribs.length : Int))) = true then (some true) else ((F_slices_ContainsFunc___api_Span_api_Span_ n d.Ribs (fun a0_ => F_gusts_Check_1 n a0_)).bind fun y14 => some y14) : Option Bool).bind fun p11 => (if p11 = true then (some true) else ((F_slices_ContainsFunc___int_int_ n d.Shares (fun a0_ => F_gusts_Check_2 n a0_)).bind fun y19 => some y19) : Option Bool).bind fun p16 => if p16 = true then (some 50) else (some 0)
theorem c_gusts_Check (n : Nat) (H : Hp) (d : Canopy) (d_v0 : Value) (hd_0 : SL H 7 R_Section d_v0 d.Frame.Sections) (d_v7 : Value) (hd_7 : SL H 2 R_Span d_v7 d.Ribs) (d_v8 : Value) (hd_8 : SL H 1 RInt d_v8 d.Shares) (y : Int) (hF : F_gusts_Check n d = some y) : SC Tryz.prog 62 [.agg [d_v0, .int .i64 d.Frame.Low, .int .i64 d.Frame.High, .int .i64 d.Frame.Ease.Num, .int .i64 d.Frame.Ease.Den, .int .i64 d.Frame.Rod, .int .i64 d.Frame.Case, d_v7, d_v8].toArray] (.int .i64 y) H := by
 rw [F_gusts_Check] at hF
 refine SC.of (N := 37) Tryz.func62 rfl rfl rfl fun w => ?_
 refine JC.seq (JC.region (by rfl) ?_)
 intro hQ
 refine JL.box (cs := [d_v0, .int .i64 d.Frame.Low, .int .i64 d.Frame.High, .int .i64 d.Frame.Ease.Num, .int .i64 d.Frame.Ease.Den, .int .i64 d.Frame.Rod, .int .i64 d.Frame.Case, d_v7, d_v8]) rfl .none rfl ?_
 intro b1
 refine JL.assign .none rfl (JL.done hQ (JQ.go (JC.seq (JC.region (by rfl) ?_))))
 intro hQ
 refine JL.assign .none rfl (JL.done hQ (JQ.go (JC.seq (JC.region (by rfl) ?_))))
 intro hQ
 refine JL.assign .none rfl (JL.done hQ (JQ.go (JC.seq (JC.seq (JC.region (by rfl) ?_)))))
 intro hQ
 refine JL.fieldAddr fo_30_0 rfl .none rfl (JL.loadOwn 0 az_26 rfl rfl rfl .none rfl ?_)
 obtain ⟨y2, hy2, hF⟩ := bind_some hF
 refine JL.callS (c_frames_Check n H d.Frame d_v0 hd_0 y2 hy2) rfl en_87 .none rfl ?_
 refine JL.bin rfl rfl rfl .none rfl (JL.move .none rfl ?_)
 obtain ⟨p4, hp4, hF⟩ := bind_some hF
 refine JL.cut 6 (fun f => f 1 = .pointer (some ⟨b1, 0, none⟩) ∧ f 3 = .func (.func 84) #[] [].toArray ∧ f 4 = .func (.func 86) #[] [].toArray ∧ f 15 = .bool p4) ?_ ?_
 ·intro hJ5
  rcases ite_some hp4 with ⟨hc6, hF⟩ | ⟨hc6, hF⟩
  ·skip
   refine JL.skip (.bool rfl rfl rfl hc6) rfl (JL.skip (.bool rfl rfl rfl hc6) rfl (JL.skip (.bool rfl rfl rfl hc6) rfl (JL.skip (.bool rfl rfl rfl hc6) rfl (JL.skip (.bool rfl rfl rfl hc6) rfl (JL.pick_t (b := (y2 != 0)) rfl hc6 .none rfl ?_)))))
   obtain rfl := Option.some.inj hF
   exact hJ5 _ ⟨rfl, rfl, rfl, rfl⟩
  ·skip
   refine JL.fieldAddr fo_30_1 rfl (.some rfl rfl rfl hc6) rfl (JL.loadOwn 0 az_27 rfl rfl rfl (.some rfl rfl rfl hc6) rfl (JL.lenSL (R := R_Span) ul_27 hd_7 (.some rfl rfl rfl hc6) rfl ?_))
   obtain ⟨y7, hy7, hF⟩ := bind_some hF
   refine JL.callS (c_gusts_within n H (d.Ribs.length : Int) 3 10 y7 hy7) rfl en_85 (.some rfl rfl rfl hc6) rfl ?_
   refine JL.not rfl (.some rfl rfl rfl hc6) rfl (JL.pick_f (b := (y2 != 0)) rfl hc6 .none rfl ?_)
   obtain rfl := Option.some.inj hF
   exact hJ5 _ ⟨rfl, rfl, rfl, rfl⟩
 ·rintro f ⟨hf1, hf3, hf4, hf15⟩
  refine (JL.norm (i := 1) hf1 (JL.norm (i := 3) hf3 (JL.norm (i := 4) hf4 (JL.norm (i := 15) hf15 ?_))))
  refine JL.move .none rfl (JL.cut 8 (fun f => f 1 = .pointer (some ⟨b1, 0, none⟩) ∧ f 3 = .func (.func 84) #[] [].toArray ∧ f 4 = .func (.func 86) #[] [].toArray ∧ f 24 = .bool (p4 || ((d.Shares.length : Int) != (d.Ribs.length : Int)))) ?_ ?_)
  ·intro hJ8
   rcases bcases p4 with hc9 | hc9
   ·skip
    exact JL.skip (.bool rfl rfl rfl hc9) rfl (JL.skip (.bool rfl rfl rfl hc9) rfl (JL.skip (.bool rfl rfl rfl hc9) rfl (JL.skip (.bool rfl rfl rfl hc9) rfl (JL.skip (.bool rfl rfl rfl hc9) rfl (JL.skip (.bool rfl rfl rfl hc9) rfl (JL.skip (.bool rfl rfl rfl hc9) rfl (JL.pick_t (b := p4) rfl hc9 .none rfl (hJ8 _ ⟨rfl, rfl, rfl, or_t hc9 rfl⟩))))))))
   ·skip
    refine JL.fieldAddr fo_30_2 rfl (.some rfl rfl rfl hc9) rfl (JL.loadOwn 0 az_28 rfl rfl rfl (.some rfl rfl rfl hc9) rfl (JL.lenSL (R := RInt) ul_28 hd_8 (.some rfl rfl rfl hc9) rfl ?_))
    refine JL.fieldAddr fo_30_1 rfl (.some rfl rfl rfl hc9) rfl (JL.loadOwn 0 az_27 rfl rfl rfl (.some rfl rfl rfl hc9) rfl (JL.lenSL (R := R_Span) ul_27 hd_7 (.some rfl rfl rfl hc9) rfl ?_))
    exact JL.bin rfl rfl rfl (.some rfl rfl rfl hc9) rfl (JL.pick_f (b := p4) rfl hc9 .none rfl (hJ8 _ ⟨rfl, rfl, rfl, or_f hc9 rfl⟩))
  ·rintro f ⟨hf1, hf3, hf4, hf24⟩
   refine (JL.norm (i := 1) hf1 (JL.norm (i := 3) hf3 (JL.norm (i := 4) hf4 (JL.norm (i := 24) hf24 ?_))))
   refine JL.move .none rfl ?_
   obtain ⟨p11, hp11, hF⟩ := bind_some hF
   refine JL.cut 5 (fun f => f 1 = .pointer (some ⟨b1, 0, none⟩) ∧ f 4 = .func (.func 86) #[] [].toArray ∧ f 30 = .bool p11) ?_ ?_
   ·intro hJ12
    rcases ite_some hp11 with ⟨hc13, hF⟩ | ⟨hc13, hF⟩
    ·skip
     refine JL.skip (.bool rfl rfl rfl hc13) rfl (JL.skip (.bool rfl rfl rfl hc13) rfl (JL.skip (.bool rfl rfl rfl hc13) rfl (JL.skip (.bool rfl rfl rfl hc13) rfl (JL.pick_t (b := (p4 || ((d.Shares.length : Int) != (d.Ribs.length : Int)))) rfl hc13 .none rfl ?_))))
     obtain rfl := Option.some.inj hF
     exact hJ12 _ ⟨rfl, rfl, rfl⟩
    ·skip
     refine JL.fieldAddr fo_30_1 rfl (.some rfl rfl rfl hc13) rfl (JL.loadOwn 0 az_27 rfl rfl rfl (.some rfl rfl rfl hc13) rfl (JL.move (.some rfl rfl rfl hc13) rfl ?_))
     obtain ⟨y14, hy14, hF⟩ := bind_some hF
     refine JL.callS (c_slices_ContainsFunc___api_Span_api_Span_ n H d.Ribs d_v7 hd_7 (fun a0_ => F_gusts_Check_1 n a0_) 84 [] en_84 (fun H' hs' a0_ y' hy' => c_gusts_Check_1 n H' a0_ y' hy') y14 hy14) rfl en_88 (.some rfl rfl rfl hc13) rfl ?_
     refine JL.pick_f (b := (p4 || ((d.Shares.length : Int) != (d.Ribs.length : Int)))) rfl hc13 .none rfl ?_
     obtain rfl := Option.some.inj hF
     exact hJ12 _ ⟨rfl, rfl, rfl⟩
   ·rintro f ⟨hf1, hf4, hf30⟩
    refine (JL.norm (i := 1) hf1 (JL.norm (i := 4) hf4 (JL.norm (i := 30) hf30 ?_)))
    refine JL.move .none rfl ?_
    obtain ⟨p16, hp16, hF⟩ := bind_some hF
    refine JL.cut 5 (fun f => f 36 = .bool p16) ?_ ?_
    ·intro hJ17
     rcases ite_some hp16 with ⟨hc18, hF⟩ | ⟨hc18, hF⟩
     ·skip
      refine JL.skip (.bool rfl rfl rfl hc18) rfl (JL.skip (.bool rfl rfl rfl hc18) rfl (JL.skip (.bool rfl rfl rfl hc18) rfl (JL.skip (.bool rfl rfl rfl hc18) rfl (JL.pick_t (b := p11) rfl hc18 .none rfl ?_))))
      obtain rfl := Option.some.inj hF
      exact hJ17 _ (rfl)
     ·skip
      refine JL.fieldAddr fo_30_2 rfl (.some rfl rfl rfl hc18) rfl (JL.loadOwn 0 az_28 rfl rfl rfl (.some rfl rfl rfl hc18) rfl (JL.move (.some rfl rfl rfl hc18) rfl ?_))
      obtain ⟨y19, hy19, hF⟩ := bind_some hF
      refine JL.callS (c_slices_ContainsFunc___int_int_ n H d.Shares d_v8 hd_8 (fun a0_ => F_gusts_Check_2 n a0_) 86 [] en_86 (fun H' hs' a0_ y' hy' => c_gusts_Check_2 n H' a0_ y' hy') y19 hy19) rfl en_89 (.some rfl rfl rfl hc18) rfl ?_
      refine JL.pick_f (b := p11) rfl hc18 .none rfl ?_
      obtain rfl := Option.some.inj hF
      exact hJ17 _ (rfl)
    ·rintro f hf36
     refine (JL.norm (i := 36) hf36 ?_)
     refine JL.done hQ (JQ.go ?_)
     rcases ite_some hF with ⟨hc20, hF⟩ | ⟨hc20, hF⟩
     ·refine JC.cond_t (b := p16) rfl hc20 ?_
      refine JC.seq (JC.region (by rfl) ?_)
      intro hQ
      refine JL.assign .none rfl (JL.done hQ (JQ.go (JC.ret (JQ.ret_then ?_))))
      obtain rfl := Option.some.inj hF
      exact JQ.outS rfl (.tmp .nil) rfl
     ·refine JC.cond_f (b := p16) rfl hc20 ?_
      refine JC.skip (JQ.go (JC.seq (JC.region (by rfl) ?_)))
      intro hQ
      refine JL.assign .none rfl (JL.done hQ (JQ.go (JC.ret ?_)))
      obtain rfl := Option.some.inj hF
      exact JQ.outS rfl (.tmp .nil) rfl
-- 90 slices.IndexFunc[[]ferrule/api.Blow,ferrule/api.Blow]
def F_slices_IndexFunc___api_Blow_api_Blow__s1 (n : Nat) (s : List Blow) (f_ : Blow → Option Bool) : Int → Option (Int ⊕ (Int ⊕ Unit))
 | x_55 => if decide (x_55 < (s.length : Int)) = true then ((geti s x_55).bind fun y60 => (f_ y60).bind fun y65 => if y65 = true then (some (Sum.inr (Sum.inl x_55))) else (some (Sum.inl (w64 (x_55 + 1))))) else (some (Sum.inr (Sum.inr ())))
def F_slices_IndexFunc___api_Blow_api_Blow_ (n : Nat) (s : List Blow) (f_ : Blow → Option Bool) : Option Int :=
 (loopO n (F_slices_IndexFunc___api_Blow_api_Blow__s1 n s f_) 0).bind fun r34 => match r34 with | .inl o => some o | .inr _ => some (-1)
theorem c_slices_IndexFunc___api_Blow_api_Blow_ (n : Nat) (H : Hp) (s : List Blow) (s_v0 : Value) (hs_0 : SL H 3 R_Blow s_v0 s) (f_ : Blow → Option Bool) (f__k : Nat) (f__c : List Value) (f__e : Ent Tryz.prog f__k) (f__h : ∀ H', HSub H H' → ∀ (a0_ : Blow) (y : Bool), f_ a0_ = some y → SC Tryz.prog f__k ([.agg [.int .i64 a0_.At, .int .i64 a0_.Force.Low, .int .i64 a0_.Force.High].toArray] ++ f__c) (.bool y) H') (y : Int) (hF : F_slices_IndexFunc___api_Blow_api_Blow_ n s f_ = some y) : SC Tryz.prog 90 [s_v0, .func (.func f__k) #[] f__c.toArray] (.int .i64 y) H := by
 rw [F_slices_IndexFunc___api_Blow_api_Blow_] at hF
 refine SC.of (N := 19) Tryz.func90 rfl rfl rfl fun w => ?_
 refine JC.seq (JC.region (by rfl) ?_)
 intro hQ
 refine JL.assign .none rfl (JL.done hQ (JQ.go (JC.seq (JC.seq (JC.region (by rfl) ?_)))))
 intro hQ
 refine JL.move .none rfl (JL.lenSL (R := R_Blow) ul_31 hs_0 .none rfl ?_)
 refine JL.move .none rfl (JL.done hQ (JQ.go ?_))
 obtain ⟨r34, hlr34, hKr34⟩ := bind_some hF
 refine JC.join (fun (_ : Unit) H33 f bs gs => bs = [] ∧ gs = [] ∧ HSub H H33 ∧ Sum.inr () = r34) ?_ ?_
 ·skip
  refine JC.block (JC.loop hlr34 (fun (x_55 : Int) H56 f bs gs => f 0 = s_v0 ∧ f 1 = .func (.func f__k) #[] f__c.toArray ∧ f 7 = .int .i64 (s.length : Int) ∧ f 8 = .int .i64 x_55 ∧ bs = [] ∧ gs = [] ∧ HSub H H56) ⟨rfl, rfl, rfl, rfl, rfl, rfl, (HSub.refl _)⟩ ?_)
  rintro x_55 x58 H56 f bs gs ⟨hf0, hf1, hf7, hf8, rfl, rfl, hs56⟩ hF hr57
  rw [F_slices_IndexFunc___api_Blow_api_Blow__s1] at hF
  refine (JC.norm (i := 0) hf0 (JC.norm (i := 1) hf1 (JC.norm (i := 7) hf7 (JC.norm (i := 8) hf8 ?_))))
  refine JC.seq (JC.region (by rfl) ?_)
  intro hQ
  refine JL.bin rfl rfl rfl .none rfl (JL.done hQ (JQ.go (JC.seq ?_)))
  rcases ite_some hF with ⟨hc59, hF⟩ | ⟨hc59, hF⟩
  ·refine JC.cond_t (b := decide (x_55 < (s.length : Int))) rfl hc59 ?_
   refine JC.skip (JQ.go (JC.seq (JC.block (JC.seq (JC.region (by rfl) ?_)))))
   intro hQ
   refine JL.move .none rfl (JL.assign .none rfl (JL.done hQ (JQ.go (JC.seq (JC.region (by rfl) ?_)))))
   intro hQ
   refine JL.move .none rfl (JL.move .none rfl (JL.move .none rfl ?_))
   obtain ⟨y60, hy60, hF⟩ := bind_some hF
   refine JL.indexSL (R := R_Blow) sl_31 (SL.mono R_Blow_mono hs56 hs_0) rfl hy60 .none rfl ?_
   rintro b61 o62 cs63 hc64 - rfl
   refine JL.loadH 0 az_62 rfl hc64 rfl .none rfl ?_
   obtain ⟨y65, hy65, hF⟩ := bind_some hF
   refine JL.callV rfl (f__h H56 hs56 y60 y65 hy65) rfl f__e .none rfl ?_
   refine JL.done hQ (JQ.go ?_)
   rcases ite_some hF with ⟨hc66, hF⟩ | ⟨hc66, hF⟩
   ·refine JC.cond_t (b := y65) rfl hc66 ?_
    refine JC.seq (JC.region (by rfl) ?_)
    intro hQ
    refine JL.move .none rfl (JL.assign .none rfl (JL.done hQ (JQ.go (JC.fresh (fun f => f 4 = .int .i64 x_55) rfl ?_))))
    rintro f hf4
    refine (JC.norm (i := 4) hf4 ?_)
    refine JC.ret (JQ.ret_block (JQ.ret_then (JQ.ret_then (JQ.ret_block (JQ.ret_join (JQ.ret_then ?_))))))
    obtain rfl := Option.some.inj hF
    have ehr57 := hr57 _ rfl
    subst ehr57
    have hF := hKr34
    try dsimp only at hF
    obtain rfl := Option.some.inj hF
    exact JQ.outS rfl (.tmp .nil) rfl
   ·refine JC.cond_f (b := y65) rfl hc66 ?_
    refine JC.skip (JQ.normal_block (JQ.go (JC.region (by rfl) ?_)))
    intro hQ
    refine JL.bin rfl rfl rfl .none rfl (JL.move .none rfl (JL.done hQ ?_))
    obtain rfl := Option.some.inj hF
    exact JQ.next rfl ⟨rfl, rfl, rfl, rfl, rfl, rfl, hs56⟩
  ·refine JC.cond_f (b := decide (x_55 < (s.length : Int))) rfl hc59 ?_
   refine JC.exit (JQ.exit_then (JQ.exit_then (JQ.exit_block ?_)))
   obtain rfl := Option.some.inj hF
   have ehr57 := hr57 _ rfl
   subst ehr57
   exact JQ.join () ⟨rfl, rfl, hs56, rfl⟩
 ·rintro _ H33 f bs gs ⟨rfl, rfl, hs33, rfl⟩
  have hF := hKr34
  try dsimp only at hF
  refine JQ.go (JC.seq (JC.region (by rfl) ?_))
  intro hQ
  refine JL.assign .none rfl (JL.done hQ (JQ.go (JC.ret ?_)))
  obtain rfl := Option.some.inj hF
  exact JQ.outS rfl (.tmp .nil) rfl
-- 63 slices.ContainsFunc[[]ferrule/api.Blow,ferrule/api.Blow]
def F_slices_ContainsFunc___api_Blow_api_Blow_ (n : Nat) (s : List Blow) (f_ : Blow → Option Bool) : Option Bool :=
 (F_slices_IndexFunc___api_Blow_api_Blow_ n s f_).bind fun y1 => some (decide (0 ≤ y1))
theorem c_slices_ContainsFunc___api_Blow_api_Blow_ (n : Nat) (H : Hp) (s : List Blow) (s_v0 : Value) (hs_0 : SL H 3 R_Blow s_v0 s) (f_ : Blow → Option Bool) (f__k : Nat) (f__c : List Value) (f__e : Ent Tryz.prog f__k) (f__h : ∀ H', HSub H H' → ∀ (a0_ : Blow) (y : Bool), f_ a0_ = some y → SC Tryz.prog f__k ([.agg [.int .i64 a0_.At, .int .i64 a0_.Force.Low, .int .i64 a0_.Force.High].toArray] ++ f__c) (.bool y) H') (y : Bool) (hF : F_slices_ContainsFunc___api_Blow_api_Blow_ n s f_ = some y) : SC Tryz.prog 63 [s_v0, .func (.func f__k) #[] f__c.toArray] (.bool y) H := by
 rw [F_slices_ContainsFunc___api_Blow_api_Blow_] at hF
 refine SC.of (N := 9) Tryz.func63 rfl rfl rfl fun w => ?_
 refine JC.seq (JC.region (by rfl) ?_)
 intro hQ
 refine JL.assign .none rfl (JL.done hQ (JQ.go (JC.seq (JC.region (by rfl) ?_))))
 intro hQ
 refine JL.move .none rfl (JL.move .none rfl ?_)
 obtain ⟨y1, hy1, hF⟩ := bind_some hF
 refine JL.callS (c_slices_IndexFunc___api_Blow_api_Blow_ n H s s_v0 hs_0 f_ f__k f__c f__e (fun H' hs' => f__h H' hs') y1 hy1) rfl en_90 .none rfl ?_
 refine JL.bin rfl rfl rfl .none rfl (JL.assign .none rfl (JL.done hQ (JQ.go (JC.ret ?_))))
 obtain rfl := Option.some.inj hF
 exact JQ.outS rfl (.tmp .nil) rfl
-- 91 slices.IndexFunc[[]ferrule/api.Meter,ferrule/api.Meter]
def F_slices_IndexFunc___api_Meter_api_Meter__s1 (n : Nat) (s : List Meter) (f_ : Meter → Option Bool) : Int → Option (Int ⊕ (Int ⊕ Unit))
 | x_55 => if decide (x_55 < (s.length : Int)) = true then ((geti s x_55).bind fun y60 => (f_ y60).bind fun y65 => if y65 = true then (some (Sum.inr (Sum.inl x_55))) else (some (Sum.inl (w64 (x_55 + 1))))) else (some (Sum.inr (Sum.inr ())))
def F_slices_IndexFunc___api_Meter_api_Meter_ (n : Nat) (s : List Meter) (f_ : Meter → Option Bool) : Option Int :=
 (loopO n (F_slices_IndexFunc___api_Meter_api_Meter__s1 n s f_) 0).bind fun r34 => match r34 with | .inl o => some o | .inr _ => some (-1)
theorem c_slices_IndexFunc___api_Meter_api_Meter_ (n : Nat) (H : Hp) (s : List Meter) (s_v0 : Value) (hs_0 : SL H 2 R_Meter s_v0 s) (f_ : Meter → Option Bool) (f__k : Nat) (f__c : List Value) (f__e : Ent Tryz.prog f__k) (f__h : ∀ H', HSub H H' → ∀ (a0_ : Meter) (y : Bool), f_ a0_ = some y → SC Tryz.prog f__k ([.agg [.int .i64 a0_.Limit, .int .i64 a0_.Count].toArray] ++ f__c) (.bool y) H') (y : Int) (hF : F_slices_IndexFunc___api_Meter_api_Meter_ n s f_ = some y) : SC Tryz.prog 91 [s_v0, .func (.func f__k) #[] f__c.toArray] (.int .i64 y) H := by
 rw [F_slices_IndexFunc___api_Meter_api_Meter_] at hF
 refine SC.of (N := 19) Tryz.func91 rfl rfl rfl fun w => ?_
 refine JC.seq (JC.region (by rfl) ?_)
 intro hQ
 refine JL.assign .none rfl (JL.done hQ (JQ.go (JC.seq (JC.seq (JC.region (by rfl) ?_)))))
 intro hQ
 refine JL.move .none rfl (JL.lenSL (R := R_Meter) ul_32 hs_0 .none rfl ?_)
 refine JL.move .none rfl (JL.done hQ (JQ.go ?_))
 obtain ⟨r34, hlr34, hKr34⟩ := bind_some hF
 refine JC.join (fun (_ : Unit) H33 f bs gs => bs = [] ∧ gs = [] ∧ HSub H H33 ∧ Sum.inr () = r34) ?_ ?_
 ·skip
  refine JC.block (JC.loop hlr34 (fun (x_55 : Int) H56 f bs gs => f 0 = s_v0 ∧ f 1 = .func (.func f__k) #[] f__c.toArray ∧ f 7 = .int .i64 (s.length : Int) ∧ f 8 = .int .i64 x_55 ∧ bs = [] ∧ gs = [] ∧ HSub H H56) ⟨rfl, rfl, rfl, rfl, rfl, rfl, (HSub.refl _)⟩ ?_)
  rintro x_55 x58 H56 f bs gs ⟨hf0, hf1, hf7, hf8, rfl, rfl, hs56⟩ hF hr57
  rw [F_slices_IndexFunc___api_Meter_api_Meter__s1] at hF
  refine (JC.norm (i := 0) hf0 (JC.norm (i := 1) hf1 (JC.norm (i := 7) hf7 (JC.norm (i := 8) hf8 ?_))))
  refine JC.seq (JC.region (by rfl) ?_)
  intro hQ
  refine JL.bin rfl rfl rfl .none rfl (JL.done hQ (JQ.go (JC.seq ?_)))
  rcases ite_some hF with ⟨hc59, hF⟩ | ⟨hc59, hF⟩
  ·refine JC.cond_t (b := decide (x_55 < (s.length : Int))) rfl hc59 ?_
   refine JC.skip (JQ.go (JC.seq (JC.block (JC.seq (JC.region (by rfl) ?_)))))
   intro hQ
   refine JL.move .none rfl (JL.assign .none rfl (JL.done hQ (JQ.go (JC.seq (JC.region (by rfl) ?_)))))
   intro hQ
   refine JL.move .none rfl (JL.move .none rfl (JL.move .none rfl ?_))
   obtain ⟨y60, hy60, hF⟩ := bind_some hF
   refine JL.indexSL (R := R_Meter) sl_32 (SL.mono R_Meter_mono hs56 hs_0) rfl hy60 .none rfl ?_
   rintro b61 o62 cs63 hc64 - rfl
   refine JL.loadH 0 az_73 rfl hc64 rfl .none rfl ?_
   obtain ⟨y65, hy65, hF⟩ := bind_some hF
   refine JL.callV rfl (f__h H56 hs56 y60 y65 hy65) rfl f__e .none rfl ?_
   refine JL.done hQ (JQ.go ?_)
   rcases ite_some hF with ⟨hc66, hF⟩ | ⟨hc66, hF⟩
   ·refine JC.cond_t (b := y65) rfl hc66 ?_
    refine JC.seq (JC.region (by rfl) ?_)
    intro hQ
    refine JL.move .none rfl (JL.assign .none rfl (JL.done hQ (JQ.go (JC.fresh (fun f => f 4 = .int .i64 x_55) rfl ?_))))
    rintro f hf4
    refine (JC.norm (i := 4) hf4 ?_)
    refine JC.ret (JQ.ret_block (JQ.ret_then (JQ.ret_then (JQ.ret_block (JQ.ret_join (JQ.ret_then ?_))))))
    obtain rfl := Option.some.inj hF
    have ehr57 := hr57 _ rfl
    subst ehr57
    have hF := hKr34
    try dsimp only at hF
    obtain rfl := Option.some.inj hF
    exact JQ.outS rfl (.tmp .nil) rfl
   ·refine JC.cond_f (b := y65) rfl hc66 ?_
    refine JC.skip (JQ.normal_block (JQ.go (JC.region (by rfl) ?_)))
    intro hQ
    refine JL.bin rfl rfl rfl .none rfl (JL.move .none rfl (JL.done hQ ?_))
    obtain rfl := Option.some.inj hF
    exact JQ.next rfl ⟨rfl, rfl, rfl, rfl, rfl, rfl, hs56⟩
  ·refine JC.cond_f (b := decide (x_55 < (s.length : Int))) rfl hc59 ?_
   refine JC.exit (JQ.exit_then (JQ.exit_then (JQ.exit_block ?_)))
   obtain rfl := Option.some.inj hF
   have ehr57 := hr57 _ rfl
   subst ehr57
   exact JQ.join () ⟨rfl, rfl, hs56, rfl⟩
 ·rintro _ H33 f bs gs ⟨rfl, rfl, hs33, rfl⟩
  have hF := hKr34
  try dsimp only at hF
  refine JQ.go (JC.seq (JC.region (by rfl) ?_))
  intro hQ
  refine JL.assign .none rfl (JL.done hQ (JQ.go (JC.ret ?_)))
  obtain rfl := Option.some.inj hF
  exact JQ.outS rfl (.tmp .nil) rfl
-- 64 slices.ContainsFunc[[]ferrule/api.Meter,ferrule/api.Meter]
def F_slices_ContainsFunc___api_Meter_api_Meter_ (n : Nat) (s : List Meter) (f_ : Meter → Option Bool) : Option Bool :=
 (F_slices_IndexFunc___api_Meter_api_Meter_ n s f_).bind fun y1 => some (decide (0 ≤ y1))
theorem c_slices_ContainsFunc___api_Meter_api_Meter_ (n : Nat) (H : Hp) (s : List Meter) (s_v0 : Value) (hs_0 : SL H 2 R_Meter s_v0 s) (f_ : Meter → Option Bool) (f__k : Nat) (f__c : List Value) (f__e : Ent Tryz.prog f__k) (f__h : ∀ H', HSub H H' → ∀ (a0_ : Meter) (y : Bool), f_ a0_ = some y → SC Tryz.prog f__k ([.agg [.int .i64 a0_.Limit, .int .i64 a0_.Count].toArray] ++ f__c) (.bool y) H') (y : Bool) (hF : F_slices_ContainsFunc___api_Meter_api_Meter_ n s f_ = some y) : SC Tryz.prog 64 [s_v0, .func (.func f__k) #[] f__c.toArray] (.bool y) H := by
 rw [F_slices_ContainsFunc___api_Meter_api_Meter_] at hF
 refine SC.of (N := 9) Tryz.func64 rfl rfl rfl fun w => ?_
 refine JC.seq (JC.region (by rfl) ?_)
 intro hQ
 refine JL.assign .none rfl (JL.done hQ (JQ.go (JC.seq (JC.region (by rfl) ?_))))
 intro hQ
 refine JL.move .none rfl (JL.move .none rfl ?_)
 obtain ⟨y1, hy1, hF⟩ := bind_some hF
 refine JL.callS (c_slices_IndexFunc___api_Meter_api_Meter_ n H s s_v0 hs_0 f_ f__k f__c f__e (fun H' hs' => f__h H' hs') y1 hy1) rfl en_91 .none rfl ?_
 refine JL.bin rfl rfl rfl .none rfl (JL.assign .none rfl (JL.done hQ (JQ.go (JC.ret ?_))))
 obtain rfl := Option.some.inj hF
 exact JQ.outS rfl (.tmp .nil) rfl
end Go.Proofs.YtcipdblhopffbaaGreat
end
section
set_option maxRecDepth 100000
set_option maxHeartbeats 40000000
namespace Go.Proofs.YtcipdblhopffbaaGreat
open Go Go.RowKit Go.Dec
set_option linter.unusedVariables false
-- 27 ferrule/counts.Check
def F_counts_Check (n : Nat) (r : Run) : Option Int :=
 (F_gusts_Check n r.Canopy).bind fun y2 => (if (((y2 != 0) || (decide (8 < (r.Blows.length : Int)))) || (decide (5 < (r.Meters.length : Int)))) = true then (some true) else ((F_slices_ContainsFunc___api_Blow_api_Blow_ n r.Blows (fun a0_ => F_counts_Check_1 n a0_ r)).bind fun y16 => some y16) : Option Bool).bind fun p13 => (if p13 = true then (some true) else ((F_slices_ContainsFunc___api_Meter_api_Meter_ n r.Meters (fun a0_ => F_counts_Check_2 n a0_)).bind fun y21 => some y21) : Option Bool).bind fun p18 => (if p18 = true then (some true) else ((F_counts_within n r.Wrong 0 5).bind fun y26 => some (!y26)) : Option Bool).bind fun p23 => if p23 = true then (some 130) else (some 0)
theorem c_counts_Check (n : Nat) (H : Hp) (r : Run) (r_v0 : Value) (hr_0 : SL H 7 R_Section r_v0 r.Canopy.Frame.Sections) (r_v7 : Value) (hr_7 : SL H 2 R_Span r_v7 r.Canopy.Ribs) (r_v8 : Value) (hr_8 : SL H 1 RInt r_v8 r.Canopy.Shares) (r_v9 : Value) (hr_9 : SL H 3 R_Blow r_v9 r.Blows) (r_v10 : Value) (hr_10 : SL H 2 R_Meter r_v10 r.Meters) (y : Int) (hF : F_counts_Check n r = some y) : SC Tryz.prog 27 [.agg [r_v0, .int .i64 r.Canopy.Frame.Low, .int .i64 r.Canopy.Frame.High, .int .i64 r.Canopy.Frame.Ease.Num, .int .i64 r.Canopy.Frame.Ease.Den, .int .i64 r.Canopy.Frame.Rod, .int .i64 r.Canopy.Frame.Case, r_v7, r_v8, r_v9, r_v10, .int .i64 r.Wrong].toArray] (.int .i64 y) H := by
 rw [F_counts_Check] at hF
 refine SC.of (N := 40) Tryz.func27 rfl rfl rfl fun w => ?_
 refine JC.seq (JC.region (by rfl) ?_)
 intro hQ
 refine JL.box (cs := [r_v0, .int .i64 r.Canopy.Frame.Low, .int .i64 r.Canopy.Frame.High, .int .i64 r.Canopy.Frame.Ease.Num, .int .i64 r.Canopy.Frame.Ease.Den, .int .i64 r.Canopy.Frame.Rod, .int .i64 r.Canopy.Frame.Case, r_v7, r_v8, r_v9, r_v10, .int .i64 r.Wrong]) rfl .none rfl ?_
 intro b1
 refine JL.assign .none rfl (JL.done hQ (JQ.go (JC.seq (JC.region (by rfl) ?_))))
 intro hQ
 refine JL.makeFunc .none rfl ?_
 refine JL.assign .none rfl (JL.done hQ (JQ.go (JC.seq (JC.region (by rfl) ?_))))
 intro hQ
 refine JL.assign .none rfl (JL.done hQ (JQ.go (JC.seq (JC.seq (JC.region (by rfl) ?_)))))
 intro hQ
 refine JL.fieldAddr fo_34_0 rfl .none rfl (JL.loadOwn 0 az_30 rfl rfl rfl .none rfl ?_)
 obtain ⟨y2, hy2, hF⟩ := bind_some hF
 refine JL.callS (c_gusts_Check n H r.Canopy r_v0 hr_0 r_v7 hr_7 r_v8 hr_8 y2 hy2) rfl en_62 .none rfl ?_
 refine JL.bin rfl rfl rfl .none rfl (JL.move .none rfl (JL.cut 5 (fun f => f 1 = .pointer (some ⟨b1, 0, none⟩) ∧ f 3 = .func (.func 60) #[] [.pointer (some ⟨b1, 0, none⟩)].toArray ∧ f 4 = .func (.func 61) #[] [].toArray ∧ f 15 = .bool ((y2 != 0) || (decide (8 < (r.Blows.length : Int))))) ?_ ?_))
 ·intro hJ3
  rcases bcases (y2 != 0) with hc4 | hc4
  ·skip
   exact JL.skip (.bool rfl rfl rfl hc4) rfl (JL.skip (.bool rfl rfl rfl hc4) rfl (JL.skip (.bool rfl rfl rfl hc4) rfl (JL.skip (.bool rfl rfl rfl hc4) rfl (JL.pick_t (b := (y2 != 0)) rfl hc4 .none rfl (hJ3 _ ⟨rfl, rfl, rfl, or_t hc4 rfl⟩)))))
  ·skip
   refine JL.fieldAddr fo_34_1 rfl (.some rfl rfl rfl hc4) rfl (JL.loadOwn 0 az_31 rfl rfl rfl (.some rfl rfl rfl hc4) rfl (JL.lenSL (R := R_Blow) ul_31 hr_9 (.some rfl rfl rfl hc4) rfl ?_))
   exact JL.bin rfl rfl rfl (.some rfl rfl rfl hc4) rfl (JL.pick_f (b := (y2 != 0)) rfl hc4 .none rfl (hJ3 _ ⟨rfl, rfl, rfl, or_f hc4 rfl⟩))
 ·rintro f ⟨hf1, hf3, hf4, hf15⟩
  refine (JL.norm (i := 1) hf1 (JL.norm (i := 3) hf3 (JL.norm (i := 4) hf4 (JL.norm (i := 15) hf15 ?_))))
  refine JL.move .none rfl (JL.cut 5 (fun f => f 1 = .pointer (some ⟨b1, 0, none⟩) ∧ f 3 = .func (.func 60) #[] [.pointer (some ⟨b1, 0, none⟩)].toArray ∧ f 4 = .func (.func 61) #[] [].toArray ∧ f 21 = .bool (((y2 != 0) || (decide (8 < (r.Blows.length : Int)))) || (decide (5 < (r.Meters.length : Int))))) ?_ ?_)
  ·intro hJ5
   rcases bcases ((y2 != 0) || (decide (8 < (r.Blows.length : Int)))) with hc6 | hc6
   ·skip
    exact JL.skip (.bool rfl rfl rfl hc6) rfl (JL.skip (.bool rfl rfl rfl hc6) rfl (JL.skip (.bool rfl rfl rfl hc6) rfl (JL.skip (.bool rfl rfl rfl hc6) rfl (JL.pick_t (b := ((y2 != 0) || (decide (8 < (r.Blows.length : Int))))) rfl hc6 .none rfl (hJ5 _ ⟨rfl, rfl, rfl, or_t hc6 rfl⟩)))))
   ·skip
    refine JL.fieldAddr fo_34_2 rfl (.some rfl rfl rfl hc6) rfl (JL.loadOwn 0 az_32 rfl rfl rfl (.some rfl rfl rfl hc6) rfl (JL.lenSL (R := R_Meter) ul_32 hr_10 (.some rfl rfl rfl hc6) rfl ?_))
    exact JL.bin rfl rfl rfl (.some rfl rfl rfl hc6) rfl (JL.pick_f (b := ((y2 != 0) || (decide (8 < (r.Blows.length : Int))))) rfl hc6 .none rfl (hJ5 _ ⟨rfl, rfl, rfl, or_f hc6 rfl⟩))
  ·rintro f ⟨hf1, hf3, hf4, hf21⟩
   refine (JL.norm (i := 1) hf1 (JL.norm (i := 3) hf3 (JL.norm (i := 4) hf4 (JL.norm (i := 21) hf21 ?_))))
   refine JL.move .none rfl (JL.freezeC 0 (l := [r_v0, .int .i64 r.Canopy.Frame.Low, .int .i64 r.Canopy.Frame.High, .int .i64 r.Canopy.Frame.Ease.Num, .int .i64 r.Canopy.Frame.Ease.Den, .int .i64 r.Canopy.Frame.Rod, .int .i64 r.Canopy.Frame.Case, r_v7, r_v8, r_v9, r_v10, .int .i64 r.Wrong]) rfl ?_)
   intro H10 hs10 hc11
   obtain ⟨p13, hp13, hF⟩ := bind_some hF
   refine JL.cut 5 (fun f => f 1 = .pointer (some ⟨b1, 0, none⟩) ∧ f 4 = .func (.func 61) #[] [].toArray ∧ f 27 = .bool p13) ?_ ?_
   ·intro hJ14
    rcases ite_some hp13 with ⟨hc15, hF⟩ | ⟨hc15, hF⟩
    ·skip
     refine JL.skip (.bool rfl rfl rfl hc15) rfl (JL.skip (.bool rfl rfl rfl hc15) rfl (JL.skip (.bool rfl rfl rfl hc15) rfl (JL.skip (.bool rfl rfl rfl hc15) rfl (JL.pick_t (b := (((y2 != 0) || (decide (8 < (r.Blows.length : Int)))) || (decide (5 < (r.Meters.length : Int))))) rfl hc15 .none rfl ?_))))
     obtain rfl := Option.some.inj hF
     exact hJ14 _ ⟨rfl, rfl, rfl⟩
    ·skip
     refine JL.fieldAddr fo_34_1 rfl (.some rfl rfl rfl hc15) rfl (JL.loadH 9 az_31 rfl hc11 rfl (.some rfl rfl rfl hc15) rfl ?_)
     refine JL.move (.some rfl rfl rfl hc15) rfl ?_
     obtain ⟨y16, hy16, hF⟩ := bind_some hF
     refine JL.callS (c_slices_ContainsFunc___api_Blow_api_Blow_ n H10 r.Blows r_v9 (SL.mono R_Blow_mono hs10 hr_9) (fun a0_ => F_counts_Check_1 n a0_ r) 60 [.pointer (some ⟨b1, 0, none⟩)] en_60 (fun H' hs' a0_ y' hy' => c_counts_Check_1 n H' a0_ r r_v0 (SL.mono R_Section_mono hs' (SL.mono R_Section_mono hs10 hr_0)) r_v7 (SL.mono R_Span_mono hs' (SL.mono R_Span_mono hs10 hr_7)) r_v8 (SL.mono RInt.mono hs' (SL.mono RInt.mono hs10 hr_8)) r_v9 (SL.mono R_Blow_mono hs' (SL.mono R_Blow_mono hs10 hr_9)) r_v10 (SL.mono R_Meter_mono hs' (SL.mono R_Meter_mono hs10 hr_10)) b1 (Cells.mono hs' hc11) y' hy') y16 hy16) rfl en_63 (.some rfl rfl rfl hc15) rfl ?_
     refine JL.pick_f (b := (((y2 != 0) || (decide (8 < (r.Blows.length : Int)))) || (decide (5 < (r.Meters.length : Int))))) rfl hc15 .none rfl ?_
     obtain rfl := Option.some.inj hF
     exact hJ14 _ ⟨rfl, rfl, rfl⟩
   ·rintro f ⟨hf1, hf4, hf27⟩
    refine (JL.norm (i := 1) hf1 (JL.norm (i := 4) hf4 (JL.norm (i := 27) hf27 ?_)))
    refine JL.move .none rfl ?_
    obtain ⟨p18, hp18, hF⟩ := bind_some hF
    refine JL.cut 5 (fun f => f 1 = .pointer (some ⟨b1, 0, none⟩) ∧ f 33 = .bool p18) ?_ ?_
    ·intro hJ19
     rcases ite_some hp18 with ⟨hc20, hF⟩ | ⟨hc20, hF⟩
     ·skip
      refine JL.skip (.bool rfl rfl rfl hc20) rfl (JL.skip (.bool rfl rfl rfl hc20) rfl (JL.skip (.bool rfl rfl rfl hc20) rfl (JL.skip (.bool rfl rfl rfl hc20) rfl (JL.pick_t (b := p13) rfl hc20 .none rfl ?_))))
      obtain rfl := Option.some.inj hF
      exact hJ19 _ ⟨rfl, rfl⟩
     ·skip
      refine JL.fieldAddr fo_34_2 rfl (.some rfl rfl rfl hc20) rfl (JL.loadH 10 az_32 rfl hc11 rfl (.some rfl rfl rfl hc20) rfl ?_)
      refine JL.move (.some rfl rfl rfl hc20) rfl ?_
      obtain ⟨y21, hy21, hF⟩ := bind_some hF
      refine JL.callS (c_slices_ContainsFunc___api_Meter_api_Meter_ n H10 r.Meters r_v10 (SL.mono R_Meter_mono hs10 hr_10) (fun a0_ => F_counts_Check_2 n a0_) 61 [] en_61 (fun H' hs' a0_ y' hy' => c_counts_Check_2 n H' a0_ y' hy') y21 hy21) rfl en_64 (.some rfl rfl rfl hc20) rfl ?_
      refine JL.pick_f (b := p13) rfl hc20 .none rfl ?_
      obtain rfl := Option.some.inj hF
      exact hJ19 _ ⟨rfl, rfl⟩
    ·rintro f ⟨hf1, hf33⟩
     refine (JL.norm (i := 1) hf1 (JL.norm (i := 33) hf33 ?_))
     refine JL.move .none rfl ?_
     obtain ⟨p23, hp23, hF⟩ := bind_some hF
     refine JL.cut 5 (fun f => f 39 = .bool p23) ?_ ?_
     ·intro hJ24
      rcases ite_some hp23 with ⟨hc25, hF⟩ | ⟨hc25, hF⟩
      ·skip
       refine JL.skip (.bool rfl rfl rfl hc25) rfl (JL.skip (.bool rfl rfl rfl hc25) rfl (JL.skip (.bool rfl rfl rfl hc25) rfl (JL.skip (.bool rfl rfl rfl hc25) rfl (JL.pick_t (b := p18) rfl hc25 .none rfl ?_))))
       obtain rfl := Option.some.inj hF
       exact hJ24 _ (rfl)
      ·skip
       refine JL.fieldAddr fo_34_3 rfl (.some rfl rfl rfl hc25) rfl (JL.loadH 11 az_3 rfl hc11 rfl (.some rfl rfl rfl hc25) rfl ?_)
       obtain ⟨y26, hy26, hF⟩ := bind_some hF
       refine JL.callS (c_counts_within n H10 r.Wrong 0 5 y26 hy26) rfl en_54 (.some rfl rfl rfl hc25) rfl ?_
       refine JL.not rfl (.some rfl rfl rfl hc25) rfl (JL.pick_f (b := p18) rfl hc25 .none rfl ?_)
       obtain rfl := Option.some.inj hF
       exact hJ24 _ (rfl)
     ·rintro f hf39
      refine (JL.norm (i := 39) hf39 ?_)
      refine JL.done hQ (JQ.go ?_)
      rcases ite_some hF with ⟨hc27, hF⟩ | ⟨hc27, hF⟩
      ·refine JC.cond_t (b := p23) rfl hc27 ?_
       refine JC.seq (JC.region (by rfl) ?_)
       intro hQ
       refine JL.assign .none rfl (JL.done hQ (JQ.go (JC.ret (JQ.ret_then ?_))))
       obtain rfl := Option.some.inj hF
       exact JQ.outS rfl (.tmp .nil) rfl
      ·refine JC.cond_f (b := p23) rfl hc27 ?_
       refine JC.skip (JQ.go (JC.seq (JC.region (by rfl) ?_)))
       intro hQ
       refine JL.assign .none rfl (JL.done hQ (JQ.go (JC.ret ?_)))
       obtain rfl := Option.some.inj hF
       exact JQ.outS rfl (.tmp .nil) rfl
-- 93 (*ferrule/counts.test).add
def F_counts_test_add_s1 (n : Nat) (t : counts_test) (force : Int) : Int × List Int → Option ((Int × List Int) ⊕ (List Int))
 | (x_104, z_105) => if decide (x_104 < (t.Run.Meters.length : Int)) = true then ((geti t.Run.Meters x_104).bind fun y110 => (if decide (y110.Limit ≤ force) = true then ((geti z_105 x_104).bind fun y123 => (geti z_105 x_104).bind fun y124 => some (setx z_105 x_104 (w64 (y123 + 1)))) else (some z_105)).bind fun z_119 => some (Sum.inl ((w64 (x_104 + 1)), z_119))) else (some (Sum.inr z_105))
def F_counts_test_add (n : Nat) (t : counts_test) (x_ : List Int) (b : Blow) (force : Int) : Option (List Int) :=
 (loopO n (F_counts_test_add_s1 n t force) (0, x_)).bind fun z_63 => (t.asked b force).bind fun y131 => (if y131 = true then ((geti z_63 5).bind fun y144 => (geti z_63 5).bind fun y145 => some (setx z_63 5 (w64 (y144 + 1)))) else (some z_63)).bind fun z_140 => some z_140
theorem c_counts_test_add (n : Nat) (H : Hp) (t : counts_test) (t_v0 : Value) (ht_0 : SL H 7 R_Section t_v0 t.Run.Canopy.Frame.Sections) (t_v7 : Value) (ht_7 : SL H 2 R_Span t_v7 t.Run.Canopy.Ribs) (t_v8 : Value) (ht_8 : SL H 1 RInt t_v8 t.Run.Canopy.Shares) (t_v9 : Value) (ht_9 : SL H 3 R_Blow t_v9 t.Run.Blows) (t_v10 : Value) (ht_10 : SL H 2 R_Meter t_v10 t.Run.Meters) (t_v12 : Value) (ht_12 : FN_82 H t_v12 t.asked) (t_b t_o : Nat) (t_c : Cells H t_b t_o [t_v0, .int .i64 t.Run.Canopy.Frame.Low, .int .i64 t.Run.Canopy.Frame.High, .int .i64 t.Run.Canopy.Frame.Ease.Num, .int .i64 t.Run.Canopy.Frame.Ease.Den, .int .i64 t.Run.Canopy.Frame.Rod, .int .i64 t.Run.Canopy.Frame.Case, t_v7, t_v8, t_v9, t_v10, .int .i64 t.Run.Wrong, t_v12]) (x_ : List Int) (x__l : x_.length = 6) (b : Blow) (force : Int) (y : (List Int)) (hF : F_counts_test_add n t x_ b force = some y) : SC Tryz.prog 93 [.pointer (some ⟨t_b, t_o, none⟩), .agg (av .i64 x_).toArray, .agg [.int .i64 b.At, .int .i64 b.Force.Low, .int .i64 b.Force.High].toArray, .int .i64 force] (.agg (av .i64 y).toArray) H := by
 rw [F_counts_test_add] at hF
 refine SC.of (N := 44) Tryz.func93 rfl rfl rfl fun w => ?_
 refine JC.seq (JC.region (by rfl) ?_)
 intro hQ
 refine JL.box (cs := av .i64 x_) rfl .none rfl ?_
 intro b1
 refine JL.box (cs := [.int .i64 b.At, .int .i64 b.Force.Low, .int .i64 b.Force.High]) rfl .none rfl ?_
 intro b2
 refine JL.alloc ze_104 .none rfl ?_
 intro b3
 refine JL.done hQ (JQ.go (JC.seq (JC.seq (JC.region (by rfl) ?_))))
 intro hQ
 refine JL.move .none rfl (JL.nilCheck rfl .none rfl ?_)
 refine JL.fieldAddr fo_113_0 rfl .none rfl (JL.fieldAddr fo_34_2 rfl .none rfl (JL.loadH 10 az_32 rfl t_c rfl .none rfl ?_))
 refine JL.lenSL (R := R_Meter) ul_32 ht_10 .none rfl ?_
 refine JL.move .none rfl (JL.done hQ (JQ.go ?_))
 obtain ⟨r65, hlr65, hKr65⟩ := bind_some hF
 refine JC.join (fun (z_63 : List Int) H64 f bs gs => f 0 = .pointer (some ⟨t_b, t_o, none⟩) ∧ f 3 = .int .i64 force ∧ f 5 = .pointer (some ⟨b1, 0, none⟩) ∧ f 6 = .pointer (some ⟨b2, 0, none⟩) ∧ f 8 = .pointer (some ⟨b3, 0, none⟩) ∧ bs = [(b3, .cells (av .i64 [0, 0, 0, 0, 0, 0]).toArray 104), (b2, .cells [.int .i64 b.At, .int .i64 b.Force.Low, .int .i64 b.Force.High].toArray 62), (b1, .cells (av .i64 z_63).toArray 104)] ∧ gs = [] ∧ z_63.length = 6 ∧ HSub H H64 ∧ z_63 = r65) ?_ ?_
 ·skip
  refine JC.block (JC.loop hlr65 (fun (x : Int × List Int) H106 f bs gs => match x with | (x_104, z_105) => f 0 = .pointer (some ⟨t_b, t_o, none⟩) ∧ f 3 = .int .i64 force ∧ f 5 = .pointer (some ⟨b1, 0, none⟩) ∧ f 6 = .pointer (some ⟨b2, 0, none⟩) ∧ f 8 = .pointer (some ⟨b3, 0, none⟩) ∧ f 15 = t_v10 ∧ f 16 = .int .i64 (t.Run.Meters.length : Int) ∧ f 17 = .int .i64 x_104 ∧ bs = [(b3, .cells (av .i64 [0, 0, 0, 0, 0, 0]).toArray 104), (b2, .cells [.int .i64 b.At, .int .i64 b.Force.Low, .int .i64 b.Force.High].toArray 62), (b1, .cells (av .i64 z_105).toArray 104)] ∧ gs = [] ∧ z_105.length = 6 ∧ HSub H H106) ⟨rfl, rfl, rfl, rfl, rfl, rfl, rfl, rfl, rfl, rfl, x__l, (HSub.refl _)⟩ ?_)
  rintro ⟨x_104, z_105⟩ x108 H106 f bs gs ⟨hf0, hf3, hf5, hf6, hf8, hf15, hf16, hf17, rfl, rfl, hz_105, hs106⟩ hF hr107
  rw [F_counts_test_add_s1] at hF
  refine (JC.norm (i := 0) hf0 (JC.norm (i := 3) hf3 (JC.norm (i := 5) hf5 (JC.norm (i := 6) hf6 (JC.norm (i := 8) hf8 (JC.norm (i := 15) hf15 (JC.norm (i := 16) hf16 (JC.norm (i := 17) hf17 ?_))))))))
  refine JC.seq (JC.region (by rfl) ?_)
  intro hQ
  refine JL.bin rfl rfl rfl .none rfl (JL.done hQ (JQ.go (JC.seq ?_)))
  rcases ite_some hF with ⟨hc109, hF⟩ | ⟨hc109, hF⟩
  ·refine JC.cond_t (b := decide (x_104 < (t.Run.Meters.length : Int))) rfl hc109 ?_
   refine JC.skip (JQ.go (JC.seq (JC.block (JC.seq (JC.region (by rfl) ?_)))))
   intro hQ
   refine JL.move .none rfl ?_
   obtain ⟨y110, hy110, hF⟩ := bind_some hF
   refine JL.indexSL (R := R_Meter) sl_32 (SL.mono R_Meter_mono hs106 ht_10) rfl hy110 .none rfl ?_
   rintro b111 o112 cs113 hc114 - rfl
   refine JL.loadH 0 az_73 rfl hc114 rfl .none rfl ?_
   refine JL.alloc ze_73 .none rfl ?_
   intro b115
   refine JL.assign .none rfl (JL.storeOwn 0 (cs := [.int .i64 y110.Limit, .int .i64 y110.Count]) az_73 rfl rfl rfl (one_cons rfl (one_cons rfl one_nil)) rfl rfl .none ?_)
   refine JL.done hQ (JQ.go (JC.seq (JC.region (by rfl) ?_)))
   intro hQ
   refine JL.move .none rfl (JL.fieldAddr fo_73_0 rfl .none rfl (JL.loadOwn 0 az_3 rfl rfl rfl .none rfl (JL.bin rfl rfl rfl .none rfl (JL.done hQ (JQ.go (JC.fresh (fun f => f 0 = .pointer (some ⟨t_b, t_o, none⟩) ∧ f 3 = .int .i64 force ∧ f 5 = .pointer (some ⟨b1, 0, none⟩) ∧ f 6 = .pointer (some ⟨b2, 0, none⟩) ∧ f 8 = .pointer (some ⟨b3, 0, none⟩) ∧ f 9 = .int .i64 x_104 ∧ f 15 = t_v10 ∧ f 16 = .int .i64 (t.Run.Meters.length : Int) ∧ f 17 = .int .i64 x_104 ∧ f 25 = .bool (decide (y110.Limit ≤ force))) ⟨rfl, rfl, rfl, rfl, rfl, rfl, rfl, rfl, rfl, rfl⟩ ?_))))))
   rintro f ⟨hf0, hf3, hf5, hf6, hf8, hf9, hf15, hf16, hf17, hf25⟩
   refine (JC.norm (i := 0) hf0 (JC.norm (i := 3) hf3 (JC.norm (i := 5) hf5 (JC.norm (i := 6) hf6 (JC.norm (i := 8) hf8 (JC.norm (i := 9) hf9 (JC.norm (i := 15) hf15 (JC.norm (i := 16) hf16 (JC.norm (i := 17) hf17 (JC.norm (i := 25) hf25 ?_))))))))))
   obtain ⟨r121, hlr121, hKr121⟩ := bind_some hF
   refine JC.join (fun (z_119 : List Int) H120 f bs gs => f 0 = .pointer (some ⟨t_b, t_o, none⟩) ∧ f 3 = .int .i64 force ∧ f 5 = .pointer (some ⟨b1, 0, none⟩) ∧ f 6 = .pointer (some ⟨b2, 0, none⟩) ∧ f 8 = .pointer (some ⟨b3, 0, none⟩) ∧ f 15 = t_v10 ∧ f 16 = .int .i64 (t.Run.Meters.length : Int) ∧ f 17 = .int .i64 x_104 ∧ bs = [(b3, .cells (av .i64 [0, 0, 0, 0, 0, 0]).toArray 104), (b2, .cells [.int .i64 b.At, .int .i64 b.Force.Low, .int .i64 b.Force.High].toArray 62), (b1, .cells (av .i64 z_119).toArray 104)] ∧ gs = [] ∧ z_119.length = 6 ∧ HSub H106 H120 ∧ z_119 = r121) ?_ ?_
   ·have hF := hlr121
    rcases ite_some hF with ⟨hc122, hF⟩ | ⟨hc122, hF⟩
    ·refine JC.cond_t (b := decide (y110.Limit ≤ force)) rfl hc122 ?_
     refine JC.region (by rfl) ?_
     intro hQ
     refine JL.move .none rfl ?_
     obtain ⟨y123, hy123, hF⟩ := bind_some hF
     refine JL.indexArrP (l := z_105) ar_104 az_3 rfl rfl hz_105 hy123 .none rfl ?_
     refine JL.loadEl (j := x_104) 3 az_3 rfl rfl hy123 .none rfl ?_
     refine JL.bin rfl rfl rfl .none rfl ?_
     obtain ⟨y124, hy124, hF⟩ := bind_some hF
     refine JL.indexArrP (l := z_105) ar_104 az_3 rfl rfl hz_105 hy124 .none rfl ?_
     refine JL.storeEl (j := x_104) 3 az_3 rfl rfl rfl hy124 .none ?_
     refine JL.done hQ ?_
     obtain rfl := Option.some.inj hF
     refine JQ.mask [false, true, true, true] [] ?_
     exact JQ.join (setx z_105 x_104 (w64 (y123 + 1))) ⟨rfl, rfl, rfl, rfl, rfl, rfl, rfl, rfl, rfl, rfl, (setx_length hz_105), (HSub.refl _), rfl⟩
    ·refine JC.cond_f (b := decide (y110.Limit ≤ force)) rfl hc122 ?_
     refine JC.skip ?_
     obtain rfl := Option.some.inj hF
     refine JQ.mask [false, true, true, true] [] ?_
     exact JQ.join z_105 ⟨rfl, rfl, rfl, rfl, rfl, rfl, rfl, rfl, rfl, rfl, hz_105, (HSub.refl _), rfl⟩
   ·rintro z_119 H120 f bs gs ⟨hf0, hf3, hf5, hf6, hf8, hf15, hf16, hf17, rfl, rfl, hz_119, hs120, rfl⟩
    have hF := hKr121
    try dsimp only at hF
    refine (JQ.norm (i := 0) hf0 (JQ.norm (i := 3) hf3 (JQ.norm (i := 5) hf5 (JQ.norm (i := 6) hf6 (JQ.norm (i := 8) hf8 (JQ.norm (i := 15) hf15 (JQ.norm (i := 16) hf16 (JQ.norm (i := 17) hf17 ?_))))))))
    refine JQ.normal_block (JQ.go (JC.region (by rfl) ?_))
    intro hQ
    refine JL.bin rfl rfl rfl .none rfl (JL.move .none rfl (JL.done hQ ?_))
    obtain rfl := Option.some.inj hF
    exact JQ.next rfl ⟨rfl, rfl, rfl, rfl, rfl, rfl, rfl, rfl, rfl, rfl, hz_119, (HSub.trans hs106 hs120)⟩
  ·refine JC.cond_f (b := decide (x_104 < (t.Run.Meters.length : Int))) rfl hc109 ?_
   refine JC.exit (JQ.exit_then (JQ.exit_then (JQ.exit_block ?_)))
   obtain rfl := Option.some.inj hF
   have ehr107 := hr107 _ rfl
   subst ehr107
   exact JQ.join z_105 ⟨rfl, rfl, rfl, rfl, rfl, rfl, rfl, hz_105, hs106, rfl⟩
 ·rintro z_63 H64 f bs gs ⟨hf0, hf3, hf5, hf6, hf8, rfl, rfl, hz_63, hs64, rfl⟩
  have hF := hKr65
  try dsimp only at hF
  refine (JQ.norm (i := 0) hf0 (JQ.norm (i := 3) hf3 (JQ.norm (i := 5) hf5 (JQ.norm (i := 6) hf6 (JQ.norm (i := 8) hf8 ?_)))))
  refine JQ.go (JC.seq (JC.seq (JC.draw (by rfl) mo_ (by kernel_rfl) ?_)))
  intro hQ
  refine JL.move .none rfl (JL.nilCheck rfl .none rfl ?_)
  refine JL.fieldAddr fo_113_1 rfl .none rfl (JL.loadH 12 az_82 rfl (Cells.mono hs64 t_c) rfl .none rfl ?_)
  refine JL.loadOwn 1 az_62 rfl rfl rfl .none rfl (JL.move .none rfl ?_)
  obtain ⟨y131, hy131, hF⟩ := bind_some hF
  obtain ⟨fk132, fc133, hv134, fe135, fh136⟩ := (FN_82.mono hs64 ht_12)
  refine JL.callV hv134 (fh136 H64 (HSub.refl _) b force y131 hy131) rfl fe135 .none rfl ?_
  refine JL.doneQ hQ ?_
  refine JQ.go ?_
  obtain ⟨r142, hlr142, hKr142⟩ := bind_some hF
  refine JC.join (fun (z_140 : List Int) H141 f bs gs => f 5 = .pointer (some ⟨b1, 0, none⟩) ∧ f 8 = .pointer (some ⟨b3, 0, none⟩) ∧ bs = [(b3, .cells (av .i64 [0, 0, 0, 0, 0, 0]).toArray 104), (b1, .cells (av .i64 z_140).toArray 104)] ∧ gs = [] ∧ z_140.length = 6 ∧ HSub H64 H141 ∧ z_140 = r142) ?_ ?_
  ·have hF := hlr142
   rcases ite_some hF with ⟨hc143, hF⟩ | ⟨hc143, hF⟩
   ·refine JC.cond_t (b := y131) rfl hc143 ?_
    refine JC.region (by rfl) ?_
    intro hQ
    obtain ⟨y144, hy144, hF⟩ := bind_some hF
    refine JL.indexArrP (l := z_63) ar_104 az_3 rfl rfl hz_63 hy144 .none rfl ?_
    refine JL.loadEl (j := 5) 2 az_3 rfl rfl hy144 .none rfl ?_
    refine JL.bin rfl rfl rfl .none rfl ?_
    obtain ⟨y145, hy145, hF⟩ := bind_some hF
    refine JL.indexArrP (l := z_63) ar_104 az_3 rfl rfl hz_63 hy145 .none rfl ?_
    refine JL.storeEl (j := 5) 2 az_3 rfl rfl rfl hy145 .none ?_
    refine JL.done hQ ?_
    obtain rfl := Option.some.inj hF
    refine JQ.mask [true, false, true] [] ?_
    exact JQ.join (setx z_63 5 (w64 (y144 + 1))) ⟨rfl, rfl, rfl, rfl, (setx_length hz_63), (HSub.refl _), rfl⟩
   ·refine JC.cond_f (b := y131) rfl hc143 ?_
    refine JC.skip ?_
    obtain rfl := Option.some.inj hF
    refine JQ.mask [true, false, true] [] ?_
    exact JQ.join z_63 ⟨rfl, rfl, rfl, rfl, hz_63, (HSub.refl _), rfl⟩
  ·rintro z_140 H141 f bs gs ⟨hf5, hf8, rfl, rfl, hz_140, hs141, rfl⟩
   have hF := hKr142
   try dsimp only at hF
   refine (JQ.norm (i := 5) hf5 (JQ.norm (i := 8) hf8 ?_))
   refine JQ.go (JC.seq (JC.region (by rfl) ?_))
   intro hQ
   refine JL.loadArr (l := z_140) 1 az_104 rfl rfl hz_140 .none rfl ?_
   refine JL.storeArr (l := [0, 0, 0, 0, 0, 0]) (l' := z_140) 0 az_104 rfl rfl rfl rfl hz_140 .none ?_
   refine JL.done hQ (JQ.go (JC.ret ?_))
   obtain rfl := Option.some.inj hF
   exact JQ.outS rfl (.cell 0 az_104 rfl rfl (loadw_arr hz_140) .nil) rfl
-- 68 (*ferrule/counts.test).readings
noncomputable def F_counts_test_readings_s3 (n : Nat) (t : counts_test) (y9857 : Blow) (v11500 : Int) (kl11499 : List Int) : Int × Mp → Option ((Int × Mp) ⊕ Mp)
 | (force_11768, m_11769) => if decide (force_11768 ≤ y9857.Force.High) = true then ((F_counts_test_add n t kl11499 y9857 force_11768).bind fun y11776 => (kok 6 y11776).bind fun _ => (kok 6 y11776).bind fun _ => some (Sum.inl ((w64 (force_11768 + 1)), (mput (mput m_11769 y11776 (mget m_11769 y11776)) y11776 (w64 ((mget m_11769 y11776) + v11500)))))) else (some (Sum.inr m_11769))
noncomputable def F_counts_test_readings_s2 (n : Nat) (t : counts_test) (y9857 : Blow) : Mp → List Int × Int → Option Mp
 | m_11491, (kl11499, v11500) => (loopO n (F_counts_test_readings_s3 n t y9857 v11500 kl11499) (y9857.Force.Low, m_11491)).bind fun m_11665 => some m_11665
noncomputable def F_counts_test_readings_s1 (n : Nat) (t : counts_test) : Mp × Int → Option ((Mp × Int) ⊕ Mp)
 | (m_9851, x_9852) => if decide (x_9852 < (t.Run.Blows.length : Int)) = true then ((geti t.Run.Blows x_9852).bind fun y9857 => ((permO (F_counts_test_readings_s2 n t y9857) ([] : Mp) m_9851).bind fun z11820 => match z11820 with | m_11491 => some m_11491).bind fun m_10843 => some (Sum.inl (m_10843, (w64 (x_9852 + 1))))) else (some (Sum.inr m_9851))
noncomputable def F_counts_test_readings (n : Nat) (t : counts_test) : Option Mp :=
 (kok 6 [0, 0, 0, 0, 0, 0]).bind fun _ => (loopO n (F_counts_test_readings_s1 n t) ((mput ([] : Mp) [0, 0, 0, 0, 0, 0] 1), 0)).bind fun m_5912 => some m_5912
theorem c_counts_test_readings (n : Nat) (H : Hp) (t : counts_test) (t_v0 : Value) (ht_0 : SL H 7 R_Section t_v0 t.Run.Canopy.Frame.Sections) (t_v7 : Value) (ht_7 : SL H 2 R_Span t_v7 t.Run.Canopy.Ribs) (t_v8 : Value) (ht_8 : SL H 1 RInt t_v8 t.Run.Canopy.Shares) (t_v9 : Value) (ht_9 : SL H 3 R_Blow t_v9 t.Run.Blows) (t_v10 : Value) (ht_10 : SL H 2 R_Meter t_v10 t.Run.Meters) (t_v12 : Value) (ht_12 : FN_82 H t_v12 t.asked) (t_b t_o : Nat) (t_c : Cells H t_b t_o [t_v0, .int .i64 t.Run.Canopy.Frame.Low, .int .i64 t.Run.Canopy.Frame.High, .int .i64 t.Run.Canopy.Frame.Ease.Num, .int .i64 t.Run.Canopy.Frame.Ease.Den, .int .i64 t.Run.Canopy.Frame.Rod, .int .i64 t.Run.Canopy.Frame.Case, t_v7, t_v8, t_v9, t_v10, .int .i64 t.Run.Wrong, t_v12]) (y : Mp) (hF : F_counts_test_readings n t = some y) : XB Tryz.prog 68 [.pointer (some ⟨t_b, t_o, none⟩)] H (fun H' v bs' => ∃ b es ck, v = .map (some b) ∧ bs' = [(b, .map es ck)] ∧ MR 6 ekA y es ck) := by
 rw [F_counts_test_readings] at hF
 refine XB.of (N := 55) Tryz.func68 rfl rfl rfl fun w => ?_
 refine JC.seq (JC.region (by rfl) ?_)
 intro hQ
 refine JL.assign .none rfl (JL.done hQ (JQ.go (JC.seq (JC.region (by rfl) ?_))))
 intro hQ
 refine JL.makeMap .none rfl ?_
 intro b1
 refine JL.build (l := [.int .i64 0, .int .i64 0, .int .i64 0, .int .i64 0, .int .i64 0, .int .i64 0]) (by kernel_rfl) .none rfl ?_
 obtain ⟨u2, hu2, hF⟩ := bind_some hF
 refine JL.insertM (k := [0, 0, 0, 0, 0, 0]) 0 mp_92 kt_104 rfl rfl MR.empty rfl hu2 rfl .none rfl ?_
 intro es3 ck4 hm5
 refine JL.move .none rfl (JL.assign .none rfl (JL.done hQ (JQ.go (JC.seq (JC.seq (JC.region (by rfl) ?_))))))
 intro hQ
 refine JL.move .none rfl (JL.nilCheck rfl .none rfl ?_)
 refine JL.fieldAddr fo_113_0 rfl .none rfl (JL.fieldAddr fo_34_1 rfl .none rfl (JL.loadH 9 az_31 rfl t_c rfl .none rfl ?_))
 refine JL.lenSL (R := R_Blow) ul_31 ht_9 .none rfl ?_
 refine JL.move .none rfl (JL.done hQ (JQ.go ?_))
 obtain ⟨r5914, hlr5914, hKr5914⟩ := bind_some hF
 refine JC.join (fun (m_5912 : Mp) H5913 f bs gs => ∃ (bm_5912 : Nat) (em_5912 : Array MapEntry) (cm_5912 : Nat), f 3 = .map (some bm_5912) ∧ bs = [(bm_5912, .map em_5912 cm_5912)] ∧ gs = [] ∧ MR 6 ekA m_5912 em_5912 cm_5912 ∧ HSub H H5913 ∧ m_5912 = r5914) ?_ ?_
 ·skip
  refine JC.block (JC.loop hlr5914 (fun (x : Mp × Int) H9853 f bs gs => match x with | (m_9851, x_9852) => ∃ (bm_9851 : Nat) (em_9851 : Array MapEntry) (cm_9851 : Nat), f 0 = .pointer (some ⟨t_b, t_o, none⟩) ∧ f 3 = .map (some bm_9851) ∧ f 17 = t_v9 ∧ f 18 = .int .i64 (t.Run.Blows.length : Int) ∧ f 19 = .int .i64 x_9852 ∧ bs = [(bm_9851, .map em_9851 cm_9851)] ∧ gs = [] ∧ MR 6 ekA m_9851 em_9851 cm_9851 ∧ HSub H H9853) ⟨b1, es3, ck4, rfl, rfl, rfl, rfl, rfl, rfl, rfl, hm5, (HSub.refl _)⟩ ?_)
  rintro ⟨m_9851, x_9852⟩ x9855 H9853 f bs gs ⟨bm_9851, em_9851, cm_9851, hf0, hf3, hf17, hf18, hf19, rfl, rfl, hm_9851, hs9853⟩ hF hr9854
  rw [F_counts_test_readings_s1] at hF
  refine (JC.norm (i := 0) hf0 (JC.norm (i := 3) hf3 (JC.norm (i := 17) hf17 (JC.norm (i := 18) hf18 (JC.norm (i := 19) hf19 ?_)))))
  refine JC.seq (JC.region (by rfl) ?_)
  intro hQ
  refine JL.bin rfl rfl rfl .none rfl (JL.done hQ (JQ.go (JC.seq ?_)))
  rcases ite_some hF with ⟨hc9856, hF⟩ | ⟨hc9856, hF⟩
  ·refine JC.cond_t (b := decide (x_9852 < (t.Run.Blows.length : Int))) rfl hc9856 ?_
   refine JC.skip (JQ.go (JC.seq (JC.block (JC.seq (JC.region (by rfl) ?_)))))
   intro hQ
   obtain ⟨y9857, hy9857, hF⟩ := bind_some hF
   refine JL.indexSL (R := R_Blow) sl_31 (SL.mono R_Blow_mono hs9853 ht_9) rfl hy9857 .none rfl ?_
   rintro b9858 o9859 cs9860 hc9861 - rfl
   refine JL.loadH 0 az_62 rfl hc9861 rfl .none rfl ?_
   refine JL.alloc ze_62 .none rfl ?_
   intro b9862
   refine JL.storeOwn 0 (cs := [.int .i64 y9857.At, .int .i64 y9857.Force.Low, .int .i64 y9857.Force.High]) az_62 rfl rfl rfl (one_cons rfl (one_cons rfl (one_cons rfl one_nil))) rfl rfl .none ?_
   refine JL.done hQ (JQ.go (JC.seq (JC.region (by rfl) ?_)))
   intro hQ
   refine JL.makeMap .none rfl ?_
   intro b9863
   refine JL.assign .none rfl (JL.done hQ (JQ.go (JC.seq (JC.seq (JC.region (by rfl) ?_)))))
   intro hQ
   refine JL.move .none rfl (JL.rangeM mp_92 rfl (.own 2 rfl) hm_9851 .none rfl ?_)
   intro r9864 sn9865 seen9866 cz9867 hI9868
   refine JL.done hQ (JQ.go ?_)
   obtain ⟨r10845, hlr10845, hKr10845⟩ := bind_some hF
   refine JC.join (fun (m_10843 : Mp) H10844 f bs gs => ∃ (em_10843 : Array MapEntry) (cm_10843 : Nat), f 0 = .pointer (some ⟨t_b, t_o, none⟩) ∧ f 6 = .map (some b9863) ∧ f 17 = t_v9 ∧ f 18 = .int .i64 (t.Run.Blows.length : Int) ∧ f 19 = .int .i64 x_9852 ∧ bs = [(b9863, .map em_10843 cm_10843)] ∧ gs = [] ∧ MR 6 ekA m_10843 em_10843 cm_10843 ∧ HSub H9853 H10844 ∧ m_10843 = r10845) ?_ ?_
   ·skip
    obtain ⟨rs11493, hper11494, hl11495⟩ := bind_some hlr10845
    refine JC.block (JC.mapLoop (srt_nodup hI9868.srt) hper11494 (fun (dd : Mp) (m_11491 : Mp) H11492 f bs gs => ∃ (em_11491 : Array MapEntry) (cm_11491 : Nat) (sn_r9864 : Nat) (se_r9864 : Array Nat) (cz_r9864 : Nat), f 0 = .pointer (some ⟨t_b, t_o, none⟩) ∧ f 5 = .pointer (some ⟨b9862, 0, none⟩) ∧ f 6 = .map (some b9863) ∧ f 17 = t_v9 ∧ f 18 = .int .i64 (t.Run.Blows.length : Int) ∧ f 19 = .int .i64 x_9852 ∧ f 25 = .pointer (some ⟨r9864, 0, none⟩) ∧ bs = [(r9864, .mapIter (some bm_9851) sn_r9864 se_r9864 cz_r9864), (b9863, .map em_11491 cm_11491), (b9862, .cells [.int .i64 y9857.At, .int .i64 y9857.Force.Low, .int .i64 y9857.Force.High].toArray 62), (bm_9851, .map em_9851 cm_9851)] ∧ gs = [] ∧ MR 6 ekA m_11491 em_11491 cm_11491 ∧ IR 6 ekA m_9851 m_9851 em_9851 cm_9851 sn_r9864 se_r9864 cz_r9864 dd ∧ HSub H9853 H11492) ⟨#[], 0, sn9865, seen9866, cz9867, rfl, rfl, rfl, rfl, rfl, rfl, rfl, rfl, rfl, MR.empty, hI9868, (HSub.refl _)⟩ ?_)
    rintro dd m_11491 H11492 f bs gs ⟨em_11491, cm_11491, sn_r9864, se_r9864, cz_r9864, hf0, hf5, hf6, hf17, hf18, hf19, hf25, rfl, rfl, hm_11491, hI_r9864, hs11492⟩ hend11496 hgo11497
    refine (JC.norm (i := 0) hf0 (JC.norm (i := 5) hf5 (JC.norm (i := 6) hf6 (JC.norm (i := 17) hf17 (JC.norm (i := 18) hf18 (JC.norm (i := 19) hf19 (JC.norm (i := 25) hf25 ?_)))))))
    refine JC.seq (JC.region (by rfl) ?_)
    intro hQ
    refine JL.nextM 0 kt_104 rfl rfl (.own 3 rfl) hm_9851 hI_r9864 .none rfl ?_ ?_
    ·intro hp11498
     refine JL.extract rfl rfl .none rfl (JL.done hQ (JQ.go (JC.seq (JC.cond_f (b := false) rfl rfl ?_))))
     refine JC.exit (JQ.exit_then (JQ.exit_then (JQ.exit_block ?_)))
     have er11510 := hend11496 hp11498
     subst er11510
     obtain rfl := Option.some.inj hl11495
     refine JQ.mask [false, true, false, false] [] ?_
     exact JQ.join m_11491 ⟨em_11491, cm_11491, rfl, rfl, rfl, rfl, rfl, rfl, rfl, hm_11491, hs11492, rfl⟩
    ·rintro ⟨kl11499, v11500⟩ seen11501 cz11502 hx11503 hxm11504 hxn11505 hI11506 hE11507
     have kok11511 := (hm_9851.okk _ hxm11504)
     dsimp only at kok11511
     obtain ⟨sp11509, hst11508⟩ := hgo11497 (kl11499, v11500) hx11503 hxn11505
     have hF := hst11508
     rw [F_counts_test_readings_s2] at hF
     refine JL.extract rfl rfl .none rfl (JL.done hQ (JQ.go (JC.seq (JC.cond_t (b := true) rfl rfl ?_))))
     refine JC.skip (JQ.go (JC.block (JC.seq (JC.region (by rfl) ?_))))
     intro hQ
     refine JL.entryIt (y := (kl11499, v11500)) 0 rfl rfl (.own 3 rfl) hm_9851 hE11507 .none rfl ?_
     refine JL.extract rfl rfl .none rfl (JL.extract rfl rfl .none rfl (JL.alloc ze_104 .none rfl ?_))
     intro b11512
     refine JL.storeArr (l := [0, 0, 0, 0, 0, 0]) (l' := kl11499) 0 az_104 rfl rfl rfl rfl kok11511.1 .none ?_
     refine JL.assign .none rfl (JL.done hQ (JQ.go (JC.seq (JC.region (by rfl) ?_))))
     intro hQ
     refine JL.fieldAddr fo_62_1 rfl .none rfl (JL.fieldAddr fo_42_0 rfl .none rfl (JL.loadOwn 3 az_3 rfl rfl rfl .none rfl (JL.assign .none rfl (JL.done hQ (JQ.go (JC.fresh (fun f => f 0 = .pointer (some ⟨t_b, t_o, none⟩) ∧ f 5 = .pointer (some ⟨b9862, 0, none⟩) ∧ f 6 = .map (some b9863) ∧ f 7 = .pointer (some ⟨b11512, 0, none⟩) ∧ f 8 = .int .i64 v11500 ∧ f 9 = .int .i64 y9857.Force.Low ∧ f 17 = t_v9 ∧ f 18 = .int .i64 (t.Run.Blows.length : Int) ∧ f 19 = .int .i64 x_9852 ∧ f 25 = .pointer (some ⟨r9864, 0, none⟩)) ⟨rfl, rfl, rfl, rfl, rfl, rfl, rfl, rfl, rfl, rfl⟩ ?_))))))
     rintro f ⟨hf0, hf5, hf6, hf7, hf8, hf9, hf17, hf18, hf19, hf25⟩
     refine (JC.norm (i := 0) hf0 (JC.norm (i := 5) hf5 (JC.norm (i := 6) hf6 (JC.norm (i := 7) hf7 (JC.norm (i := 8) hf8 (JC.norm (i := 9) hf9 (JC.norm (i := 17) hf17 (JC.norm (i := 18) hf18 (JC.norm (i := 19) hf19 (JC.norm (i := 25) hf25 ?_))))))))))
     obtain ⟨r11667, hlr11667, hKr11667⟩ := bind_some hF
     refine JC.join (fun (m_11665 : Mp) H11666 f bs gs => ∃ (em_11665 : Array MapEntry) (cm_11665 : Nat), f 0 = .pointer (some ⟨t_b, t_o, none⟩) ∧ f 5 = .pointer (some ⟨b9862, 0, none⟩) ∧ f 6 = .map (some b9863) ∧ f 17 = t_v9 ∧ f 18 = .int .i64 (t.Run.Blows.length : Int) ∧ f 19 = .int .i64 x_9852 ∧ f 25 = .pointer (some ⟨r9864, 0, none⟩) ∧ bs = [(r9864, .mapIter (some bm_9851) sn_r9864 seen11501 cz11502), (b9863, .map em_11665 cm_11665), (b9862, .cells [.int .i64 y9857.At, .int .i64 y9857.Force.Low, .int .i64 y9857.Force.High].toArray 62), (bm_9851, .map em_9851 cm_9851)] ∧ gs = [] ∧ MR 6 ekA m_11665 em_11665 cm_11665 ∧ HSub H11492 H11666 ∧ m_11665 = r11667) ?_ ?_
     ·skip
      refine JC.block (JC.loop hlr11667 (fun (x : Int × Mp) H11770 f bs gs => match x with | (force_11768, m_11769) => ∃ (em_11769 : Array MapEntry) (cm_11769 : Nat), f 0 = .pointer (some ⟨t_b, t_o, none⟩) ∧ f 5 = .pointer (some ⟨b9862, 0, none⟩) ∧ f 6 = .map (some b9863) ∧ f 7 = .pointer (some ⟨b11512, 0, none⟩) ∧ f 8 = .int .i64 v11500 ∧ f 9 = .int .i64 force_11768 ∧ f 17 = t_v9 ∧ f 18 = .int .i64 (t.Run.Blows.length : Int) ∧ f 19 = .int .i64 x_9852 ∧ f 25 = .pointer (some ⟨r9864, 0, none⟩) ∧ bs = [(b11512, .cells (av .i64 kl11499).toArray 104), (r9864, .mapIter (some bm_9851) sn_r9864 seen11501 cz11502), (b9863, .map em_11769 cm_11769), (b9862, .cells [.int .i64 y9857.At, .int .i64 y9857.Force.Low, .int .i64 y9857.Force.High].toArray 62), (bm_9851, .map em_9851 cm_9851)] ∧ gs = [] ∧ MR 6 ekA m_11769 em_11769 cm_11769 ∧ HSub H11492 H11770) ⟨em_11491, cm_11491, rfl, rfl, rfl, rfl, rfl, rfl, rfl, rfl, rfl, rfl, rfl, rfl, hm_11491, (HSub.refl _)⟩ ?_)
      rintro ⟨force_11768, m_11769⟩ x11772 H11770 f bs gs ⟨em_11769, cm_11769, hf0, hf5, hf6, hf7, hf8, hf9, hf17, hf18, hf19, hf25, rfl, rfl, hm_11769, hs11770⟩ hF hr11771
      rw [F_counts_test_readings_s3] at hF
      refine (JC.norm (i := 0) hf0 (JC.norm (i := 5) hf5 (JC.norm (i := 6) hf6 (JC.norm (i := 7) hf7 (JC.norm (i := 8) hf8 (JC.norm (i := 9) hf9 (JC.norm (i := 17) hf17 (JC.norm (i := 18) hf18 (JC.norm (i := 19) hf19 (JC.norm (i := 25) hf25 ?_))))))))))
      refine JC.seq (JC.seq (JC.region (by rfl) ?_))
      intro hQ
      refine JL.move .none rfl (JL.fieldAddr fo_62_1 rfl .none rfl (JL.fieldAddr fo_42_1 rfl .none rfl (JL.loadOwn 3 az_3 rfl rfl rfl .none rfl (JL.bin rfl rfl rfl .none rfl (JL.done hQ (JQ.go ?_))))))
      rcases ite_some hF with ⟨hc11773, hF⟩ | ⟨hc11773, hF⟩
      ·refine JC.cond_t (b := decide (force_11768 ≤ y9857.Force.High)) rfl hc11773 ?_
       refine JC.skip (JQ.go (JC.seq (JC.block ?_)))
       obtain ⟨y11776, hy11776, hF⟩ := bind_some hF
       obtain ⟨u11777, hu11777, hF⟩ := bind_some hF
       obtain ⟨u11778, hu11778, hF⟩ := bind_some hF
       refine JC.mixed 12 12 (tf 0 12) [(b11512, .cells (av .i64 kl11499).toArray 104), (r9864, .mapIter (some bm_9851) sn_r9864 seen11501 cz11502), (b9862, .cells [.int .i64 y9857.At, .int .i64 y9857.Force.Low, .int .i64 y9857.Force.High].toArray 62), (bm_9851, .map em_9851 cm_9851)] (by rfl) mo_ (by kernel_rfl) (by kernel_rfl) ?_
       intro hQ hE
       refine JA.cut 1 (tf 11 1) (fun H11805 f bs gs => ∃ (es11798 : Array MapEntry) (ck11799 : Nat) (stp11800 : Int), f 0 = .pointer (some ⟨t_b, t_o, none⟩) ∧ f 5 = .pointer (some ⟨b9862, 0, none⟩) ∧ f 6 = .map (some b9863) ∧ f 7 = .pointer (some ⟨b11512, 0, none⟩) ∧ f 8 = .int .i64 v11500 ∧ f 9 = .int .i64 force_11768 ∧ f 17 = t_v9 ∧ f 18 = .int .i64 (t.Run.Blows.length : Int) ∧ f 19 = .int .i64 x_9852 ∧ f 25 = .pointer (some ⟨r9864, 0, none⟩) ∧ f 41 = .map (some b9863) ∧ f 49 = .int .i64 (w64 ((mget m_11769 y11776) + v11500)) ∧ f 51 = .int .i64 stp11800 ∧ bs = [(b11512, .cells (av .i64 kl11499).toArray 104), (r9864, .mapIter (some bm_9851) sn_r9864 seen11501 cz11502), (b9863, .map es11798 ck11799), (b9862, .cells [.int .i64 y9857.At, .int .i64 y9857.Force.Low, .int .i64 y9857.Force.High].toArray 62), (bm_9851, .map em_9851 cm_9851)] ∧ gs = [] ∧ MR 6 ekA (mput m_11769 y11776 (mget m_11769 y11776)) es11798 ck11799 ∧ EAt es11798 stp11800 (ekA y11776) ∧ HSub H11770 H11805) ?_ ?_
       ·rintro H11805 f bs gs ⟨es11798, ck11799, stp11800, hf0, hf5, hf6, hf7, hf8, hf9, hf17, hf18, hf19, hf25, hf41, hf49, hf51, rfl, rfl, hm11806, hm11807, hs11805⟩
        refine (JA.norm (i := 0) hf0 (JA.norm (i := 5) hf5 (JA.norm (i := 6) hf6 (JA.norm (i := 7) hf7 (JA.norm (i := 8) hf8 (JA.norm (i := 9) hf9 (JA.norm (i := 17) hf17 (JA.norm (i := 18) hf18 (JA.norm (i := 19) hf19 (JA.norm (i := 25) hf25 (JA.norm (i := 41) hf41 (JA.norm (i := 49) hf49 (JA.norm (i := 51) hf51 ?_)))))))))))))
        refine JA.many [11] (by kernel_rfl) (by simp) (all_one ⟨_, (tf 12 0), rfl, (by kernel_rfl), ?_⟩)
        refine JL.storeM (k := y11776) 2 kt_104 rfl rfl hm11806 (kok_some hu11778) rfl hm11807 rfl .none rfl ?_
        intro es11808 hm11809
        refine JA.after hE hs11805 (.cons_cons _ (.cons_cons _ (.cons _ (.cons_cons _ (.cons_cons _ (List.nil_sublist _)))))) ?_
        refine JA.done hQ (by kernel_rfl) ?_
        refine JQ.normal_block (JQ.go (JC.region (by rfl) ?_))
        intro hQ
        refine JL.move .none rfl (JL.bin rfl rfl rfl .none rfl (JL.assign .none rfl (JL.done hQ ?_)))
        obtain rfl := Option.some.inj hF
        exact JQ.next rfl ⟨es11808, ck11799, rfl, rfl, rfl, rfl, rfl, rfl, rfl, rfl, rfl, rfl, rfl, rfl, hm11809, (HSub.trans hs11770 hs11805)⟩
       intro nd11804_0
       refine JA.tk 0 (tf 1 11) hQ rfl hE (.cons_cons _ (.cons_cons _ (.cons _ (.cons_cons _ (.cons_cons _ (List.nil_sublist _)))))) ?_
       refine JL.move .none rfl (JA.cont ?_)
       refine JA.tk 1 (tf 2 10) hQ rfl hE (.cons_cons _ (.cons_cons _ (.cons _ (.cons_cons _ (.cons_cons _ (List.nil_sublist _)))))) ?_
       refine JL.move .none rfl (JA.cont ?_)
       refine JA.tk 2 (tf 3 9) hQ rfl hE (.cons_cons _ (.cons_cons _ (.cons _ (.cons_cons _ (.cons_cons _ (List.nil_sublist _)))))) ?_
       refine JL.loadArr (l := kl11499) 0 az_104 rfl rfl kok11511.1 .none rfl ?_
       refine JA.cont ?_
       refine JA.tk 3 (tf 4 8) hQ rfl hE (.cons_cons _ (.cons_cons _ (.cons _ (.cons_cons _ (.cons_cons _ (List.nil_sublist _)))))) ?_
       refine JL.loadOwn 2 az_62 rfl rfl rfl .none rfl (JA.cont ?_)
       refine JA.tk 4 (tf 5 7) hQ rfl hE (.cons_cons _ (.cons_cons _ (.cons _ (.cons_cons _ (.cons_cons _ (List.nil_sublist _)))))) ?_
       refine JL.move .none rfl (JA.cont ?_)
       refine JA.tk 7 #[true, true, true, true, true, false, false, true, false, false, false, false] hQ rfl hE (.cons_cons _ (.cons_cons _ (.cons _ (.cons_cons _ (.cons_cons _ (List.nil_sublist _)))))) ?_
       refine JL.move .none rfl (JA.cont ?_)
       refine JA.many [5] (by kernel_rfl) (by simp) (all_one ⟨_, #[true, true, true, true, true, true, false, true, false, false, false, false], rfl, (by kernel_rfl), ?_⟩)
       refine JL.callS (c_counts_test_add n H11770 t t_v0 (SL.mono R_Section_mono (HSub.trans hs9853 (HSub.trans hs11492 hs11770)) ht_0) t_v7 (SL.mono R_Span_mono (HSub.trans hs9853 (HSub.trans hs11492 hs11770)) ht_7) t_v8 (SL.mono RInt.mono (HSub.trans hs9853 (HSub.trans hs11492 hs11770)) ht_8) t_v9 (SL.mono R_Blow_mono (HSub.trans hs9853 (HSub.trans hs11492 hs11770)) ht_9) t_v10 (SL.mono R_Meter_mono (HSub.trans hs9853 (HSub.trans hs11492 hs11770)) ht_10) t_v12 (FN_82.mono (HSub.trans hs9853 (HSub.trans hs11492 hs11770)) ht_12) t_b t_o (Cells.mono (HSub.trans hs9853 (HSub.trans hs11492 hs11770)) t_c) kl11499 kok11511.1 y9857 force_11768 y11776 hy11776) rfl en_93 .none rfl ?_
       refine JA.after hE (HSub.refl _) (.cons_cons _ (.cons_cons _ (.cons _ (.cons_cons _ (.cons_cons _ (List.nil_sublist _)))))) ?_
       refine JA.many [6, 9] (by kernel_rfl) (by simp) (all_cons ⟨_, (tf 8 4), rfl, (by kernel_rfl), ?_⟩ (all_one ⟨_, #[true, true, true, true, true, true, false, true, false, true, false, false], rfl, (by kernel_rfl), ?_⟩))
       ·skip
        refine JL.lookupM (k := y11776) mp_92 kt_104 rfl (.own 2 rfl) hm_11769 rfl hu11777 .none rfl ?_
        refine JA.after hE (HSub.refl _) (.cons_cons _ (.cons_cons _ (.cons _ (.cons_cons _ (.cons_cons _ (List.nil_sublist _)))))) ?_
        refine JA.tk 8 (tf 9 3) hQ rfl hE (.cons_cons _ (.cons_cons _ (.cons _ (.cons_cons _ (.cons_cons _ (List.nil_sublist _)))))) ?_
        refine JL.bin rfl rfl rfl .none rfl (JA.cont ?_)
        refine JA.many [9] (by kernel_rfl) (by simp) (all_one ⟨_, (tf 10 2), rfl, (by kernel_rfl), ?_⟩)
        refine JL.entryM (k := y11776) 2 mp_92 kt_104 rfl rfl hm_11769 rfl hu11778 .none rfl ?_
        intro es11810 ck11811 stp11812 hm11813 he11814
        refine JA.after hE (HSub.refl _) (.cons_cons _ (.cons_cons _ (.cons _ (.cons_cons _ (.cons_cons _ (List.nil_sublist _)))))) ?_
        refine JA.tk 10 (tf 11 1) hQ rfl hE (.cons_cons _ (.cons_cons _ (.cons _ (.cons_cons _ (.cons_cons _ (List.nil_sublist _)))))) ?_
        refine JL.extract rfl rfl .none rfl (JA.cont ?_)
        exact nd11804_0 _ _ _ _ ⟨es11810, ck11811, stp11812, rfl, rfl, rfl, rfl, rfl, rfl, rfl, rfl, rfl, rfl, rfl, rfl, rfl, rfl, rfl, hm11813, he11814, (HSub.refl _)⟩
       ·skip
        refine JL.entryM (k := y11776) 2 mp_92 kt_104 rfl rfl hm_11769 rfl hu11778 .none rfl ?_
        intro es11815 ck11816 stp11817 hm11818 he11819
        refine JA.after hE (HSub.refl _) (.cons_cons _ (.cons_cons _ (.cons _ (.cons_cons _ (.cons_cons _ (List.nil_sublist _)))))) ?_
        refine JA.tk 10 #[true, true, true, true, true, true, false, true, false, true, true, false] hQ rfl hE (.cons_cons _ (.cons_cons _ (.cons _ (.cons_cons _ (.cons_cons _ (List.nil_sublist _)))))) ?_
        refine JL.extract rfl rfl .none rfl (JA.cont ?_)
        refine JA.many [6] (by kernel_rfl) (by simp) (all_one ⟨_, #[true, true, true, true, true, true, true, true, false, true, true, false], rfl, (by kernel_rfl), ?_⟩)
        refine JL.lookupMv (k := y11776) mp_92 kt_104 rfl (.own 2 rfl) hm11818 rfl hu11777 (mget_mput hm_11769.srt) .none rfl ?_
        refine JA.after hE (HSub.refl _) (.cons_cons _ (.cons_cons _ (.cons _ (.cons_cons _ (.cons_cons _ (List.nil_sublist _)))))) ?_
        refine JA.tk 8 (tf 11 1) hQ rfl hE (.cons_cons _ (.cons_cons _ (.cons _ (.cons_cons _ (.cons_cons _ (List.nil_sublist _)))))) ?_
        refine JL.bin rfl rfl rfl .none rfl (JA.cont ?_)
        exact nd11804_0 _ _ _ _ ⟨es11815, ck11816, stp11817, rfl, rfl, rfl, rfl, rfl, rfl, rfl, rfl, rfl, rfl, rfl, rfl, rfl, rfl, rfl, hm11818, he11819, (HSub.refl _)⟩
      ·refine JC.cond_f (b := decide (force_11768 ≤ y9857.Force.High)) rfl hc11773 ?_
       refine JC.exit (JQ.exit_then (JQ.exit_then (JQ.exit_block ?_)))
       obtain rfl := Option.some.inj hF
       have ehr11771 := hr11771 _ rfl
       subst ehr11771
       refine JQ.mask [false, true, true, true, true] [] ?_
       exact JQ.join m_11769 ⟨em_11769, cm_11769, rfl, rfl, rfl, rfl, rfl, rfl, rfl, rfl, rfl, hm_11769, hs11770, rfl⟩
     ·rintro m_11665 H11666 f bs gs ⟨em_11665, cm_11665, hf0, hf5, hf6, hf17, hf18, hf19, hf25, rfl, rfl, hm_11665, hs11666, rfl⟩
      have hF := hKr11667
      try dsimp only at hF
      refine (JQ.norm (i := 0) hf0 (JQ.norm (i := 5) hf5 (JQ.norm (i := 6) hf6 (JQ.norm (i := 17) hf17 (JQ.norm (i := 18) hf18 (JQ.norm (i := 19) hf19 (JQ.norm (i := 25) hf25 ?_)))))))
      refine JQ.normal_block ?_
      obtain rfl := Option.some.inj hF
      exact JQ.mnext hx11503 hxn11505 hst11508 ⟨em_11665, cm_11665, sn_r9864, seen11501, cz11502, rfl, rfl, rfl, rfl, rfl, rfl, rfl, rfl, rfl, hm_11665, hI11506, (HSub.trans hs11492 hs11666)⟩
   ·rintro m_10843 H10844 f bs gs ⟨em_10843, cm_10843, hf0, hf6, hf17, hf18, hf19, rfl, rfl, hm_10843, hs10844, rfl⟩
    have hF := hKr10845
    try dsimp only at hF
    refine (JQ.norm (i := 0) hf0 (JQ.norm (i := 6) hf6 (JQ.norm (i := 17) hf17 (JQ.norm (i := 18) hf18 (JQ.norm (i := 19) hf19 ?_)))))
    refine JQ.go (JC.region (by rfl) ?_)
    intro hQ
    refine JL.move .none rfl (JL.assign .none rfl (JL.done hQ (JQ.normal_block (JQ.go (JC.region (by rfl) ?_)))))
    intro hQ
    refine JL.bin rfl rfl rfl .none rfl (JL.move .none rfl (JL.done hQ ?_))
    obtain rfl := Option.some.inj hF
    exact JQ.next rfl ⟨b9863, em_10843, cm_10843, rfl, rfl, rfl, rfl, rfl, rfl, rfl, hm_10843, (HSub.trans hs9853 hs10844)⟩
  ·refine JC.cond_f (b := decide (x_9852 < (t.Run.Blows.length : Int))) rfl hc9856 ?_
   refine JC.exit (JQ.exit_then (JQ.exit_then (JQ.exit_block ?_)))
   obtain rfl := Option.some.inj hF
   have ehr9854 := hr9854 _ rfl
   subst ehr9854
   exact JQ.join m_9851 ⟨bm_9851, em_9851, cm_9851, rfl, rfl, rfl, hm_9851, hs9853, rfl⟩
 ·rintro m_5912 H5913 f bs gs ⟨bm_5912, em_5912, cm_5912, hf3, rfl, rfl, hm_5912, hs5913, rfl⟩
  have hF := hKr5914
  try dsimp only at hF
  refine (JQ.norm (i := 3) hf3 ?_)
  refine JQ.go (JC.seq (JC.region (by rfl) ?_))
  intro hQ
  refine JL.move .none rfl (JL.assign .none rfl (JL.done hQ (JQ.go (JC.ret ?_))))
  obtain rfl := Option.some.inj hF
  exact JQ.outB rfl (.tmp .nil) ⟨bm_5912, em_5912, cm_5912, rfl, rfl, hm_5912⟩
-- 59 (*ferrule/counts.test).right
def F_counts_test_right (n : Nat) (t : counts_test) (x_ : List Int) (meter : Int) : Option Bool :=
 (geti x_ meter).bind fun y8 => (geti t.Run.Meters meter).bind fun y9 => some (y8 == y9.Count)
theorem c_counts_test_right (n : Nat) (H : Hp) (t : counts_test) (t_v0 : Value) (ht_0 : SL H 7 R_Section t_v0 t.Run.Canopy.Frame.Sections) (t_v7 : Value) (ht_7 : SL H 2 R_Span t_v7 t.Run.Canopy.Ribs) (t_v8 : Value) (ht_8 : SL H 1 RInt t_v8 t.Run.Canopy.Shares) (t_v9 : Value) (ht_9 : SL H 3 R_Blow t_v9 t.Run.Blows) (t_v10 : Value) (ht_10 : SL H 2 R_Meter t_v10 t.Run.Meters) (t_v12 : Value) (ht_12 : FN_82 H t_v12 t.asked) (t_b t_o : Nat) (t_c : Cells H t_b t_o [t_v0, .int .i64 t.Run.Canopy.Frame.Low, .int .i64 t.Run.Canopy.Frame.High, .int .i64 t.Run.Canopy.Frame.Ease.Num, .int .i64 t.Run.Canopy.Frame.Ease.Den, .int .i64 t.Run.Canopy.Frame.Rod, .int .i64 t.Run.Canopy.Frame.Case, t_v7, t_v8, t_v9, t_v10, .int .i64 t.Run.Wrong, t_v12]) (x_ : List Int) (x__l : x_.length = 6) (meter : Int) (y : Bool) (hF : F_counts_test_right n t x_ meter = some y) : SC Tryz.prog 59 [.pointer (some ⟨t_b, t_o, none⟩), .agg (av .i64 x_).toArray, .int .i64 meter] (.bool y) H := by
 rw [F_counts_test_right] at hF
 refine SC.of (N := 20) Tryz.func59 rfl rfl rfl fun w => ?_
 refine JC.seq (JC.region (by rfl) ?_)
 intro hQ
 refine JL.box (cs := av .i64 x_) rfl .none rfl ?_
 intro b1
 refine JL.assign .none rfl (JL.done hQ (JQ.go (JC.seq (JC.draw (by rfl) mo_ (by kernel_rfl) ?_))))
 intro hQ
 refine JL.move .none rfl ?_
 obtain ⟨y8, hy8, hF⟩ := bind_some hF
 refine JL.indexArrP (l := x_) ar_104 az_3 rfl rfl x__l hy8 .none rfl ?_
 refine JL.loadEl (j := meter) 0 az_3 rfl rfl hy8 .none rfl ?_
 refine JL.move .none rfl (JL.nilCheck rfl .none rfl ?_)
 refine JL.fieldAddr fo_113_0 rfl .none rfl (JL.fieldAddr fo_34_2 rfl .none rfl (JL.loadH 10 az_32 rfl t_c rfl .none rfl ?_))
 refine JL.move .none rfl ?_
 obtain ⟨y9, hy9, hF⟩ := bind_some hF
 refine JL.indexSL (R := R_Meter) sl_32 ht_10 rfl hy9 .none rfl ?_
 rintro b10 o11 cs12 hc13 - rfl
 refine JL.fieldAddr fo_73_1 rfl .none rfl (JL.loadH 1 az_3 rfl hc13 rfl .none rfl ?_)
 refine JL.bin rfl rfl rfl .none rfl (JL.assign .none rfl (JL.doneQ hQ ?_))
 refine JQ.go (JC.fresh (fun f => f 6 = .bool (y8 == y9.Count)) rfl ?_)
 rintro f hf6
 refine (JC.norm (i := 6) hf6 ?_)
 refine JC.ret ?_
 obtain rfl := Option.some.inj hF
 exact JQ.outS rfl (.tmp .nil) rfl
end Go.Proofs.YtcipdblhopffbaaGreat
end
