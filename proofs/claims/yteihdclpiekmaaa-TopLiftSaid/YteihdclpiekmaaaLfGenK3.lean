/-
  Printed by a program: functions of the translation as plain functions, and their contracts.
-/
import Derived.Test.YteihdclpiekmaaaLfGenK2
namespace Go.Proofs.Yteihdclpiekmaaa
open Go Go.RowKit Go.Dec
set_option linter.unusedVariables false
-- 136 ferrule/gusts.Check$1
def F_gusts_Check_1 (n : Nat) (s : Span) : Option Bool :=
  (F_gusts_within n s.Low 0 s.High).bind fun y2 => some ((!y2) || (decide (99999 < s.High)))
set_option maxRecDepth 100000 in
set_option maxHeartbeats 40000000 in
theorem c_gusts_Check_1 (n : Nat) (H : Hp) (s : Span) (y : Bool) (hF : F_gusts_Check_1 n s = some y) : SC Try.prog 136 [.agg [.int .i64 s.Low, .int .i64 s.High].toArray] (.bool y) H := by
  rw [F_gusts_Check_1] at hF
  refine SC.of (N := 14) Try.func136 rfl rfl rfl fun w => ?_
  refine JC.seq ?_
  refine JC.region (by rfl) ?_
  intro hQ
  refine JL.box (cs := [.int .i64 s.Low, .int .i64 s.High]) rfl .none rfl ?_
  intro b1
  refine JL.assign .none rfl ?_
  refine JL.done hQ ?_
  refine JQ.go ?_
  refine JC.seq ?_
  refine JC.region (by rfl) ?_
  intro hQ
  refine JL.fieldAddr fo_39_0 rfl .none rfl ?_
  refine JL.loadOwn 0 az_3 rfl rfl rfl .none rfl ?_
  refine JL.fieldAddr fo_39_1 rfl .none rfl ?_
  refine JL.loadOwn 0 az_3 rfl rfl rfl .none rfl ?_
  obtain ⟨y2, hy2, hF⟩ := bind_some hF
  refine JL.callS (c_gusts_within n H s.Low 0 s.High y2 hy2) rfl en_137 .none rfl ?_
  refine JL.not rfl .none rfl ?_
  refine JL.move .none rfl ?_
  refine JL.cut 4 (fun f => f 13 = .bool ((!y2) || (decide (99999 < s.High)))) ?_ ?_
  · intro hJ3
    rcases bcases (!y2) with hc4 | hc4
    · skip
      refine JL.skip (.bool rfl rfl rfl hc4) rfl ?_
      refine JL.skip (.bool rfl rfl rfl hc4) rfl ?_
      refine JL.skip (.bool rfl rfl rfl hc4) rfl ?_
      refine JL.pick_t (b := (!y2)) rfl hc4 .none rfl ?_
      exact hJ3 _ (or_t hc4 rfl)
    · skip
      refine JL.fieldAddr fo_39_1 rfl (.some rfl rfl rfl hc4) rfl ?_
      refine JL.loadOwn 0 az_3 rfl rfl rfl (.some rfl rfl rfl hc4) rfl ?_
      refine JL.bin rfl rfl rfl (.some rfl rfl rfl hc4) rfl ?_
      refine JL.pick_f (b := (!y2)) rfl hc4 .none rfl ?_
      exact hJ3 _ (or_f hc4 rfl)
  · rintro f hf13
    refine (JL.norm (i := 13) hf13 ?_)
    refine JL.assign .none rfl ?_
    refine JL.done hQ ?_
    refine JQ.go ?_
    refine JC.ret ?_
    obtain rfl := Option.some.inj hF
    exact JQ.outS rfl (.tmp .nil) rfl

-- 138 ferrule/gusts.Check$2
def F_gusts_Check_2 (n : Nat) (n_ : Int) : Option Bool :=
  (F_gusts_within n n_ 0 99).bind fun y1 => some (!y1)
set_option maxRecDepth 100000 in
set_option maxHeartbeats 40000000 in
theorem c_gusts_Check_2 (n : Nat) (H : Hp) (n_ : Int) (y : Bool) (hF : F_gusts_Check_2 n n_ = some y) : SC Try.prog 138 [.int .i64 n_] (.bool y) H := by
  rw [F_gusts_Check_2] at hF
  refine SC.of (N := 6) Try.func138 rfl rfl rfl fun w => ?_
  refine JC.seq ?_
  refine JC.region (by rfl) ?_
  intro hQ
  refine JL.assign .none rfl ?_
  refine JL.done hQ ?_
  refine JQ.go ?_
  refine JC.seq ?_
  refine JC.region (by rfl) ?_
  intro hQ
  refine JL.move .none rfl ?_
  obtain ⟨y1, hy1, hF⟩ := bind_some hF
  refine JL.callS (c_gusts_within n H n_ 0 99 y1 hy1) rfl en_137 .none rfl ?_
  refine JL.not rfl .none rfl ?_
  refine JL.assign .none rfl ?_
  refine JL.done hQ ?_
  refine JQ.go ?_
  refine JC.ret ?_
  obtain rfl := Option.some.inj hF
  exact JQ.outS rfl (.tmp .nil) rfl

-- 177 slices.IndexFunc[[]ferrule/api.Span,ferrule/api.Span]
def F_slices_IndexFunc___api_Span_api_Span__s1 (n : Nat) (s : List Span) (f_ : Span → Option Bool) : Int → Option (Int ⊕ (Int ⊕ Unit))
  | x_55 => if decide (x_55 < (s.length : Int)) = true then ((geti s x_55).bind fun y60 => (f_ y60).bind fun y65 => if y65 = true then (some (Sum.inr (Sum.inl x_55))) else (some (Sum.inl (w64 (x_55 + 1))))) else (some (Sum.inr (Sum.inr ())))
def F_slices_IndexFunc___api_Span_api_Span_ (n : Nat) (s : List Span) (f_ : Span → Option Bool) : Option Int :=
  (loopO n (F_slices_IndexFunc___api_Span_api_Span__s1 n s f_) 0).bind fun r34 => match r34 with | .inl o => some o | .inr _ => some (-1)
set_option maxRecDepth 100000 in
set_option maxHeartbeats 40000000 in
theorem c_slices_IndexFunc___api_Span_api_Span_ (n : Nat) (H : Hp) (s : List Span) (s_v0 : Value) (hs_0 : SL H 2 R_Span s_v0 s) (f_ : Span → Option Bool) (f__k : Nat) (f__c : List Value) (f__e : Ent Try.prog f__k) (f__h : ∀ H', HSub H H' → ∀ (a0_ : Span) (y : Bool), f_ a0_ = some y → SC Try.prog f__k ([.agg [.int .i64 a0_.Low, .int .i64 a0_.High].toArray] ++ f__c) (.bool y) H') (y : Int) (hF : F_slices_IndexFunc___api_Span_api_Span_ n s f_ = some y) : SC Try.prog 177 [s_v0, .func (.func f__k) #[] f__c.toArray] (.int .i64 y) H := by
  rw [F_slices_IndexFunc___api_Span_api_Span_] at hF
  refine SC.of (N := 19) Try.func177 rfl rfl rfl fun w => ?_
  refine JC.seq ?_
  refine JC.region (by rfl) ?_
  intro hQ
  refine JL.assign .none rfl ?_
  refine JL.done hQ ?_
  refine JQ.go ?_
  refine JC.seq ?_
  refine JC.seq ?_
  refine JC.region (by rfl) ?_
  intro hQ
  refine JL.move .none rfl ?_
  refine JL.lenSL (R := R_Span) ul_24 hs_0 .none rfl ?_
  refine JL.move .none rfl ?_
  refine JL.done hQ ?_
  refine JQ.go ?_
  obtain ⟨r34, hlr34, hKr34⟩ := bind_some hF
  refine JC.join (fun (_ : Unit) H33 f bs gs => bs = [] ∧ gs = [] ∧ HSub H H33 ∧ Sum.inr () = r34) ?_ ?_
  · skip
    refine JC.block ?_
    refine JC.loop hlr34 (fun (x_55 : Int) H56 f bs gs => f 0 = s_v0 ∧ f 1 = .func (.func f__k) #[] f__c.toArray ∧ f 7 = .int .i64 (s.length : Int) ∧ f 8 = .int .i64 x_55 ∧ bs = [] ∧ gs = [] ∧ HSub H H56) ⟨rfl, rfl, rfl, rfl, rfl, rfl, (HSub.refl _)⟩ ?_
    rintro x_55 x58 H56 f bs gs ⟨hf0, hf1, hf7, hf8, rfl, rfl, hs56⟩ hF hr57
    rw [F_slices_IndexFunc___api_Span_api_Span__s1] at hF
    refine (JC.norm (i := 0) hf0 (JC.norm (i := 1) hf1 (JC.norm (i := 7) hf7 (JC.norm (i := 8) hf8 ?_))))
    refine JC.seq ?_
    refine JC.region (by rfl) ?_
    intro hQ
    refine JL.bin rfl rfl rfl .none rfl ?_
    refine JL.done hQ ?_
    refine JQ.go ?_
    refine JC.seq ?_
    rcases ite_some hF with ⟨hc59, hF⟩ | ⟨hc59, hF⟩
    · refine JC.cond_t (b := decide (x_55 < (s.length : Int))) rfl hc59 ?_
      refine JC.skip ?_
      refine JQ.go ?_
      refine JC.seq ?_
      refine JC.block ?_
      refine JC.seq ?_
      refine JC.region (by rfl) ?_
      intro hQ
      refine JL.move .none rfl ?_
      refine JL.assign .none rfl ?_
      refine JL.done hQ ?_
      refine JQ.go ?_
      refine JC.seq ?_
      refine JC.region (by rfl) ?_
      intro hQ
      refine JL.move .none rfl ?_
      refine JL.move .none rfl ?_
      refine JL.move .none rfl ?_
      obtain ⟨y60, hy60, hF⟩ := bind_some hF
      refine JL.indexSL (R := R_Span) sl_24 (SL.mono R_Span_mono hs56 hs_0) rfl hy60 .none rfl ?_
      rintro b61 o62 cs63 hc64 - rfl
      refine JL.loadH 0 az_39 rfl hc64 rfl .none rfl ?_
      obtain ⟨y65, hy65, hF⟩ := bind_some hF
      refine JL.callV rfl (f__h H56 hs56 y60 y65 hy65) rfl f__e .none rfl ?_
      refine JL.done hQ ?_
      refine JQ.go ?_
      rcases ite_some hF with ⟨hc66, hF⟩ | ⟨hc66, hF⟩
      · refine JC.cond_t (b := y65) rfl hc66 ?_
        refine JC.seq ?_
        refine JC.region (by rfl) ?_
        intro hQ
        refine JL.move .none rfl ?_
        refine JL.assign .none rfl ?_
        refine JL.done hQ ?_
        refine JQ.go ?_
        refine JC.fresh (fun f => f 4 = .int .i64 x_55) rfl ?_
        rintro f hf4
        refine (JC.norm (i := 4) hf4 ?_)
        refine JC.ret ?_
        refine JQ.ret_block ?_
        refine JQ.ret_then ?_
        refine JQ.ret_then ?_
        refine JQ.ret_block ?_
        refine JQ.ret_join ?_
        refine JQ.ret_then ?_
        obtain rfl := Option.some.inj hF
        have ehr57 := hr57 _ rfl
        subst ehr57
        have hF := hKr34
        try dsimp only at hF
        obtain rfl := Option.some.inj hF
        exact JQ.outS rfl (.tmp .nil) rfl
      · refine JC.cond_f (b := y65) rfl hc66 ?_
        refine JC.skip ?_
        refine JQ.normal_block ?_
        refine JQ.go ?_
        refine JC.region (by rfl) ?_
        intro hQ
        refine JL.bin rfl rfl rfl .none rfl ?_
        refine JL.move .none rfl ?_
        refine JL.done hQ ?_
        obtain rfl := Option.some.inj hF
        exact JQ.next rfl ⟨rfl, rfl, rfl, rfl, rfl, rfl, hs56⟩
    · refine JC.cond_f (b := decide (x_55 < (s.length : Int))) rfl hc59 ?_
      refine JC.exit ?_
      refine JQ.exit_then ?_
      refine JQ.exit_then ?_
      refine JQ.exit_block ?_
      obtain rfl := Option.some.inj hF
      have ehr57 := hr57 _ rfl
      subst ehr57
      exact JQ.join () ⟨rfl, rfl, hs56, rfl⟩
  · rintro _ H33 f bs gs ⟨rfl, rfl, hs33, rfl⟩
    have hF := hKr34
    try dsimp only at hF
    refine JQ.go ?_
    refine JC.seq ?_
    refine JC.region (by rfl) ?_
    intro hQ
    refine JL.assign .none rfl ?_
    refine JL.done hQ ?_
    refine JQ.go ?_
    refine JC.ret ?_
    obtain rfl := Option.some.inj hF
    exact JQ.outS rfl (.tmp .nil) rfl

-- 139 slices.ContainsFunc[[]ferrule/api.Span,ferrule/api.Span]
def F_slices_ContainsFunc___api_Span_api_Span_ (n : Nat) (s : List Span) (f_ : Span → Option Bool) : Option Bool :=
  (F_slices_IndexFunc___api_Span_api_Span_ n s f_).bind fun y1 => some (decide (0 ≤ y1))
set_option maxRecDepth 100000 in
set_option maxHeartbeats 40000000 in
theorem c_slices_ContainsFunc___api_Span_api_Span_ (n : Nat) (H : Hp) (s : List Span) (s_v0 : Value) (hs_0 : SL H 2 R_Span s_v0 s) (f_ : Span → Option Bool) (f__k : Nat) (f__c : List Value) (f__e : Ent Try.prog f__k) (f__h : ∀ H', HSub H H' → ∀ (a0_ : Span) (y : Bool), f_ a0_ = some y → SC Try.prog f__k ([.agg [.int .i64 a0_.Low, .int .i64 a0_.High].toArray] ++ f__c) (.bool y) H') (y : Bool) (hF : F_slices_ContainsFunc___api_Span_api_Span_ n s f_ = some y) : SC Try.prog 139 [s_v0, .func (.func f__k) #[] f__c.toArray] (.bool y) H := by
  rw [F_slices_ContainsFunc___api_Span_api_Span_] at hF
  refine SC.of (N := 9) Try.func139 rfl rfl rfl fun w => ?_
  refine JC.seq ?_
  refine JC.region (by rfl) ?_
  intro hQ
  refine JL.assign .none rfl ?_
  refine JL.done hQ ?_
  refine JQ.go ?_
  refine JC.seq ?_
  refine JC.region (by rfl) ?_
  intro hQ
  refine JL.move .none rfl ?_
  refine JL.move .none rfl ?_
  obtain ⟨y1, hy1, hF⟩ := bind_some hF
  refine JL.callS (c_slices_IndexFunc___api_Span_api_Span_ n H s s_v0 hs_0 f_ f__k f__c f__e (fun H' hs' => f__h H' hs') y1 hy1) rfl en_177 .none rfl ?_
  refine JL.bin rfl rfl rfl .none rfl ?_
  refine JL.assign .none rfl ?_
  refine JL.done hQ ?_
  refine JQ.go ?_
  refine JC.ret ?_
  obtain rfl := Option.some.inj hF
  exact JQ.outS rfl (.tmp .nil) rfl

-- 178 slices.IndexFunc[[]int,int]
def F_slices_IndexFunc___int_int__s1 (n : Nat) (s : List Int) (f_ : Int → Option Bool) : Int → Option (Int ⊕ (Int ⊕ Unit))
  | x_55 => if decide (x_55 < (s.length : Int)) = true then ((geti s x_55).bind fun y60 => (f_ y60).bind fun y65 => if y65 = true then (some (Sum.inr (Sum.inl x_55))) else (some (Sum.inl (w64 (x_55 + 1))))) else (some (Sum.inr (Sum.inr ())))
def F_slices_IndexFunc___int_int_ (n : Nat) (s : List Int) (f_ : Int → Option Bool) : Option Int :=
  (loopO n (F_slices_IndexFunc___int_int__s1 n s f_) 0).bind fun r34 => match r34 with | .inl o => some o | .inr _ => some (-1)
set_option maxRecDepth 100000 in
set_option maxHeartbeats 40000000 in
theorem c_slices_IndexFunc___int_int_ (n : Nat) (H : Hp) (s : List Int) (s_v0 : Value) (hs_0 : SL H 1 RInt s_v0 s) (f_ : Int → Option Bool) (f__k : Nat) (f__c : List Value) (f__e : Ent Try.prog f__k) (f__h : ∀ H', HSub H H' → ∀ (a0_ : Int) (y : Bool), f_ a0_ = some y → SC Try.prog f__k ([.int .i64 a0_] ++ f__c) (.bool y) H') (y : Int) (hF : F_slices_IndexFunc___int_int_ n s f_ = some y) : SC Try.prog 178 [s_v0, .func (.func f__k) #[] f__c.toArray] (.int .i64 y) H := by
  rw [F_slices_IndexFunc___int_int_] at hF
  refine SC.of (N := 19) Try.func178 rfl rfl rfl fun w => ?_
  refine JC.seq ?_
  refine JC.region (by rfl) ?_
  intro hQ
  refine JL.assign .none rfl ?_
  refine JL.done hQ ?_
  refine JQ.go ?_
  refine JC.seq ?_
  refine JC.seq ?_
  refine JC.region (by rfl) ?_
  intro hQ
  refine JL.move .none rfl ?_
  refine JL.lenSL (R := RInt) ul_23 hs_0 .none rfl ?_
  refine JL.move .none rfl ?_
  refine JL.done hQ ?_
  refine JQ.go ?_
  obtain ⟨r34, hlr34, hKr34⟩ := bind_some hF
  refine JC.join (fun (_ : Unit) H33 f bs gs => bs = [] ∧ gs = [] ∧ HSub H H33 ∧ Sum.inr () = r34) ?_ ?_
  · skip
    refine JC.block ?_
    refine JC.loop hlr34 (fun (x_55 : Int) H56 f bs gs => f 0 = s_v0 ∧ f 1 = .func (.func f__k) #[] f__c.toArray ∧ f 7 = .int .i64 (s.length : Int) ∧ f 8 = .int .i64 x_55 ∧ bs = [] ∧ gs = [] ∧ HSub H H56) ⟨rfl, rfl, rfl, rfl, rfl, rfl, (HSub.refl _)⟩ ?_
    rintro x_55 x58 H56 f bs gs ⟨hf0, hf1, hf7, hf8, rfl, rfl, hs56⟩ hF hr57
    rw [F_slices_IndexFunc___int_int__s1] at hF
    refine (JC.norm (i := 0) hf0 (JC.norm (i := 1) hf1 (JC.norm (i := 7) hf7 (JC.norm (i := 8) hf8 ?_))))
    refine JC.seq ?_
    refine JC.region (by rfl) ?_
    intro hQ
    refine JL.bin rfl rfl rfl .none rfl ?_
    refine JL.done hQ ?_
    refine JQ.go ?_
    refine JC.seq ?_
    rcases ite_some hF with ⟨hc59, hF⟩ | ⟨hc59, hF⟩
    · refine JC.cond_t (b := decide (x_55 < (s.length : Int))) rfl hc59 ?_
      refine JC.skip ?_
      refine JQ.go ?_
      refine JC.seq ?_
      refine JC.block ?_
      refine JC.seq ?_
      refine JC.region (by rfl) ?_
      intro hQ
      refine JL.move .none rfl ?_
      refine JL.assign .none rfl ?_
      refine JL.done hQ ?_
      refine JQ.go ?_
      refine JC.seq ?_
      refine JC.region (by rfl) ?_
      intro hQ
      refine JL.move .none rfl ?_
      refine JL.move .none rfl ?_
      refine JL.move .none rfl ?_
      obtain ⟨y60, hy60, hF⟩ := bind_some hF
      refine JL.indexSL (R := RInt) sl_23 (SL.mono RInt.mono hs56 hs_0) rfl hy60 .none rfl ?_
      rintro b61 o62 cs63 hc64 - rfl
      refine JL.loadH 0 az_3 rfl hc64 rfl .none rfl ?_
      obtain ⟨y65, hy65, hF⟩ := bind_some hF
      refine JL.callV rfl (f__h H56 hs56 y60 y65 hy65) rfl f__e .none rfl ?_
      refine JL.done hQ ?_
      refine JQ.go ?_
      rcases ite_some hF with ⟨hc66, hF⟩ | ⟨hc66, hF⟩
      · refine JC.cond_t (b := y65) rfl hc66 ?_
        refine JC.seq ?_
        refine JC.region (by rfl) ?_
        intro hQ
        refine JL.move .none rfl ?_
        refine JL.assign .none rfl ?_
        refine JL.done hQ ?_
        refine JQ.go ?_
        refine JC.fresh (fun f => f 4 = .int .i64 x_55) rfl ?_
        rintro f hf4
        refine (JC.norm (i := 4) hf4 ?_)
        refine JC.ret ?_
        refine JQ.ret_block ?_
        refine JQ.ret_then ?_
        refine JQ.ret_then ?_
        refine JQ.ret_block ?_
        refine JQ.ret_join ?_
        refine JQ.ret_then ?_
        obtain rfl := Option.some.inj hF
        have ehr57 := hr57 _ rfl
        subst ehr57
        have hF := hKr34
        try dsimp only at hF
        obtain rfl := Option.some.inj hF
        exact JQ.outS rfl (.tmp .nil) rfl
      · refine JC.cond_f (b := y65) rfl hc66 ?_
        refine JC.skip ?_
        refine JQ.normal_block ?_
        refine JQ.go ?_
        refine JC.region (by rfl) ?_
        intro hQ
        refine JL.bin rfl rfl rfl .none rfl ?_
        refine JL.move .none rfl ?_
        refine JL.done hQ ?_
        obtain rfl := Option.some.inj hF
        exact JQ.next rfl ⟨rfl, rfl, rfl, rfl, rfl, rfl, hs56⟩
    · refine JC.cond_f (b := decide (x_55 < (s.length : Int))) rfl hc59 ?_
      refine JC.exit ?_
      refine JQ.exit_then ?_
      refine JQ.exit_then ?_
      refine JQ.exit_block ?_
      obtain rfl := Option.some.inj hF
      have ehr57 := hr57 _ rfl
      subst ehr57
      exact JQ.join () ⟨rfl, rfl, hs56, rfl⟩
  · rintro _ H33 f bs gs ⟨rfl, rfl, hs33, rfl⟩
    have hF := hKr34
    try dsimp only at hF
    refine JQ.go ?_
    refine JC.seq ?_
    refine JC.region (by rfl) ?_
    intro hQ
    refine JL.assign .none rfl ?_
    refine JL.done hQ ?_
    refine JQ.go ?_
    refine JC.ret ?_
    obtain rfl := Option.some.inj hF
    exact JQ.outS rfl (.tmp .nil) rfl

-- 140 slices.ContainsFunc[[]int,int]
def F_slices_ContainsFunc___int_int_ (n : Nat) (s : List Int) (f_ : Int → Option Bool) : Option Bool :=
  (F_slices_IndexFunc___int_int_ n s f_).bind fun y1 => some (decide (0 ≤ y1))
set_option maxRecDepth 100000 in
set_option maxHeartbeats 40000000 in
theorem c_slices_ContainsFunc___int_int_ (n : Nat) (H : Hp) (s : List Int) (s_v0 : Value) (hs_0 : SL H 1 RInt s_v0 s) (f_ : Int → Option Bool) (f__k : Nat) (f__c : List Value) (f__e : Ent Try.prog f__k) (f__h : ∀ H', HSub H H' → ∀ (a0_ : Int) (y : Bool), f_ a0_ = some y → SC Try.prog f__k ([.int .i64 a0_] ++ f__c) (.bool y) H') (y : Bool) (hF : F_slices_ContainsFunc___int_int_ n s f_ = some y) : SC Try.prog 140 [s_v0, .func (.func f__k) #[] f__c.toArray] (.bool y) H := by
  rw [F_slices_ContainsFunc___int_int_] at hF
  refine SC.of (N := 9) Try.func140 rfl rfl rfl fun w => ?_
  refine JC.seq ?_
  refine JC.region (by rfl) ?_
  intro hQ
  refine JL.assign .none rfl ?_
  refine JL.done hQ ?_
  refine JQ.go ?_
  refine JC.seq ?_
  refine JC.region (by rfl) ?_
  intro hQ
  refine JL.move .none rfl ?_
  refine JL.move .none rfl ?_
  obtain ⟨y1, hy1, hF⟩ := bind_some hF
  refine JL.callS (c_slices_IndexFunc___int_int_ n H s s_v0 hs_0 f_ f__k f__c f__e (fun H' hs' => f__h H' hs') y1 hy1) rfl en_178 .none rfl ?_
  refine JL.bin rfl rfl rfl .none rfl ?_
  refine JL.assign .none rfl ?_
  refine JL.done hQ ?_
  refine JQ.go ?_
  refine JC.ret ?_
  obtain rfl := Option.some.inj hF
  exact JQ.outS rfl (.tmp .nil) rfl

-- 84 ferrule/gusts.Check
def F_gusts_Check (n : Nat) (d : Canopy) : Option Int :=
  (F_frames_Check n d.Frame).bind fun y2 => (if (y2 != 0) = true then (some true) else ((F_gusts_within n (d.Ribs.length : Int) 3 10).bind fun y7 => some (!y7)) : Option Bool).bind fun p4 => (if (p4 || ((d.Shares.length : Int) != (d.Ribs.length : Int))) = true then (some true) else ((F_slices_ContainsFunc___api_Span_api_Span_ n d.Ribs (fun a0_ => F_gusts_Check_1 n a0_)).bind fun y14 => some y14) : Option Bool).bind fun p11 => (if p11 = true then (some true) else ((F_slices_ContainsFunc___int_int_ n d.Shares (fun a0_ => F_gusts_Check_2 n a0_)).bind fun y19 => some y19) : Option Bool).bind fun p16 => if p16 = true then (some 50) else (some 0)
set_option maxRecDepth 100000 in
set_option maxHeartbeats 40000000 in
theorem c_gusts_Check (n : Nat) (H : Hp) (d : Canopy) (d_v0 : Value) (hd_0 : SL H 7 R_Section d_v0 d.Frame.Sections) (d_v7 : Value) (hd_7 : SL H 2 R_Span d_v7 d.Ribs) (d_v8 : Value) (hd_8 : SL H 1 RInt d_v8 d.Shares) (y : Int) (hF : F_gusts_Check n d = some y) : SC Try.prog 84 [.agg [d_v0, .int .i64 d.Frame.Low, .int .i64 d.Frame.High, .int .i64 d.Frame.Ease.Num, .int .i64 d.Frame.Ease.Den, .int .i64 d.Frame.Rod, .int .i64 d.Frame.Case, d_v7, d_v8].toArray] (.int .i64 y) H := by
  rw [F_gusts_Check] at hF
  refine SC.of (N := 37) Try.func84 rfl rfl rfl fun w => ?_
  refine JC.seq ?_
  refine JC.region (by rfl) ?_
  intro hQ
  refine JL.box (cs := [d_v0, .int .i64 d.Frame.Low, .int .i64 d.Frame.High, .int .i64 d.Frame.Ease.Num, .int .i64 d.Frame.Ease.Den, .int .i64 d.Frame.Rod, .int .i64 d.Frame.Case, d_v7, d_v8]) rfl .none rfl ?_
  intro b1
  refine JL.assign .none rfl ?_
  refine JL.done hQ ?_
  refine JQ.go ?_
  refine JC.seq ?_
  refine JC.region (by rfl) ?_
  intro hQ
  refine JL.assign .none rfl ?_
  refine JL.done hQ ?_
  refine JQ.go ?_
  refine JC.seq ?_
  refine JC.region (by rfl) ?_
  intro hQ
  refine JL.assign .none rfl ?_
  refine JL.done hQ ?_
  refine JQ.go ?_
  refine JC.seq ?_
  refine JC.seq ?_
  refine JC.region (by rfl) ?_
  intro hQ
  refine JL.fieldAddr fo_76_0 rfl .none rfl ?_
  refine JL.loadOwn 0 az_53 rfl rfl rfl .none rfl ?_
  obtain ⟨y2, hy2, hF⟩ := bind_some hF
  refine JL.callS (c_frames_Check n H d.Frame d_v0 hd_0 y2 hy2) rfl en_79 .none rfl ?_
  refine JL.bin rfl rfl rfl .none rfl ?_
  refine JL.move .none rfl ?_
  obtain ⟨p4, hp4, hF⟩ := bind_some hF
  refine JL.cut 6 (fun f => f 1 = .pointer (some ⟨b1, 0, none⟩) ∧ f 3 = .func (.func 136) #[] [].toArray ∧ f 4 = .func (.func 138) #[] [].toArray ∧ f 15 = .bool p4) ?_ ?_
  · intro hJ5
    rcases ite_some hp4 with ⟨hc6, hF⟩ | ⟨hc6, hF⟩
    · skip
      refine JL.skip (.bool rfl rfl rfl hc6) rfl ?_
      refine JL.skip (.bool rfl rfl rfl hc6) rfl ?_
      refine JL.skip (.bool rfl rfl rfl hc6) rfl ?_
      refine JL.skip (.bool rfl rfl rfl hc6) rfl ?_
      refine JL.skip (.bool rfl rfl rfl hc6) rfl ?_
      refine JL.pick_t (b := (y2 != 0)) rfl hc6 .none rfl ?_
      obtain rfl := Option.some.inj hF
      exact hJ5 _ ⟨rfl, rfl, rfl, rfl⟩
    · skip
      refine JL.fieldAddr fo_76_1 rfl (.some rfl rfl rfl hc6) rfl ?_
      refine JL.loadOwn 0 az_24 rfl rfl rfl (.some rfl rfl rfl hc6) rfl ?_
      refine JL.lenSL (R := R_Span) ul_24 hd_7 (.some rfl rfl rfl hc6) rfl ?_
      obtain ⟨y7, hy7, hF⟩ := bind_some hF
      refine JL.callS (c_gusts_within n H (d.Ribs.length : Int) 3 10 y7 hy7) rfl en_137 (.some rfl rfl rfl hc6) rfl ?_
      refine JL.not rfl (.some rfl rfl rfl hc6) rfl ?_
      refine JL.pick_f (b := (y2 != 0)) rfl hc6 .none rfl ?_
      obtain rfl := Option.some.inj hF
      exact hJ5 _ ⟨rfl, rfl, rfl, rfl⟩
  · rintro f ⟨hf1, hf3, hf4, hf15⟩
    refine (JL.norm (i := 1) hf1 (JL.norm (i := 3) hf3 (JL.norm (i := 4) hf4 (JL.norm (i := 15) hf15 ?_))))
    refine JL.move .none rfl ?_
    refine JL.cut 8 (fun f => f 1 = .pointer (some ⟨b1, 0, none⟩) ∧ f 3 = .func (.func 136) #[] [].toArray ∧ f 4 = .func (.func 138) #[] [].toArray ∧ f 24 = .bool (p4 || ((d.Shares.length : Int) != (d.Ribs.length : Int)))) ?_ ?_
    · intro hJ8
      rcases bcases p4 with hc9 | hc9
      · skip
        refine JL.skip (.bool rfl rfl rfl hc9) rfl ?_
        refine JL.skip (.bool rfl rfl rfl hc9) rfl ?_
        refine JL.skip (.bool rfl rfl rfl hc9) rfl ?_
        refine JL.skip (.bool rfl rfl rfl hc9) rfl ?_
        refine JL.skip (.bool rfl rfl rfl hc9) rfl ?_
        refine JL.skip (.bool rfl rfl rfl hc9) rfl ?_
        refine JL.skip (.bool rfl rfl rfl hc9) rfl ?_
        refine JL.pick_t (b := p4) rfl hc9 .none rfl ?_
        exact hJ8 _ ⟨rfl, rfl, rfl, or_t hc9 rfl⟩
      · skip
        refine JL.fieldAddr fo_76_2 rfl (.some rfl rfl rfl hc9) rfl ?_
        refine JL.loadOwn 0 az_23 rfl rfl rfl (.some rfl rfl rfl hc9) rfl ?_
        refine JL.lenSL (R := RInt) ul_23 hd_8 (.some rfl rfl rfl hc9) rfl ?_
        refine JL.fieldAddr fo_76_1 rfl (.some rfl rfl rfl hc9) rfl ?_
        refine JL.loadOwn 0 az_24 rfl rfl rfl (.some rfl rfl rfl hc9) rfl ?_
        refine JL.lenSL (R := R_Span) ul_24 hd_7 (.some rfl rfl rfl hc9) rfl ?_
        refine JL.bin rfl rfl rfl (.some rfl rfl rfl hc9) rfl ?_
        refine JL.pick_f (b := p4) rfl hc9 .none rfl ?_
        exact hJ8 _ ⟨rfl, rfl, rfl, or_f hc9 rfl⟩
    · rintro f ⟨hf1, hf3, hf4, hf24⟩
      refine (JL.norm (i := 1) hf1 (JL.norm (i := 3) hf3 (JL.norm (i := 4) hf4 (JL.norm (i := 24) hf24 ?_))))
      refine JL.move .none rfl ?_
      obtain ⟨p11, hp11, hF⟩ := bind_some hF
      refine JL.cut 5 (fun f => f 1 = .pointer (some ⟨b1, 0, none⟩) ∧ f 4 = .func (.func 138) #[] [].toArray ∧ f 30 = .bool p11) ?_ ?_
      · intro hJ12
        rcases ite_some hp11 with ⟨hc13, hF⟩ | ⟨hc13, hF⟩
        · skip
          refine JL.skip (.bool rfl rfl rfl hc13) rfl ?_
          refine JL.skip (.bool rfl rfl rfl hc13) rfl ?_
          refine JL.skip (.bool rfl rfl rfl hc13) rfl ?_
          refine JL.skip (.bool rfl rfl rfl hc13) rfl ?_
          refine JL.pick_t (b := (p4 || ((d.Shares.length : Int) != (d.Ribs.length : Int)))) rfl hc13 .none rfl ?_
          obtain rfl := Option.some.inj hF
          exact hJ12 _ ⟨rfl, rfl, rfl⟩
        · skip
          refine JL.fieldAddr fo_76_1 rfl (.some rfl rfl rfl hc13) rfl ?_
          refine JL.loadOwn 0 az_24 rfl rfl rfl (.some rfl rfl rfl hc13) rfl ?_
          refine JL.move (.some rfl rfl rfl hc13) rfl ?_
          obtain ⟨y14, hy14, hF⟩ := bind_some hF
          refine JL.callS (c_slices_ContainsFunc___api_Span_api_Span_ n H d.Ribs d_v7 hd_7 (fun a0_ => F_gusts_Check_1 n a0_) 136 [] en_136 (fun H' hs' a0_ y' hy' => c_gusts_Check_1 n H' a0_ y' hy') y14 hy14) rfl en_139 (.some rfl rfl rfl hc13) rfl ?_
          refine JL.pick_f (b := (p4 || ((d.Shares.length : Int) != (d.Ribs.length : Int)))) rfl hc13 .none rfl ?_
          obtain rfl := Option.some.inj hF
          exact hJ12 _ ⟨rfl, rfl, rfl⟩
      · rintro f ⟨hf1, hf4, hf30⟩
        refine (JL.norm (i := 1) hf1 (JL.norm (i := 4) hf4 (JL.norm (i := 30) hf30 ?_)))
        refine JL.move .none rfl ?_
        obtain ⟨p16, hp16, hF⟩ := bind_some hF
        refine JL.cut 5 (fun f => f 36 = .bool p16) ?_ ?_
        · intro hJ17
          rcases ite_some hp16 with ⟨hc18, hF⟩ | ⟨hc18, hF⟩
          · skip
            refine JL.skip (.bool rfl rfl rfl hc18) rfl ?_
            refine JL.skip (.bool rfl rfl rfl hc18) rfl ?_
            refine JL.skip (.bool rfl rfl rfl hc18) rfl ?_
            refine JL.skip (.bool rfl rfl rfl hc18) rfl ?_
            refine JL.pick_t (b := p11) rfl hc18 .none rfl ?_
            obtain rfl := Option.some.inj hF
            exact hJ17 _ (rfl)
          · skip
            refine JL.fieldAddr fo_76_2 rfl (.some rfl rfl rfl hc18) rfl ?_
            refine JL.loadOwn 0 az_23 rfl rfl rfl (.some rfl rfl rfl hc18) rfl ?_
            refine JL.move (.some rfl rfl rfl hc18) rfl ?_
            obtain ⟨y19, hy19, hF⟩ := bind_some hF
            refine JL.callS (c_slices_ContainsFunc___int_int_ n H d.Shares d_v8 hd_8 (fun a0_ => F_gusts_Check_2 n a0_) 138 [] en_138 (fun H' hs' a0_ y' hy' => c_gusts_Check_2 n H' a0_ y' hy') y19 hy19) rfl en_140 (.some rfl rfl rfl hc18) rfl ?_
            refine JL.pick_f (b := p11) rfl hc18 .none rfl ?_
            obtain rfl := Option.some.inj hF
            exact hJ17 _ (rfl)
        · rintro f hf36
          refine (JL.norm (i := 36) hf36 ?_)
          refine JL.done hQ ?_
          refine JQ.go ?_
          rcases ite_some hF with ⟨hc20, hF⟩ | ⟨hc20, hF⟩
          · refine JC.cond_t (b := p16) rfl hc20 ?_
            refine JC.seq ?_
            refine JC.region (by rfl) ?_
            intro hQ
            refine JL.assign .none rfl ?_
            refine JL.done hQ ?_
            refine JQ.go ?_
            refine JC.ret ?_
            refine JQ.ret_then ?_
            obtain rfl := Option.some.inj hF
            exact JQ.outS rfl (.tmp .nil) rfl
          · refine JC.cond_f (b := p16) rfl hc20 ?_
            refine JC.skip ?_
            refine JQ.go ?_
            refine JC.seq ?_
            refine JC.region (by rfl) ?_
            intro hQ
            refine JL.assign .none rfl ?_
            refine JL.done hQ ?_
            refine JQ.go ?_
            refine JC.ret ?_
            obtain rfl := Option.some.inj hF
            exact JQ.outS rfl (.tmp .nil) rfl

-- 73 ferrule/frames.ask
def F_frames_ask (n : Nat) (f_ : Frame) (section_ : Int) (r : Int) : Option Int :=
  (F_frames_Check n f_).bind fun y2 => if (y2 != 0) = true then (some y2) else ((F_frames_within n section_ 0 (w64 ((f_.Sections.length : Int) - 1))).bind fun y4 => (if (!y4) = true then (some true) else ((F_frames_within n r f_.Low f_.High).bind fun y9 => some (!y9)) : Option Bool).bind fun p6 => if p6 = true then (some 1) else (some 0))
set_option maxRecDepth 100000 in
set_option maxHeartbeats 40000000 in
theorem c_frames_ask (n : Nat) (H : Hp) (f_ : Frame) (f__v0 : Value) (hf__0 : SL H 7 R_Section f__v0 f_.Sections) (section_ : Int) (r : Int) (y : Int) (hF : F_frames_ask n f_ section_ r = some y) : SC Try.prog 73 [.agg [f__v0, .int .i64 f_.Low, .int .i64 f_.High, .int .i64 f_.Ease.Num, .int .i64 f_.Ease.Den, .int .i64 f_.Rod, .int .i64 f_.Case].toArray, .int .i64 section_, .int .i64 r] (.int .i64 y) H := by
  rw [F_frames_ask] at hF
  refine SC.of (N := 29) Try.func73 rfl rfl rfl fun w => ?_
  refine JC.seq ?_
  refine JC.region (by rfl) ?_
  intro hQ
  refine JL.box (cs := [f__v0, .int .i64 f_.Low, .int .i64 f_.High, .int .i64 f_.Ease.Num, .int .i64 f_.Ease.Den, .int .i64 f_.Rod, .int .i64 f_.Case]) rfl .none rfl ?_
  intro b1
  refine JL.assign .none rfl ?_
  refine JL.done hQ ?_
  refine JQ.go ?_
  refine JC.seq ?_
  refine JC.seq ?_
  refine JC.region (by rfl) ?_
  intro hQ
  refine JL.loadOwn 0 az_53 rfl rfl rfl .none rfl ?_
  obtain ⟨y2, hy2, hF⟩ := bind_some hF
  refine JL.callS (c_frames_Check n H f_ f__v0 hf__0 y2 hy2) rfl en_79 .none rfl ?_
  refine JL.assign .none rfl ?_
  refine JL.done hQ ?_
  refine JQ.go ?_
  refine JC.seq ?_
  refine JC.region (by rfl) ?_
  intro hQ
  refine JL.move .none rfl ?_
  refine JL.bin rfl rfl rfl .none rfl ?_
  refine JL.done hQ ?_
  refine JQ.go ?_
  rcases ite_some hF with ⟨hc3, hF⟩ | ⟨hc3, hF⟩
  · refine JC.cond_t (b := (y2 != 0)) rfl hc3 ?_
    refine JC.seq ?_
    refine JC.region (by rfl) ?_
    intro hQ
    refine JL.move .none rfl ?_
    refine JL.assign .none rfl ?_
    refine JL.done hQ ?_
    refine JQ.go ?_
    refine JC.ret ?_
    refine JQ.ret_then ?_
    obtain rfl := Option.some.inj hF
    exact JQ.outS rfl (.tmp .nil) rfl
  · refine JC.cond_f (b := (y2 != 0)) rfl hc3 ?_
    refine JC.skip ?_
    refine JQ.go ?_
    refine JC.seq ?_
    refine JC.seq ?_
    refine JC.region (by rfl) ?_
    intro hQ
    refine JL.move .none rfl ?_
    refine JL.fieldAddr fo_53_0 rfl .none rfl ?_
    refine JL.loadOwn 0 az_49 rfl rfl rfl .none rfl ?_
    refine JL.lenSL (R := R_Section) ul_49 hf__0 .none rfl ?_
    refine JL.bin rfl rfl rfl .none rfl ?_
    obtain ⟨y4, hy4, hF⟩ := bind_some hF
    refine JL.callS (c_frames_within n H section_ 0 (w64 ((f_.Sections.length : Int) - 1)) y4 hy4) rfl en_124 .none rfl ?_
    refine JL.not rfl .none rfl ?_
    refine JL.move .none rfl ?_
    obtain ⟨p6, hp6, hF⟩ := bind_some hF
    refine JL.cut 8 (fun f => f 28 = .bool p6) ?_ ?_
    · intro hJ7
      rcases ite_some hp6 with ⟨hc8, hF⟩ | ⟨hc8, hF⟩
      · skip
        refine JL.skip (.bool rfl rfl rfl hc8) rfl ?_
        refine JL.skip (.bool rfl rfl rfl hc8) rfl ?_
        refine JL.skip (.bool rfl rfl rfl hc8) rfl ?_
        refine JL.skip (.bool rfl rfl rfl hc8) rfl ?_
        refine JL.skip (.bool rfl rfl rfl hc8) rfl ?_
        refine JL.skip (.bool rfl rfl rfl hc8) rfl ?_
        refine JL.skip (.bool rfl rfl rfl hc8) rfl ?_
        refine JL.pick_t (b := (!y4)) rfl hc8 .none rfl ?_
        obtain rfl := Option.some.inj hF
        exact hJ7 _ (rfl)
      · skip
        refine JL.move (.some rfl rfl rfl hc8) rfl ?_
        refine JL.fieldAddr fo_53_1 rfl (.some rfl rfl rfl hc8) rfl ?_
        refine JL.loadOwn 0 az_3 rfl rfl rfl (.some rfl rfl rfl hc8) rfl ?_
        refine JL.fieldAddr fo_53_2 rfl (.some rfl rfl rfl hc8) rfl ?_
        refine JL.loadOwn 0 az_3 rfl rfl rfl (.some rfl rfl rfl hc8) rfl ?_
        obtain ⟨y9, hy9, hF⟩ := bind_some hF
        refine JL.callS (c_frames_within n H r f_.Low f_.High y9 hy9) rfl en_124 (.some rfl rfl rfl hc8) rfl ?_
        refine JL.not rfl (.some rfl rfl rfl hc8) rfl ?_
        refine JL.pick_f (b := (!y4)) rfl hc8 .none rfl ?_
        obtain rfl := Option.some.inj hF
        exact hJ7 _ (rfl)
    · rintro f hf28
      refine (JL.norm (i := 28) hf28 ?_)
      refine JL.done hQ ?_
      refine JQ.go ?_
      rcases ite_some hF with ⟨hc10, hF⟩ | ⟨hc10, hF⟩
      · refine JC.cond_t (b := p6) rfl hc10 ?_
        refine JC.seq ?_
        refine JC.region (by rfl) ?_
        intro hQ
        refine JL.assign .none rfl ?_
        refine JL.done hQ ?_
        refine JQ.go ?_
        refine JC.ret ?_
        refine JQ.ret_then ?_
        obtain rfl := Option.some.inj hF
        exact JQ.outS rfl (.tmp .nil) rfl
      · refine JC.cond_f (b := p6) rfl hc10 ?_
        refine JC.skip ?_
        refine JQ.go ?_
        refine JC.seq ?_
        refine JC.region (by rfl) ?_
        intro hQ
        refine JL.assign .none rfl ?_
        refine JL.done hQ ?_
        refine JQ.go ?_
        refine JC.ret ?_
        obtain rfl := Option.some.inj hF
        exact JQ.outS rfl (.tmp .nil) rfl

-- 78 ferrule/frames.reduced
def F_frames_reduced_s1 (n : Nat)  : Int × Int → Option ((Int × Int) ⊕ Int)
  | (a_38, b_39) => if (b_39 != 0) = true then ((nz b_39).bind fun _ => some (Sum.inl (b_39, (a_38.tmod b_39)))) else (some (Sum.inr a_38))
def F_frames_reduced (n : Nat) (f_ : Frac) : Option Frac :=
  (loopO n (F_frames_reduced_s1 n) ((max f_.Num (w64 (-f_.Num))), f_.Den)).bind fun a_23 => (nz a_23).bind fun _ => (nz a_23).bind fun _ => some (Frac.mk (w64 (f_.Num.tdiv a_23)) (w64 (f_.Den.tdiv a_23)))
set_option maxRecDepth 100000 in
set_option maxHeartbeats 40000000 in
theorem c_frames_reduced (n : Nat) (H : Hp) (f_ : Frac) (y : Frac) (hF : F_frames_reduced n f_ = some y) : SC Try.prog 78 [.agg [.int .i64 f_.Num, .int .i64 f_.Den].toArray] (.agg [.int .i64 y.Num, .int .i64 y.Den].toArray) H := by
  rw [F_frames_reduced] at hF
  refine SC.of (N := 28) Try.func78 rfl rfl rfl fun w => ?_
  refine JC.seq ?_
  refine JC.region (by rfl) ?_
  intro hQ
  refine JL.box (cs := [.int .i64 f_.Num, .int .i64 f_.Den]) rfl .none rfl ?_
  intro b1
  refine JL.alloc ze_51 .none rfl ?_
  intro b2
  refine JL.done hQ ?_
  refine JQ.go ?_
  refine JC.seq ?_
  refine JC.draw (by rfl) mo_ (by kernel_rfl) ?_
  intro hQ
  refine JL.fieldAddr fo_51_0 rfl .none rfl ?_
  refine JL.loadOwn 1 az_3 rfl rfl rfl .none rfl ?_
  refine JL.fieldAddr fo_51_0 rfl .none rfl ?_
  refine JL.loadOwn 1 az_3 rfl rfl rfl .none rfl ?_
  refine JL.neg rfl .none rfl ?_
  refine JL.max rfl rfl .none rfl ?_
  refine JL.fieldAddr fo_51_1 rfl .none rfl ?_
  refine JL.loadOwn 1 az_3 rfl rfl rfl .none rfl ?_
  refine JL.assign .none rfl ?_
  refine JL.assign .none rfl ?_
  refine JL.doneQ hQ ?_
  refine JQ.go ?_
  refine JC.seq ?_
  obtain ⟨r25, hlr25, hKr25⟩ := bind_some hF
  refine JC.join (fun (a_23 : Int) H24 f bs gs => f 1 = .pointer (some ⟨b1, 0, none⟩) ∧ f 2 = .pointer (some ⟨b2, 0, none⟩) ∧ f 3 = .int .i64 a_23 ∧ bs = [(b2, .cells [.int .i64 0, .int .i64 0].toArray 51), (b1, .cells [.int .i64 f_.Num, .int .i64 f_.Den].toArray 51)] ∧ gs = [] ∧ HSub H H24 ∧ a_23 = r25) ?_ ?_
  · skip
    refine JC.block ?_
    refine JC.loop hlr25 (fun (x : Int × Int) H40 f bs gs => match x with | (a_38, b_39) => f 1 = .pointer (some ⟨b1, 0, none⟩) ∧ f 2 = .pointer (some ⟨b2, 0, none⟩) ∧ f 3 = .int .i64 a_38 ∧ f 4 = .int .i64 b_39 ∧ bs = [(b2, .cells [.int .i64 0, .int .i64 0].toArray 51), (b1, .cells [.int .i64 f_.Num, .int .i64 f_.Den].toArray 51)] ∧ gs = [] ∧ HSub H H40) ⟨rfl, rfl, rfl, rfl, rfl, rfl, (HSub.refl _)⟩ ?_
    rintro ⟨a_38, b_39⟩ x42 H40 f bs gs ⟨hf1, hf2, hf3, hf4, rfl, rfl, hs40⟩ hF hr41
    rw [F_frames_reduced_s1] at hF
    refine (JC.norm (i := 1) hf1 (JC.norm (i := 2) hf2 (JC.norm (i := 3) hf3 (JC.norm (i := 4) hf4 ?_))))
    refine JC.seq ?_
    refine JC.seq ?_
    refine JC.region (by rfl) ?_
    intro hQ
    refine JL.move .none rfl ?_
    refine JL.bin rfl rfl rfl .none rfl ?_
    refine JL.done hQ ?_
    refine JQ.go ?_
    rcases ite_some hF with ⟨hc43, hF⟩ | ⟨hc43, hF⟩
    · refine JC.cond_t (b := (b_39 != 0)) rfl hc43 ?_
      refine JC.skip ?_
      refine JQ.go ?_
      refine JC.block ?_
      refine JC.draw (by rfl) mo_ (by kernel_rfl) ?_
      intro hQ
      refine JL.move .none rfl ?_
      refine JL.move .none rfl ?_
      refine JL.move .none rfl ?_
      obtain ⟨u45, hu45, hF⟩ := bind_some hF
      refine JL.div rfl rfl (nz_some hu45) rfl .none rfl ?_
      refine JL.assign .none rfl ?_
      refine JL.assign .none rfl ?_
      refine JL.doneQ hQ ?_
      refine JQ.normal_block ?_
      obtain rfl := Option.some.inj hF
      exact JQ.next rfl ⟨rfl, rfl, rfl, rfl, rfl, rfl, hs40⟩
    · refine JC.cond_f (b := (b_39 != 0)) rfl hc43 ?_
      refine JC.exit ?_
      refine JQ.exit_then ?_
      refine JQ.exit_then ?_
      refine JQ.exit_block ?_
      obtain rfl := Option.some.inj hF
      have ehr41 := hr41 _ rfl
      subst ehr41
      exact JQ.join a_38 ⟨rfl, rfl, rfl, rfl, rfl, hs40, rfl⟩
  · rintro a_23 H24 f bs gs ⟨hf1, hf2, hf3, rfl, rfl, hs24, rfl⟩
    have hF := hKr25
    try dsimp only at hF
    refine (JQ.norm (i := 1) hf1 (JQ.norm (i := 2) hf2 (JQ.norm (i := 3) hf3 ?_)))
    refine JQ.go ?_
    refine JC.seq ?_
    obtain ⟨u48, hu48, hF⟩ := bind_some hF
    obtain ⟨u49, hu49, hF⟩ := bind_some hF
    refine JC.mixed 9 10 #[false, false, false, false, false, false, false, false, false, false] [(b2, .cells [.int .i64 0, .int .i64 0].toArray 51), (b1, .cells [.int .i64 f_.Num, .int .i64 f_.Den].toArray 51)] (by rfl) mo_ (by kernel_rfl) (by kernel_rfl) ?_
    intro hQ hE
    refine JA.take 0 (listed' := #[true, false, false, false, false, false, false, false, false, false]) hQ rfl (by kernel_rfl) (by kernel_rfl) (by kernel_rfl) (by kernel_rfl) (by kernel_rfl) hE (HSub.refl _) (.cons_cons _ (.cons_cons _ (List.nil_sublist _))) ?_
    refine JL.fieldAddr fo_51_0 rfl .none rfl ?_
    refine JA.cont ?_
    refine JA.take 1 (listed' := #[true, true, false, false, false, false, false, false, false, false]) hQ rfl (by kernel_rfl) (by kernel_rfl) (by kernel_rfl) (by kernel_rfl) (by kernel_rfl) hE (HSub.refl _) (.cons_cons _ (.cons_cons _ (List.nil_sublist _))) ?_
    refine JL.loadOwn 1 az_3 rfl rfl rfl .none rfl ?_
    refine JA.cont ?_
    refine JA.take 2 (listed' := #[true, true, true, false, false, false, false, false, false, false]) hQ rfl (by kernel_rfl) (by kernel_rfl) (by kernel_rfl) (by kernel_rfl) (by kernel_rfl) hE (HSub.refl _) (.cons_cons _ (.cons_cons _ (List.nil_sublist _))) ?_
    refine JL.move .none rfl ?_
    refine JA.cont ?_
    refine JA.take 3 (listed' := #[true, true, true, true, false, false, false, false, false, false]) hQ rfl (by kernel_rfl) (by kernel_rfl) (by kernel_rfl) (by kernel_rfl) (by kernel_rfl) hE (HSub.refl _) (.cons_cons _ (.cons_cons _ (List.nil_sublist _))) ?_
    refine JL.div rfl rfl (nz_some hu48) rfl .none rfl ?_
    refine JA.cont ?_
    refine JA.take 4 (listed' := #[true, true, true, true, true, false, false, false, false, false]) hQ rfl (by kernel_rfl) (by kernel_rfl) (by kernel_rfl) (by kernel_rfl) (by kernel_rfl) hE (HSub.refl _) (.cons_cons _ (.cons_cons _ (List.nil_sublist _))) ?_
    refine JL.fieldAddr fo_51_1 rfl .none rfl ?_
    refine JA.cont ?_
    refine JA.take 5 (listed' := #[true, true, true, true, true, true, false, false, false, false]) hQ rfl (by kernel_rfl) (by kernel_rfl) (by kernel_rfl) (by kernel_rfl) (by kernel_rfl) hE (HSub.refl _) (.cons_cons _ (.cons_cons _ (List.nil_sublist _))) ?_
    refine JL.loadOwn 1 az_3 rfl rfl rfl .none rfl ?_
    refine JA.cont ?_
    refine JA.take 6 (listed' := #[true, true, true, true, true, true, true, false, false, false]) hQ rfl (by kernel_rfl) (by kernel_rfl) (by kernel_rfl) (by kernel_rfl) (by kernel_rfl) hE (HSub.refl _) (.cons_cons _ (.cons_cons _ (List.nil_sublist _))) ?_
    refine JL.move .none rfl ?_
    refine JA.cont ?_
    refine JA.take 7 (listed' := #[true, true, true, true, true, true, true, true, false, false]) hQ rfl (by kernel_rfl) (by kernel_rfl) (by kernel_rfl) (by kernel_rfl) (by kernel_rfl) hE (HSub.refl _) (.cons_cons _ (.cons_cons _ (List.nil_sublist _))) ?_
    refine JL.div rfl rfl (nz_some hu49) rfl .none rfl ?_
    refine JA.cont ?_
    refine JA.take 8 (listed' := #[true, true, true, true, true, true, true, true, true, false]) hQ rfl (by kernel_rfl) (by kernel_rfl) (by kernel_rfl) (by kernel_rfl) (by kernel_rfl) hE (HSub.refl _) (.cons_cons _ (.cons_cons _ (List.nil_sublist _))) ?_
    refine JL.build (l := [.int .i64 (w64 (f_.Num.tdiv a_23)), .int .i64 (w64 (f_.Den.tdiv a_23))]) (by kernel_rfl) .none rfl ?_
    refine JA.cont ?_
    refine JA.many [9] (by kernel_rfl) (by simp) (all_one ⟨_, #[true, true, true, true, true, true, true, true, true, true], rfl, (by kernel_rfl), ?_⟩)
    refine JL.storeOwn 0 (cs := [.int .i64 (w64 (f_.Num.tdiv a_23)), .int .i64 (w64 (f_.Den.tdiv a_23))]) az_51 rfl rfl rfl (one_cons rfl (one_cons rfl one_nil)) rfl rfl .none ?_
    refine JA.sink (by kernel_rfl) ?_
    refine JA.done hQ (by kernel_rfl) ?_
    refine JQ.go ?_
    refine JC.ret ?_
    obtain rfl := Option.some.inj hF
    exact JQ.outS rfl (.cell 0 az_51 rfl rfl rfl .nil) rfl

end Go.Proofs.Yteihdclpiekmaaa
