/-
  Printed by a program: functions of the translation as plain functions, and their contracts.
-/
import Derived.Test.YtooankffknoomaaMan
namespace Go.Proofs.Ytooankffknoomaa
open Go Go.RowKit Go.Dec
set_option linter.unusedVariables false
-- 45 ferrule/ferrulelaw11.Example
def F_law11_Example (n : Nat)  : Option Tour :=
  some (Tour.mk 3 2 [(Rain.mk 0 (Span.mk 2 3)), (Rain.mk 1 (Span.mk 0 1)), (Rain.mk 2 (Span.mk 0 0)), (Rain.mk 2 (Span.mk 3 3))] 1 [(Fair.mk 10 [0, 2, 4, 6]), (Fair.mk 20 [0, 1, 2, 3]), (Fair.mk 5 [6, 6, 6, 6])] 1 7)
set_option maxRecDepth 100000 in
set_option maxHeartbeats 40000000 in
theorem c_law11_Example (n : Nat) (H : Hp)  (y : Tour) (hF : F_law11_Example n = some y) : HC Try.prog 45 [] H (fun H' v => ∃ ra_v2 ra_v4 : Value, v = .agg [.int .i64 y.Days, .int .i64 y.Step, ra_v2, .int .i64 y.Wrong, ra_v4, .int .i64 y.Reach, .int .i64 y.Stock].toArray ∧ SL H' 3 R_Rain ra_v2 y.Rains ∧ SL H' 2 R_Fair ra_v4 y.Fairs) := by
  rw [F_law11_Example] at hF
  refine HC.of (N := 17) Try.func45 rfl rfl rfl fun w => ?_
  refine JC.seq ?_
  refine JC.region (by rfl) ?_
  intro hQ
  refine JL.alloc ze_25 .none rfl ?_
  intro b1
  refine JL.done hQ ?_
  refine JQ.go ?_
  refine JC.seq ?_
  refine JC.region (by rfl) ?_
  intro hQ
  refine JL.build (l := [.int .i64 2, .int .i64 3]) (by kernel_rfl) .none rfl ?_
  refine JL.build (l := [.int .i64 0, .int .i64 2, .int .i64 3]) (by kernel_rfl) .none rfl ?_
  refine JL.build (l := [.int .i64 0, .int .i64 1]) (by kernel_rfl) .none rfl ?_
  refine JL.build (l := [.int .i64 1, .int .i64 0, .int .i64 1]) (by kernel_rfl) .none rfl ?_
  refine JL.build (l := [.int .i64 2, .int .i64 0, .int .i64 0]) (by kernel_rfl) .none rfl ?_
  refine JL.build (l := [.int .i64 3, .int .i64 3]) (by kernel_rfl) .none rfl ?_
  refine JL.build (l := [.int .i64 2, .int .i64 3, .int .i64 3]) (by kernel_rfl) .none rfl ?_
  refine JL.buildSlice (e := 37) (l := [.int .i64 0, .int .i64 2, .int .i64 3, .int .i64 1, .int .i64 0, .int .i64 1, .int .i64 2, .int .i64 0, .int .i64 0, .int .i64 2, .int .i64 3, .int .i64 3]) (by kernel_rfl) .none rfl ?_
  intro b2
  refine JL.buildSlice (e := 3) (l := [.int .i64 0, .int .i64 2, .int .i64 4, .int .i64 6]) (by kernel_rfl) .none rfl ?_
  intro b3
  refine JL.build (l := [.int .i64 10, .slice (some ⟨b3, 0, none⟩) 4 4]) (by kernel_rfl) .none rfl ?_
  refine JL.buildSlice (e := 3) (l := [.int .i64 0, .int .i64 1, .int .i64 2, .int .i64 3]) (by kernel_rfl) .none rfl ?_
  intro b4
  refine JL.build (l := [.int .i64 20, .slice (some ⟨b4, 0, none⟩) 4 4]) (by kernel_rfl) .none rfl ?_
  refine JL.buildSlice (e := 3) (l := [.int .i64 6, .int .i64 6, .int .i64 6, .int .i64 6]) (by kernel_rfl) .none rfl ?_
  intro b5
  refine JL.build (l := [.int .i64 5, .slice (some ⟨b5, 0, none⟩) 4 4]) (by kernel_rfl) .none rfl ?_
  refine JL.buildSlice (e := 41) (l := [.int .i64 10, .slice (some ⟨b3, 0, none⟩) 4 4, .int .i64 20, .slice (some ⟨b4, 0, none⟩) 4 4, .int .i64 5, .slice (some ⟨b5, 0, none⟩) 4 4]) (by kernel_rfl) .none rfl ?_
  intro b6
  refine JL.build (l := [.int .i64 3, .int .i64 2, .slice (some ⟨b2, 0, none⟩) 4 4, .int .i64 1, .slice (some ⟨b6, 0, none⟩) 3 3, .int .i64 1, .int .i64 7]) (by kernel_rfl) .none rfl ?_
  refine JL.storeOwn 5 (cs := [.int .i64 3, .int .i64 2, .slice (some ⟨b2, 0, none⟩) 4 4, .int .i64 1, .slice (some ⟨b6, 0, none⟩) 3 3, .int .i64 1, .int .i64 7]) az_25 rfl rfl rfl (one_cons rfl (one_cons rfl (one_cons rfl (one_cons rfl (one_cons rfl (one_cons rfl (one_cons rfl one_nil))))))) rfl rfl .none ?_
  refine JL.done hQ ?_
  refine JQ.go ?_
  refine JC.fresh (fun f => f 0 = .pointer (some ⟨b1, 0, none⟩)) rfl ?_
  rintro f hf0
  refine (JC.norm (i := 0) hf0 ?_)
  refine JC.ret ?_
  refine JQ.freezeC 4 (l := [.int .i64 0, .int .i64 2, .int .i64 3, .int .i64 1, .int .i64 0, .int .i64 1, .int .i64 2, .int .i64 0, .int .i64 0, .int .i64 2, .int .i64 3, .int .i64 3]) rfl ?_
  intro H7 hs7 hc8
  have hg9 : SL H7 3 R_Rain (.slice (some ⟨b2, 0, none⟩) 4 4) [(Rain.mk 0 (Span.mk 2 3)), (Rain.mk 1 (Span.mk 0 1)), (Rain.mk 2 (Span.mk 0 0)), (Rain.mk 2 (Span.mk 3 3))] := CH.sl (l := [(Rain.mk 0 (Span.mk 2 3)), (Rain.mk 1 (Span.mk 0 1)), (Rain.mk 2 (Span.mk 0 0)), (Rain.mk 2 (Span.mk 3 3))]) (CH.cons (cs := [.int .i64 0, .int .i64 2, .int .i64 3]) rfl rfl (CH.cons (cs := [.int .i64 1, .int .i64 0, .int .i64 1]) rfl rfl (CH.cons (cs := [.int .i64 2, .int .i64 0, .int .i64 0]) rfl rfl (CH.cons (cs := [.int .i64 2, .int .i64 3, .int .i64 3]) rfl rfl CH.nil)))) hc8 ⟨by simp, by simp⟩
  refine JQ.freezeC 3 (l := [.int .i64 0, .int .i64 2, .int .i64 4, .int .i64 6]) rfl ?_
  intro H10 hs10 hc11
  have hg12 : SL H10 1 RInt (.slice (some ⟨b3, 0, none⟩) 4 4) [0, 2, 4, 6] := CH.sl (l := [0, 2, 4, 6]) (CH.cons (cs := [.int .i64 0]) rfl rfl (CH.cons (cs := [.int .i64 2]) rfl rfl (CH.cons (cs := [.int .i64 4]) rfl rfl (CH.cons (cs := [.int .i64 6]) rfl rfl CH.nil)))) hc11 ⟨by simp, by simp⟩
  refine JQ.freezeC 2 (l := [.int .i64 0, .int .i64 1, .int .i64 2, .int .i64 3]) rfl ?_
  intro H13 hs13 hc14
  have hg15 : SL H13 1 RInt (.slice (some ⟨b4, 0, none⟩) 4 4) [0, 1, 2, 3] := CH.sl (l := [0, 1, 2, 3]) (CH.cons (cs := [.int .i64 0]) rfl rfl (CH.cons (cs := [.int .i64 1]) rfl rfl (CH.cons (cs := [.int .i64 2]) rfl rfl (CH.cons (cs := [.int .i64 3]) rfl rfl CH.nil)))) hc14 ⟨by simp, by simp⟩
  refine JQ.freezeC 1 (l := [.int .i64 6, .int .i64 6, .int .i64 6, .int .i64 6]) rfl ?_
  intro H16 hs16 hc17
  have hg18 : SL H16 1 RInt (.slice (some ⟨b5, 0, none⟩) 4 4) [6, 6, 6, 6] := CH.sl (l := [6, 6, 6, 6]) (CH.cons (cs := [.int .i64 6]) rfl rfl (CH.cons (cs := [.int .i64 6]) rfl rfl (CH.cons (cs := [.int .i64 6]) rfl rfl (CH.cons (cs := [.int .i64 6]) rfl rfl CH.nil)))) hc17 ⟨by simp, by simp⟩
  refine JQ.freezeC 0 (l := [.int .i64 10, (.slice (some ⟨b3, 0, none⟩) 4 4), .int .i64 20, (.slice (some ⟨b4, 0, none⟩) 4 4), .int .i64 5, (.slice (some ⟨b5, 0, none⟩) 4 4)]) rfl ?_
  intro H19 hs19 hc20
  have hg21 : SL H19 2 R_Fair (.slice (some ⟨b6, 0, none⟩) 3 3) [(Fair.mk 10 [0, 2, 4, 6]), (Fair.mk 20 [0, 1, 2, 3]), (Fair.mk 5 [6, 6, 6, 6])] := CH.sl (l := [(Fair.mk 10 [0, 2, 4, 6]), (Fair.mk 20 [0, 1, 2, 3]), (Fair.mk 5 [6, 6, 6, 6])]) (CH.cons (cs := [.int .i64 10, (.slice (some ⟨b3, 0, none⟩) 4 4)]) rfl ⟨(.slice (some ⟨b3, 0, none⟩) 4 4), rfl, (SL.mono RInt.mono (HSub.trans hs13 (HSub.trans hs16 hs19)) hg12)⟩ (CH.cons (cs := [.int .i64 20, (.slice (some ⟨b4, 0, none⟩) 4 4)]) rfl ⟨(.slice (some ⟨b4, 0, none⟩) 4 4), rfl, (SL.mono RInt.mono (HSub.trans hs16 hs19) hg15)⟩ (CH.cons (cs := [.int .i64 5, (.slice (some ⟨b5, 0, none⟩) 4 4)]) rfl ⟨(.slice (some ⟨b5, 0, none⟩) 4 4), rfl, (SL.mono RInt.mono hs19 hg18)⟩ CH.nil))) hc20 ⟨by simp, by simp⟩
  obtain rfl := Option.some.inj hF
  exact JQ.outH rfl (.cell 0 az_25 rfl rfl rfl .nil) ⟨(.slice (some ⟨b2, 0, none⟩) 4 4), (.slice (some ⟨b6, 0, none⟩) 3 3), rfl, (SL.mono R_Rain_mono (HSub.trans hs10 (HSub.trans hs13 (HSub.trans hs16 hs19))) hg9), hg21⟩

-- 66 ferrule/rains.isRain
def F_rains_isRain (n : Nat) (t : Tour) (r : Rain) : Option Bool :=
  (F_rains_within n r.Day 0 (w64 (t.Days - 1))).bind fun y3 => (if y3 = true then ((F_rains_within n r.Level.Low 0 r.Level.High).bind fun y8 => some y8) else (some false) : Option Bool).bind fun p5 => some (p5 && (decide (r.Level.High ≤ 3)))
set_option maxRecDepth 100000 in
set_option maxHeartbeats 40000000 in
theorem c_rains_isRain (n : Nat) (H : Hp) (t : Tour) (t_v2 : Value) (ht_2 : SL H 3 R_Rain t_v2 t.Rains) (t_v4 : Value) (ht_4 : SL H 2 R_Fair t_v4 t.Fairs) (r : Rain) (y : Bool) (hF : F_rains_isRain n t r = some y) : SC Try.prog 66 [.agg [.int .i64 t.Days, .int .i64 t.Step, t_v2, .int .i64 t.Wrong, t_v4, .int .i64 t.Reach, .int .i64 t.Stock].toArray, .agg [.int .i64 r.Day, .int .i64 r.Level.Low, .int .i64 r.Level.High].toArray] (.bool y) H := by
  rw [F_rains_isRain] at hF
  refine SC.of (N := 26) Try.func66 rfl rfl rfl fun w => ?_
  refine JC.seq ?_
  refine JC.region (by rfl) ?_
  intro hQ
  refine JL.box (cs := [.int .i64 t.Days, .int .i64 t.Step, t_v2, .int .i64 t.Wrong, t_v4, .int .i64 t.Reach, .int .i64 t.Stock]) rfl .none rfl ?_
  intro b1
  refine JL.box (cs := [.int .i64 r.Day, .int .i64 r.Level.Low, .int .i64 r.Level.High]) rfl .none rfl ?_
  intro b2
  refine JL.assign .none rfl ?_
  refine JL.done hQ ?_
  refine JQ.go ?_
  refine JC.seq ?_
  refine JC.region (by rfl) ?_
  intro hQ
  refine JL.fieldAddr fo_37_0 rfl .none rfl ?_
  refine JL.loadOwn 0 az_3 rfl rfl rfl .none rfl ?_
  refine JL.fieldAddr fo_25_0 rfl .none rfl ?_
  refine JL.loadOwn 1 az_3 rfl rfl rfl .none rfl ?_
  refine JL.bin rfl rfl rfl .none rfl ?_
  obtain ⟨y3, hy3, hF⟩ := bind_some hF
  refine JL.callS (c_rains_within n H r.Day 0 (w64 (t.Days - 1)) y3 hy3) rfl en_61 .none rfl ?_
  refine JL.move .none rfl ?_
  obtain ⟨p5, hp5, hF⟩ := bind_some hF
  refine JL.cut 8 (fun f => f 3 = .pointer (some ⟨b2, 0, none⟩) ∧ f 19 = .bool p5) ?_ ?_
  · intro hJ6
    rcases ite_some hp5 with ⟨hc7, hF⟩ | ⟨hc7, hF⟩
    · skip
      refine JL.fieldAddr fo_37_1 rfl (.some rfl rfl rfl hc7) rfl ?_
      refine JL.fieldAddr fo_31_0 rfl (.some rfl rfl rfl hc7) rfl ?_
      refine JL.loadOwn 0 az_3 rfl rfl rfl (.some rfl rfl rfl hc7) rfl ?_
      refine JL.fieldAddr fo_37_1 rfl (.some rfl rfl rfl hc7) rfl ?_
      refine JL.fieldAddr fo_31_1 rfl (.some rfl rfl rfl hc7) rfl ?_
      refine JL.loadOwn 0 az_3 rfl rfl rfl (.some rfl rfl rfl hc7) rfl ?_
      obtain ⟨y8, hy8, hF⟩ := bind_some hF
      refine JL.callS (c_rains_within n H r.Level.Low 0 r.Level.High y8 hy8) rfl en_61 (.some rfl rfl rfl hc7) rfl ?_
      refine JL.pick_t (b := y3) rfl hc7 .none rfl ?_
      obtain rfl := Option.some.inj hF
      exact hJ6 _ ⟨rfl, rfl⟩
    · skip
      refine JL.skip (.bool rfl rfl rfl hc7) rfl ?_
      refine JL.skip (.bool rfl rfl rfl hc7) rfl ?_
      refine JL.skip (.bool rfl rfl rfl hc7) rfl ?_
      refine JL.skip (.bool rfl rfl rfl hc7) rfl ?_
      refine JL.skip (.bool rfl rfl rfl hc7) rfl ?_
      refine JL.skip (.bool rfl rfl rfl hc7) rfl ?_
      refine JL.skip (.bool rfl rfl rfl hc7) rfl ?_
      refine JL.pick_f (b := y3) rfl hc7 .none rfl ?_
      obtain rfl := Option.some.inj hF
      exact hJ6 _ ⟨rfl, rfl⟩
  · rintro f ⟨hf3, hf19⟩
    refine (JL.norm (i := 3) hf3 (JL.norm (i := 19) hf19 ?_))
    refine JL.move .none rfl ?_
    refine JL.cut 5 (fun f => f 25 = .bool (p5 && (decide (r.Level.High ≤ 3)))) ?_ ?_
    · intro hJ9
      rcases bcases p5 with hc10 | hc10
      · skip
        refine JL.fieldAddr fo_37_1 rfl (.some rfl rfl rfl hc10) rfl ?_
        refine JL.fieldAddr fo_31_1 rfl (.some rfl rfl rfl hc10) rfl ?_
        refine JL.loadOwn 0 az_3 rfl rfl rfl (.some rfl rfl rfl hc10) rfl ?_
        refine JL.bin rfl rfl rfl (.some rfl rfl rfl hc10) rfl ?_
        refine JL.pick_t (b := p5) rfl hc10 .none rfl ?_
        exact hJ9 _ (and_t hc10 rfl)
      · skip
        refine JL.skip (.bool rfl rfl rfl hc10) rfl ?_
        refine JL.skip (.bool rfl rfl rfl hc10) rfl ?_
        refine JL.skip (.bool rfl rfl rfl hc10) rfl ?_
        refine JL.skip (.bool rfl rfl rfl hc10) rfl ?_
        refine JL.pick_f (b := p5) rfl hc10 .none rfl ?_
        exact hJ9 _ (and_f hc10 rfl)
    · rintro f hf25
      refine (JL.norm (i := 25) hf25 ?_)
      refine JL.assign .none rfl ?_
      refine JL.done hQ ?_
      refine JQ.go ?_
      refine JC.ret ?_
      obtain rfl := Option.some.inj hF
      exact JQ.outS rfl (.tmp .nil) rfl

-- 78 ferrule/rains.isFair$1
def F_rains_isFair_1 (n : Nat) (n_ : Int) : Option Bool :=
  (F_rains_within n n_ 0 99).bind fun y1 => some (!y1)
set_option maxRecDepth 100000 in
set_option maxHeartbeats 40000000 in
theorem c_rains_isFair_1 (n : Nat) (H : Hp) (n_ : Int) (y : Bool) (hF : F_rains_isFair_1 n n_ = some y) : SC Try.prog 78 [.int .i64 n_] (.bool y) H := by
  rw [F_rains_isFair_1] at hF
  refine SC.of (N := 6) Try.func78 rfl rfl rfl fun w => ?_
  refine JC.seq ?_
  refine JC.region (by rfl) ?_
  intro hQ
  refine JL.assign .none rfl ?_
  refine JL.done hQ ?_
  refine JQ.go ?_
  refine JC.seq ?_
  refine JC.region (by rfl) ?_
  intro hQ
  refine JL.move .none rfl ?_
  obtain ⟨y1, hy1, hF⟩ := bind_some hF
  refine JL.callS (c_rains_within n H n_ 0 99 y1 hy1) rfl en_61 .none rfl ?_
  refine JL.not rfl .none rfl ?_
  refine JL.assign .none rfl ?_
  refine JL.done hQ ?_
  refine JQ.go ?_
  refine JC.ret ?_
  obtain rfl := Option.some.inj hF
  exact JQ.outS rfl (.tmp .nil) rfl

-- 84 slices.IndexFunc[[]int,int]
def F_slices_IndexFunc___int_int__s1 (n : Nat) (s : List Int) (f_ : Int → Option Bool) : Int → Option (Int ⊕ (Int ⊕ Unit))
  | x_55 => if decide (x_55 < (s.length : Int)) = true then ((geti s x_55).bind fun y60 => (f_ y60).bind fun y65 => if y65 = true then (some (Sum.inr (Sum.inl x_55))) else (some (Sum.inl (w64 (x_55 + 1))))) else (some (Sum.inr (Sum.inr ())))
def F_slices_IndexFunc___int_int_ (n : Nat) (s : List Int) (f_ : Int → Option Bool) : Option Int :=
  (loopO n (F_slices_IndexFunc___int_int__s1 n s f_) 0).bind fun r34 => match r34 with | .inl o => some o | .inr _ => some (-1)
set_option maxRecDepth 100000 in
set_option maxHeartbeats 40000000 in
theorem c_slices_IndexFunc___int_int_ (n : Nat) (H : Hp) (s : List Int) (s_v0 : Value) (hs_0 : SL H 1 RInt s_v0 s) (f_ : Int → Option Bool) (f__k : Nat) (f__c : List Value) (f__e : Ent Try.prog f__k) (f__h : ∀ H', HSub H H' → ∀ (a0_ : Int) (y : Bool), f_ a0_ = some y → SC Try.prog f__k ([.int .i64 a0_] ++ f__c) (.bool y) H') (y : Int) (hF : F_slices_IndexFunc___int_int_ n s f_ = some y) : SC Try.prog 84 [s_v0, .func (.func f__k) #[] f__c.toArray] (.int .i64 y) H := by
  rw [F_slices_IndexFunc___int_int_] at hF
  refine SC.of (N := 19) Try.func84 rfl rfl rfl fun w => ?_
  refine JC.seq ?_
  refine JC.region (by rfl) ?_
  intro hQ
  refine JL.assign .none rfl ?_
  refine JL.done hQ ?_
  refine JQ.go ?_
  refine JC.seq ?_
  refine JC.seq ?_
  refine JC.region (by rfl) ?_
  intro hQ
  refine JL.move .none rfl ?_
  refine JL.lenSL (R := RInt) ul_26 hs_0 .none rfl ?_
  refine JL.move .none rfl ?_
  refine JL.done hQ ?_
  refine JQ.go ?_
  obtain ⟨r34, hlr34, hKr34⟩ := bind_some hF
  refine JC.join (fun (_ : Unit) H33 f bs gs => bs = [] ∧ gs = [] ∧ HSub H H33 ∧ Sum.inr () = r34) ?_ ?_
  · skip
    refine JC.block ?_
    refine JC.loop hlr34 (fun (x_55 : Int) H56 f bs gs => f 0 = s_v0 ∧ f 1 = .func (.func f__k) #[] f__c.toArray ∧ f 7 = .int .i64 (s.length : Int) ∧ f 8 = .int .i64 x_55 ∧ bs = [] ∧ gs = [] ∧ HSub H H56) ⟨rfl, rfl, rfl, rfl, rfl, rfl, (HSub.refl _)⟩ ?_
    rintro x_55 x58 H56 f bs gs ⟨hf0, hf1, hf7, hf8, rfl, rfl, hs56⟩ hF hr57
    rw [F_slices_IndexFunc___int_int__s1] at hF
    refine (JC.norm (i := 0) hf0 (JC.norm (i := 1) hf1 (JC.norm (i := 7) hf7 (JC.norm (i := 8) hf8 ?_))))
    refine JC.seq ?_
    refine JC.region (by rfl) ?_
    intro hQ
    refine JL.bin rfl rfl rfl .none rfl ?_
    refine JL.done hQ ?_
    refine JQ.go ?_
    refine JC.seq ?_
    rcases ite_some hF with ⟨hc59, hF⟩ | ⟨hc59, hF⟩
    · refine JC.cond_t (b := decide (x_55 < (s.length : Int))) rfl hc59 ?_
      refine JC.skip ?_
      refine JQ.go ?_
      refine JC.seq ?_
      refine JC.block ?_
      refine JC.seq ?_
      refine JC.region (by rfl) ?_
      intro hQ
      refine JL.move .none rfl ?_
      refine JL.assign .none rfl ?_
      refine JL.done hQ ?_
      refine JQ.go ?_
      refine JC.seq ?_
      refine JC.region (by rfl) ?_
      intro hQ
      refine JL.move .none rfl ?_
      refine JL.move .none rfl ?_
      refine JL.move .none rfl ?_
      obtain ⟨y60, hy60, hF⟩ := bind_some hF
      refine JL.indexSL (R := RInt) sl_26 (SL.mono RInt.mono hs56 hs_0) rfl hy60 .none rfl ?_
      rintro b61 o62 cs63 hc64 - rfl
      refine JL.loadH 0 az_3 rfl hc64 rfl .none rfl ?_
      obtain ⟨y65, hy65, hF⟩ := bind_some hF
      refine JL.callV rfl (f__h H56 hs56 y60 y65 hy65) rfl f__e .none rfl ?_
      refine JL.done hQ ?_
      refine JQ.go ?_
      rcases ite_some hF with ⟨hc66, hF⟩ | ⟨hc66, hF⟩
      · refine JC.cond_t (b := y65) rfl hc66 ?_
        refine JC.seq ?_
        refine JC.region (by rfl) ?_
        intro hQ
        refine JL.move .none rfl ?_
        refine JL.assign .none rfl ?_
        refine JL.done hQ ?_
        refine JQ.go ?_
        refine JC.fresh (fun f => f 4 = .int .i64 x_55) rfl ?_
        rintro f hf4
        refine (JC.norm (i := 4) hf4 ?_)
        refine JC.ret ?_
        refine JQ.ret_block ?_
        refine JQ.ret_then ?_
        refine JQ.ret_then ?_
        refine JQ.ret_block ?_
        refine JQ.ret_join ?_
        refine JQ.ret_then ?_
        obtain rfl := Option.some.inj hF
        have ehr57 := hr57 _ rfl
        subst ehr57
        have hF := hKr34
        try dsimp only at hF
        obtain rfl := Option.some.inj hF
        exact JQ.outS rfl (.tmp .nil) rfl
      · refine JC.cond_f (b := y65) rfl hc66 ?_
        refine JC.skip ?_
        refine JQ.normal_block ?_
        refine JQ.go ?_
        refine JC.region (by rfl) ?_
        intro hQ
        refine JL.bin rfl rfl rfl .none rfl ?_
        refine JL.move .none rfl ?_
        refine JL.done hQ ?_
        obtain rfl := Option.some.inj hF
        exact JQ.next rfl ⟨rfl, rfl, rfl, rfl, rfl, rfl, hs56⟩
    · refine JC.cond_f (b := decide (x_55 < (s.length : Int))) rfl hc59 ?_
      refine JC.exit ?_
      refine JQ.exit_then ?_
      refine JQ.exit_then ?_
      refine JQ.exit_block ?_
      obtain rfl := Option.some.inj hF
      have ehr57 := hr57 _ rfl
      subst ehr57
      exact JQ.join () ⟨rfl, rfl, hs56, rfl⟩
  · rintro _ H33 f bs gs ⟨rfl, rfl, hs33, rfl⟩
    have hF := hKr34
    try dsimp only at hF
    refine JQ.go ?_
    refine JC.seq ?_
    refine JC.region (by rfl) ?_
    intro hQ
    refine JL.assign .none rfl ?_
    refine JL.done hQ ?_
    refine JQ.go ?_
    refine JC.ret ?_
    obtain rfl := Option.some.inj hF
    exact JQ.outS rfl (.tmp .nil) rfl

-- 79 slices.ContainsFunc[[]int,int]
def F_slices_ContainsFunc___int_int_ (n : Nat) (s : List Int) (f_ : Int → Option Bool) : Option Bool :=
  (F_slices_IndexFunc___int_int_ n s f_).bind fun y1 => some (decide (0 ≤ y1))
set_option maxRecDepth 100000 in
set_option maxHeartbeats 40000000 in
theorem c_slices_ContainsFunc___int_int_ (n : Nat) (H : Hp) (s : List Int) (s_v0 : Value) (hs_0 : SL H 1 RInt s_v0 s) (f_ : Int → Option Bool) (f__k : Nat) (f__c : List Value) (f__e : Ent Try.prog f__k) (f__h : ∀ H', HSub H H' → ∀ (a0_ : Int) (y : Bool), f_ a0_ = some y → SC Try.prog f__k ([.int .i64 a0_] ++ f__c) (.bool y) H') (y : Bool) (hF : F_slices_ContainsFunc___int_int_ n s f_ = some y) : SC Try.prog 79 [s_v0, .func (.func f__k) #[] f__c.toArray] (.bool y) H := by
  rw [F_slices_ContainsFunc___int_int_] at hF
  refine SC.of (N := 9) Try.func79 rfl rfl rfl fun w => ?_
  refine JC.seq ?_
  refine JC.region (by rfl) ?_
  intro hQ
  refine JL.assign .none rfl ?_
  refine JL.done hQ ?_
  refine JQ.go ?_
  refine JC.seq ?_
  refine JC.region (by rfl) ?_
  intro hQ
  refine JL.move .none rfl ?_
  refine JL.move .none rfl ?_
  obtain ⟨y1, hy1, hF⟩ := bind_some hF
  refine JL.callS (c_slices_IndexFunc___int_int_ n H s s_v0 hs_0 f_ f__k f__c f__e (fun H' hs' => f__h H' hs') y1 hy1) rfl en_84 .none rfl ?_
  refine JL.bin rfl rfl rfl .none rfl ?_
  refine JL.assign .none rfl ?_
  refine JL.done hQ ?_
  refine JQ.go ?_
  refine JC.ret ?_
  obtain rfl := Option.some.inj hF
  exact JQ.outS rfl (.tmp .nil) rfl

-- 67 ferrule/rains.isFair
def F_rains_isFair (n : Nat) (f_ : Fair) : Option Bool :=
  (F_rains_within n f_.Price 0 999).bind fun y2 => (if (y2 && ((f_.Sells.length : Int) == 4)) = true then ((F_slices_ContainsFunc___int_int_ n f_.Sells (fun a0_ => F_rains_isFair_1 n a0_)).bind fun y9 => some (!y9)) else (some false) : Option Bool).bind fun p6 => some p6
set_option maxRecDepth 100000 in
set_option maxHeartbeats 40000000 in
theorem c_rains_isFair (n : Nat) (H : Hp) (f_ : Fair) (f__v1 : Value) (hf__1 : SL H 1 RInt f__v1 f_.Sells) (y : Bool) (hF : F_rains_isFair n f_ = some y) : SC Try.prog 67 [.agg [.int .i64 f_.Price, f__v1].toArray] (.bool y) H := by
  rw [F_rains_isFair] at hF
  refine SC.of (N := 20) Try.func67 rfl rfl rfl fun w => ?_
  refine JC.seq ?_
  refine JC.region (by rfl) ?_
  intro hQ
  refine JL.box (cs := [.int .i64 f_.Price, f__v1]) rfl .none rfl ?_
  intro b1
  refine JL.assign .none rfl ?_
  refine JL.done hQ ?_
  refine JQ.go ?_
  refine JC.seq ?_
  refine JC.region (by rfl) ?_
  intro hQ
  refine JL.assign .none rfl ?_
  refine JL.done hQ ?_
  refine JQ.go ?_
  refine JC.seq ?_
  refine JC.region (by rfl) ?_
  intro hQ
  refine JL.fieldAddr fo_41_0 rfl .none rfl ?_
  refine JL.loadOwn 0 az_3 rfl rfl rfl .none rfl ?_
  obtain ⟨y2, hy2, hF⟩ := bind_some hF
  refine JL.callS (c_rains_within n H f_.Price 0 999 y2 hy2) rfl en_61 .none rfl ?_
  refine JL.move .none rfl ?_
  refine JL.cut 5 (fun f => f 1 = .pointer (some ⟨b1, 0, none⟩) ∧ f 3 = .func (.func 78) #[] [].toArray ∧ f 12 = .bool (y2 && ((f_.Sells.length : Int) == 4))) ?_ ?_
  · intro hJ3
    rcases bcases y2 with hc4 | hc4
    · skip
      refine JL.fieldAddr fo_41_1 rfl (.some rfl rfl rfl hc4) rfl ?_
      refine JL.loadOwn 0 az_26 rfl rfl rfl (.some rfl rfl rfl hc4) rfl ?_
      refine JL.lenSL (R := RInt) ul_26 hf__1 (.some rfl rfl rfl hc4) rfl ?_
      refine JL.bin rfl rfl rfl (.some rfl rfl rfl hc4) rfl ?_
      refine JL.pick_t (b := y2) rfl hc4 .none rfl ?_
      exact hJ3 _ ⟨rfl, rfl, and_t hc4 rfl⟩
    · skip
      refine JL.skip (.bool rfl rfl rfl hc4) rfl ?_
      refine JL.skip (.bool rfl rfl rfl hc4) rfl ?_
      refine JL.skip (.bool rfl rfl rfl hc4) rfl ?_
      refine JL.skip (.bool rfl rfl rfl hc4) rfl ?_
      refine JL.pick_f (b := y2) rfl hc4 .none rfl ?_
      exact hJ3 _ ⟨rfl, rfl, and_f hc4 rfl⟩
  · rintro f ⟨hf1, hf3, hf12⟩
    refine (JL.norm (i := 1) hf1 (JL.norm (i := 3) hf3 (JL.norm (i := 12) hf12 ?_)))
    refine JL.move .none rfl ?_
    obtain ⟨p6, hp6, hF⟩ := bind_some hF
    refine JL.cut 6 (fun f => f 19 = .bool p6) ?_ ?_
    · intro hJ7
      rcases ite_some hp6 with ⟨hc8, hF⟩ | ⟨hc8, hF⟩
      · skip
        refine JL.fieldAddr fo_41_1 rfl (.some rfl rfl rfl hc8) rfl ?_
        refine JL.loadOwn 0 az_26 rfl rfl rfl (.some rfl rfl rfl hc8) rfl ?_
        refine JL.move (.some rfl rfl rfl hc8) rfl ?_
        obtain ⟨y9, hy9, hF⟩ := bind_some hF
        refine JL.callS (c_slices_ContainsFunc___int_int_ n H f_.Sells f__v1 hf__1 (fun a0_ => F_rains_isFair_1 n a0_) 78 [] en_78 (fun H' hs' a0_ y' hy' => c_rains_isFair_1 n H' a0_ y' hy') y9 hy9) rfl en_79 (.some rfl rfl rfl hc8) rfl ?_
        refine JL.not rfl (.some rfl rfl rfl hc8) rfl ?_
        refine JL.pick_t (b := (y2 && ((f_.Sells.length : Int) == 4))) rfl hc8 .none rfl ?_
        obtain rfl := Option.some.inj hF
        exact hJ7 _ (rfl)
      · skip
        refine JL.skip (.bool rfl rfl rfl hc8) rfl ?_
        refine JL.skip (.bool rfl rfl rfl hc8) rfl ?_
        refine JL.skip (.bool rfl rfl rfl hc8) rfl ?_
        refine JL.skip (.bool rfl rfl rfl hc8) rfl ?_
        refine JL.skip (.bool rfl rfl rfl hc8) rfl ?_
        refine JL.pick_f (b := (y2 && ((f_.Sells.length : Int) == 4))) rfl hc8 .none rfl ?_
        obtain rfl := Option.some.inj hF
        exact hJ7 _ (rfl)
    · rintro f hf19
      refine (JL.norm (i := 19) hf19 ?_)
      refine JL.assign .none rfl ?_
      refine JL.done hQ ?_
      refine JQ.go ?_
      refine JC.ret ?_
      obtain rfl := Option.some.inj hF
      exact JQ.outS rfl (.tmp .nil) rfl

-- 37 ferrule/rains.Check
def F_rains_Check_s1 (n : Nat) (t : Tour) : Int → Option (Int ⊕ (Int ⊕ Unit))
  | x_90 => if decide (x_90 < (t.Rains.length : Int)) = true then ((geti t.Rains x_90).bind fun y95 => (F_rains_isRain n t y95).bind fun y101 => if (!y101) = true then (some (Sum.inr (Sum.inl 110))) else (some (Sum.inl (w64 (x_90 + 1))))) else (some (Sum.inr (Sum.inr ())))
def F_rains_Check_s2 (n : Nat) (t : Tour) : Int → Option (Int ⊕ (Int ⊕ Unit))
  | x_162 => if decide (x_162 < (t.Fairs.length : Int)) = true then ((geti t.Fairs x_162).bind fun y167 => (F_rains_isFair n y167).bind fun y173 => if (!y173) = true then (some (Sum.inr (Sum.inl 110))) else (some (Sum.inl (w64 (x_162 + 1))))) else (some (Sum.inr (Sum.inr ())))
def F_rains_Check (n : Nat) (t : Tour) : Option Int :=
  (F_rains_within n t.Days 1 6).bind fun y2 => (if (!y2) = true then (some true) else ((F_rains_within n t.Step 0 3).bind fun y7 => some (!y7)) : Option Bool).bind fun p4 => (if p4 = true then (some true) else ((F_rains_within n t.Wrong 0 10).bind fun y12 => some (!y12)) : Option Bool).bind fun p9 => (if p9 = true then (some true) else ((F_rains_within n t.Reach 0 4).bind fun y17 => some (!y17)) : Option Bool).bind fun p14 => (if p14 = true then (some true) else ((F_rains_within n t.Stock 0 999).bind fun y22 => some (!y22)) : Option Bool).bind fun p19 => (if (p19 || (decide (10 < (t.Rains.length : Int)))) = true then (some true) else ((F_rains_within n (t.Fairs.length : Int) 1 4).bind fun y29 => some (!y29)) : Option Bool).bind fun p26 => if p26 = true then (some 110) else ((loopO n (F_rains_Check_s1 n t) 0).bind fun r67 => match r67 with | .inl o => some o | .inr _ => (loopO n (F_rains_Check_s2 n t) 0).bind fun r139 => match r139 with | .inl o => some o | .inr _ => some 0)
set_option maxRecDepth 100000 in
set_option maxHeartbeats 40000000 in
theorem c_rains_Check (n : Nat) (H : Hp) (t : Tour) (t_v2 : Value) (ht_2 : SL H 3 R_Rain t_v2 t.Rains) (t_v4 : Value) (ht_4 : SL H 2 R_Fair t_v4 t.Fairs) (y : Int) (hF : F_rains_Check n t = some y) : SC Try.prog 37 [.agg [.int .i64 t.Days, .int .i64 t.Step, t_v2, .int .i64 t.Wrong, t_v4, .int .i64 t.Reach, .int .i64 t.Stock].toArray] (.int .i64 y) H := by
  rw [F_rains_Check] at hF
  refine SC.of (N := 71) Try.func37 rfl rfl rfl fun w => ?_
  refine JC.seq ?_
  refine JC.region (by rfl) ?_
  intro hQ
  refine JL.box (cs := [.int .i64 t.Days, .int .i64 t.Step, t_v2, .int .i64 t.Wrong, t_v4, .int .i64 t.Reach, .int .i64 t.Stock]) rfl .none rfl ?_
  intro b1
  refine JL.assign .none rfl ?_
  refine JL.done hQ ?_
  refine JQ.go ?_
  refine JC.seq ?_
  refine JC.seq ?_
  refine JC.region (by rfl) ?_
  intro hQ
  refine JL.fieldAddr fo_25_0 rfl .none rfl ?_
  refine JL.loadOwn 0 az_3 rfl rfl rfl .none rfl ?_
  obtain ⟨y2, hy2, hF⟩ := bind_some hF
  refine JL.callS (c_rains_within n H t.Days 1 6 y2 hy2) rfl en_61 .none rfl ?_
  refine JL.not rfl .none rfl ?_
  refine JL.move .none rfl ?_
  obtain ⟨p4, hp4, hF⟩ := bind_some hF
  refine JL.cut 5 (fun f => f 1 = .pointer (some ⟨b1, 0, none⟩) ∧ f 16 = .bool p4) ?_ ?_
  · intro hJ5
    rcases ite_some hp4 with ⟨hc6, hF⟩ | ⟨hc6, hF⟩
    · skip
      refine JL.skip (.bool rfl rfl rfl hc6) rfl ?_
      refine JL.skip (.bool rfl rfl rfl hc6) rfl ?_
      refine JL.skip (.bool rfl rfl rfl hc6) rfl ?_
      refine JL.skip (.bool rfl rfl rfl hc6) rfl ?_
      refine JL.pick_t (b := (!y2)) rfl hc6 .none rfl ?_
      obtain rfl := Option.some.inj hF
      exact hJ5 _ ⟨rfl, rfl⟩
    · skip
      refine JL.fieldAddr fo_25_1 rfl (.some rfl rfl rfl hc6) rfl ?_
      refine JL.loadOwn 0 az_3 rfl rfl rfl (.some rfl rfl rfl hc6) rfl ?_
      obtain ⟨y7, hy7, hF⟩ := bind_some hF
      refine JL.callS (c_rains_within n H t.Step 0 3 y7 hy7) rfl en_61 (.some rfl rfl rfl hc6) rfl ?_
      refine JL.not rfl (.some rfl rfl rfl hc6) rfl ?_
      refine JL.pick_f (b := (!y2)) rfl hc6 .none rfl ?_
      obtain rfl := Option.some.inj hF
      exact hJ5 _ ⟨rfl, rfl⟩
  · rintro f ⟨hf1, hf16⟩
    refine (JL.norm (i := 1) hf1 (JL.norm (i := 16) hf16 ?_))
    refine JL.move .none rfl ?_
    obtain ⟨p9, hp9, hF⟩ := bind_some hF
    refine JL.cut 5 (fun f => f 1 = .pointer (some ⟨b1, 0, none⟩) ∧ f 22 = .bool p9) ?_ ?_
    · intro hJ10
      rcases ite_some hp9 with ⟨hc11, hF⟩ | ⟨hc11, hF⟩
      · skip
        refine JL.skip (.bool rfl rfl rfl hc11) rfl ?_
        refine JL.skip (.bool rfl rfl rfl hc11) rfl ?_
        refine JL.skip (.bool rfl rfl rfl hc11) rfl ?_
        refine JL.skip (.bool rfl rfl rfl hc11) rfl ?_
        refine JL.pick_t (b := p4) rfl hc11 .none rfl ?_
        obtain rfl := Option.some.inj hF
        exact hJ10 _ ⟨rfl, rfl⟩
      · skip
        refine JL.fieldAddr fo_25_3 rfl (.some rfl rfl rfl hc11) rfl ?_
        refine JL.loadOwn 0 az_3 rfl rfl rfl (.some rfl rfl rfl hc11) rfl ?_
        obtain ⟨y12, hy12, hF⟩ := bind_some hF
        refine JL.callS (c_rains_within n H t.Wrong 0 10 y12 hy12) rfl en_61 (.some rfl rfl rfl hc11) rfl ?_
        refine JL.not rfl (.some rfl rfl rfl hc11) rfl ?_
        refine JL.pick_f (b := p4) rfl hc11 .none rfl ?_
        obtain rfl := Option.some.inj hF
        exact hJ10 _ ⟨rfl, rfl⟩
    · rintro f ⟨hf1, hf22⟩
      refine (JL.norm (i := 1) hf1 (JL.norm (i := 22) hf22 ?_))
      refine JL.move .none rfl ?_
      obtain ⟨p14, hp14, hF⟩ := bind_some hF
      refine JL.cut 5 (fun f => f 1 = .pointer (some ⟨b1, 0, none⟩) ∧ f 28 = .bool p14) ?_ ?_
      · intro hJ15
        rcases ite_some hp14 with ⟨hc16, hF⟩ | ⟨hc16, hF⟩
        · skip
          refine JL.skip (.bool rfl rfl rfl hc16) rfl ?_
          refine JL.skip (.bool rfl rfl rfl hc16) rfl ?_
          refine JL.skip (.bool rfl rfl rfl hc16) rfl ?_
          refine JL.skip (.bool rfl rfl rfl hc16) rfl ?_
          refine JL.pick_t (b := p9) rfl hc16 .none rfl ?_
          obtain rfl := Option.some.inj hF
          exact hJ15 _ ⟨rfl, rfl⟩
        · skip
          refine JL.fieldAddr fo_25_5 rfl (.some rfl rfl rfl hc16) rfl ?_
          refine JL.loadOwn 0 az_3 rfl rfl rfl (.some rfl rfl rfl hc16) rfl ?_
          obtain ⟨y17, hy17, hF⟩ := bind_some hF
          refine JL.callS (c_rains_within n H t.Reach 0 4 y17 hy17) rfl en_61 (.some rfl rfl rfl hc16) rfl ?_
          refine JL.not rfl (.some rfl rfl rfl hc16) rfl ?_
          refine JL.pick_f (b := p9) rfl hc16 .none rfl ?_
          obtain rfl := Option.some.inj hF
          exact hJ15 _ ⟨rfl, rfl⟩
      · rintro f ⟨hf1, hf28⟩
        refine (JL.norm (i := 1) hf1 (JL.norm (i := 28) hf28 ?_))
        refine JL.move .none rfl ?_
        obtain ⟨p19, hp19, hF⟩ := bind_some hF
        refine JL.cut 5 (fun f => f 1 = .pointer (some ⟨b1, 0, none⟩) ∧ f 34 = .bool p19) ?_ ?_
        · intro hJ20
          rcases ite_some hp19 with ⟨hc21, hF⟩ | ⟨hc21, hF⟩
          · skip
            refine JL.skip (.bool rfl rfl rfl hc21) rfl ?_
            refine JL.skip (.bool rfl rfl rfl hc21) rfl ?_
            refine JL.skip (.bool rfl rfl rfl hc21) rfl ?_
            refine JL.skip (.bool rfl rfl rfl hc21) rfl ?_
            refine JL.pick_t (b := p14) rfl hc21 .none rfl ?_
            obtain rfl := Option.some.inj hF
            exact hJ20 _ ⟨rfl, rfl⟩
          · skip
            refine JL.fieldAddr fo_25_6 rfl (.some rfl rfl rfl hc21) rfl ?_
            refine JL.loadOwn 0 az_3 rfl rfl rfl (.some rfl rfl rfl hc21) rfl ?_
            obtain ⟨y22, hy22, hF⟩ := bind_some hF
            refine JL.callS (c_rains_within n H t.Stock 0 999 y22 hy22) rfl en_61 (.some rfl rfl rfl hc21) rfl ?_
            refine JL.not rfl (.some rfl rfl rfl hc21) rfl ?_
            refine JL.pick_f (b := p14) rfl hc21 .none rfl ?_
            obtain rfl := Option.some.inj hF
            exact hJ20 _ ⟨rfl, rfl⟩
        · rintro f ⟨hf1, hf34⟩
          refine (JL.norm (i := 1) hf1 (JL.norm (i := 34) hf34 ?_))
          refine JL.move .none rfl ?_
          refine JL.cut 5 (fun f => f 1 = .pointer (some ⟨b1, 0, none⟩) ∧ f 40 = .bool (p19 || (decide (10 < (t.Rains.length : Int))))) ?_ ?_
          · intro hJ23
            rcases bcases p19 with hc24 | hc24
            · skip
              refine JL.skip (.bool rfl rfl rfl hc24) rfl ?_
              refine JL.skip (.bool rfl rfl rfl hc24) rfl ?_
              refine JL.skip (.bool rfl rfl rfl hc24) rfl ?_
              refine JL.skip (.bool rfl rfl rfl hc24) rfl ?_
              refine JL.pick_t (b := p19) rfl hc24 .none rfl ?_
              exact hJ23 _ ⟨rfl, or_t hc24 rfl⟩
            · skip
              refine JL.fieldAddr fo_25_2 rfl (.some rfl rfl rfl hc24) rfl ?_
              refine JL.loadOwn 0 az_22 rfl rfl rfl (.some rfl rfl rfl hc24) rfl ?_
              refine JL.lenSL (R := R_Rain) ul_22 ht_2 (.some rfl rfl rfl hc24) rfl ?_
              refine JL.bin rfl rfl rfl (.some rfl rfl rfl hc24) rfl ?_
              refine JL.pick_f (b := p19) rfl hc24 .none rfl ?_
              exact hJ23 _ ⟨rfl, or_f hc24 rfl⟩
          · rintro f ⟨hf1, hf40⟩
            refine (JL.norm (i := 1) hf1 (JL.norm (i := 40) hf40 ?_))
            refine JL.move .none rfl ?_
            obtain ⟨p26, hp26, hF⟩ := bind_some hF
            refine JL.cut 6 (fun f => f 1 = .pointer (some ⟨b1, 0, none⟩) ∧ f 47 = .bool p26) ?_ ?_
            · intro hJ27
              rcases ite_some hp26 with ⟨hc28, hF⟩ | ⟨hc28, hF⟩
              · skip
                refine JL.skip (.bool rfl rfl rfl hc28) rfl ?_
                refine JL.skip (.bool rfl rfl rfl hc28) rfl ?_
                refine JL.skip (.bool rfl rfl rfl hc28) rfl ?_
                refine JL.skip (.bool rfl rfl rfl hc28) rfl ?_
                refine JL.skip (.bool rfl rfl rfl hc28) rfl ?_
                refine JL.pick_t (b := (p19 || (decide (10 < (t.Rains.length : Int))))) rfl hc28 .none rfl ?_
                obtain rfl := Option.some.inj hF
                exact hJ27 _ ⟨rfl, rfl⟩
              · skip
                refine JL.fieldAddr fo_25_4 rfl (.some rfl rfl rfl hc28) rfl ?_
                refine JL.loadOwn 0 az_23 rfl rfl rfl (.some rfl rfl rfl hc28) rfl ?_
                refine JL.lenSL (R := R_Fair) ul_23 ht_4 (.some rfl rfl rfl hc28) rfl ?_
                obtain ⟨y29, hy29, hF⟩ := bind_some hF
                refine JL.callS (c_rains_within n H (t.Fairs.length : Int) 1 4 y29 hy29) rfl en_61 (.some rfl rfl rfl hc28) rfl ?_
                refine JL.not rfl (.some rfl rfl rfl hc28) rfl ?_
                refine JL.pick_f (b := (p19 || (decide (10 < (t.Rains.length : Int))))) rfl hc28 .none rfl ?_
                obtain rfl := Option.some.inj hF
                exact hJ27 _ ⟨rfl, rfl⟩
            · rintro f ⟨hf1, hf47⟩
              refine (JL.norm (i := 1) hf1 (JL.norm (i := 47) hf47 ?_))
              refine JL.done hQ ?_
              refine JQ.go ?_
              rcases ite_some hF with ⟨hc30, hF⟩ | ⟨hc30, hF⟩
              · refine JC.cond_t (b := p26) rfl hc30 ?_
                refine JC.seq ?_
                refine JC.region (by rfl) ?_
                intro hQ
                refine JL.assign .none rfl ?_
                refine JL.done hQ ?_
                refine JQ.go ?_
                refine JC.ret ?_
                refine JQ.ret_then ?_
                obtain rfl := Option.some.inj hF
                exact JQ.outS rfl (.tmp .nil) rfl
              · refine JC.cond_f (b := p26) rfl hc30 ?_
                refine JC.skip ?_
                refine JQ.go ?_
                refine JC.seq ?_
                refine JC.seq ?_
                refine JC.region (by rfl) ?_
                intro hQ
                refine JL.fieldAddr fo_25_2 rfl .none rfl ?_
                refine JL.loadOwn 0 az_22 rfl rfl rfl .none rfl ?_
                refine JL.lenSL (R := R_Rain) ul_22 ht_2 .none rfl ?_
                refine JL.move .none rfl ?_
                refine JL.done hQ ?_
                refine JQ.go ?_
                obtain ⟨r67, hlr67, hKr67⟩ := bind_some hF
                refine JC.join (fun (_ : Unit) H66 f bs gs => f 1 = .pointer (some ⟨b1, 0, none⟩) ∧ bs = [(b1, .cells [.int .i64 t.Days, .int .i64 t.Step, t_v2, .int .i64 t.Wrong, t_v4, .int .i64 t.Reach, .int .i64 t.Stock].toArray 25)] ∧ gs = [] ∧ HSub H H66 ∧ Sum.inr () = r67) ?_ ?_
                · skip
                  refine JC.block ?_
                  refine JC.loop hlr67 (fun (x_90 : Int) H91 f bs gs => f 1 = .pointer (some ⟨b1, 0, none⟩) ∧ f 49 = t_v2 ∧ f 50 = .int .i64 (t.Rains.length : Int) ∧ f 51 = .int .i64 x_90 ∧ bs = [(b1, .cells [.int .i64 t.Days, .int .i64 t.Step, t_v2, .int .i64 t.Wrong, t_v4, .int .i64 t.Reach, .int .i64 t.Stock].toArray 25)] ∧ gs = [] ∧ HSub H H91) ⟨rfl, rfl, rfl, rfl, rfl, rfl, (HSub.refl _)⟩ ?_
                  rintro x_90 x93 H91 f bs gs ⟨hf1, hf49, hf50, hf51, rfl, rfl, hs91⟩ hF hr92
                  rw [F_rains_Check_s1] at hF
                  refine (JC.norm (i := 1) hf1 (JC.norm (i := 49) hf49 (JC.norm (i := 50) hf50 (JC.norm (i := 51) hf51 ?_))))
                  refine JC.seq ?_
                  refine JC.region (by rfl) ?_
                  intro hQ
                  refine JL.bin rfl rfl rfl .none rfl ?_
                  refine JL.done hQ ?_
                  refine JQ.go ?_
                  refine JC.seq ?_
                  rcases ite_some hF with ⟨hc94, hF⟩ | ⟨hc94, hF⟩
                  · refine JC.cond_t (b := decide (x_90 < (t.Rains.length : Int))) rfl hc94 ?_
                    refine JC.skip ?_
                    refine JQ.go ?_
                    refine JC.seq ?_
                    refine JC.block ?_
                    refine JC.seq ?_
                    refine JC.region (by rfl) ?_
                    intro hQ
                    obtain ⟨y95, hy95, hF⟩ := bind_some hF
                    refine JL.indexSL (R := R_Rain) sl_22 (SL.mono R_Rain_mono hs91 ht_2) rfl hy95 .none rfl ?_
                    rintro b96 o97 cs98 hc99 - rfl
                    refine JL.loadH 0 az_37 rfl hc99 rfl .none rfl ?_
                    refine JL.alloc ze_37 .none rfl ?_
                    intro b100
                    refine JL.storeOwn 0 (cs := [.int .i64 y95.Day, .int .i64 y95.Level.Low, .int .i64 y95.Level.High]) az_37 rfl rfl rfl (one_cons rfl (one_cons rfl (one_cons rfl one_nil))) rfl rfl .none ?_
                    refine JL.done hQ ?_
                    refine JQ.go ?_
                    refine JC.seq ?_
                    refine JC.region (by rfl) ?_
                    intro hQ
                    refine JL.loadOwn 1 az_25 rfl rfl rfl .none rfl ?_
                    refine JL.loadOwn 0 az_37 rfl rfl rfl .none rfl ?_
                    obtain ⟨y101, hy101, hF⟩ := bind_some hF
                    refine JL.callS (c_rains_isRain n H91 t t_v2 (SL.mono R_Rain_mono hs91 ht_2) t_v4 (SL.mono R_Fair_mono hs91 ht_4) y95 y101 hy101) rfl en_66 .none rfl ?_
                    refine JL.not rfl .none rfl ?_
                    refine JL.done hQ ?_
                    refine JQ.go ?_
                    rcases ite_some hF with ⟨hc102, hF⟩ | ⟨hc102, hF⟩
                    · refine JC.cond_t (b := (!y101)) rfl hc102 ?_
                      refine JC.seq ?_
                      refine JC.region (by rfl) ?_
                      intro hQ
                      refine JL.assign .none rfl ?_
                      refine JL.done hQ ?_
                      refine JQ.go ?_
                      refine JC.ret ?_
                      refine JQ.ret_block ?_
                      refine JQ.ret_then ?_
                      refine JQ.ret_then ?_
                      refine JQ.ret_block ?_
                      refine JQ.ret_join ?_
                      refine JQ.ret_then ?_
                      obtain rfl := Option.some.inj hF
                      have ehr92 := hr92 _ rfl
                      subst ehr92
                      have hF := hKr67
                      try dsimp only at hF
                      obtain rfl := Option.some.inj hF
                      exact JQ.outS rfl (.tmp .nil) rfl
                    · refine JC.cond_f (b := (!y101)) rfl hc102 ?_
                      refine JC.skip ?_
                      refine JQ.normal_block ?_
                      refine JQ.go ?_
                      refine JC.region (by rfl) ?_
                      intro hQ
                      refine JL.bin rfl rfl rfl .none rfl ?_
                      refine JL.move .none rfl ?_
                      refine JL.done hQ ?_
                      obtain rfl := Option.some.inj hF
                      refine JQ.mask [false, true] [] ?_
                      exact JQ.next rfl ⟨rfl, rfl, rfl, rfl, rfl, rfl, hs91⟩
                  · refine JC.cond_f (b := decide (x_90 < (t.Rains.length : Int))) rfl hc94 ?_
                    refine JC.exit ?_
                    refine JQ.exit_then ?_
                    refine JQ.exit_then ?_
                    refine JQ.exit_block ?_
                    obtain rfl := Option.some.inj hF
                    have ehr92 := hr92 _ rfl
                    subst ehr92
                    exact JQ.join () ⟨rfl, rfl, rfl, hs91, rfl⟩
                · rintro _ H66 f bs gs ⟨hf1, rfl, rfl, hs66, rfl⟩
                  have hF := hKr67
                  try dsimp only at hF
                  refine (JQ.norm (i := 1) hf1 ?_)
                  refine JQ.go ?_
                  refine JC.seq ?_
                  refine JC.seq ?_
                  refine JC.region (by rfl) ?_
                  intro hQ
                  refine JL.fieldAddr fo_25_4 rfl .none rfl ?_
                  refine JL.loadOwn 0 az_23 rfl rfl rfl .none rfl ?_
                  refine JL.lenSL (R := R_Fair) ul_23 (SL.mono R_Fair_mono hs66 ht_4) .none rfl ?_
                  refine JL.move .none rfl ?_
                  refine JL.done hQ ?_
                  refine JQ.go ?_
                  obtain ⟨r139, hlr139, hKr139⟩ := bind_some hF
                  refine JC.join (fun (_ : Unit) H138 f bs gs => bs = [] ∧ gs = [] ∧ HSub H66 H138 ∧ Sum.inr () = r139) ?_ ?_
                  · skip
                    refine JC.block ?_
                    refine JC.mask [false] [] ?_
                    refine JC.loop hlr139 (fun (x_162 : Int) H163 f bs gs => f 61 = t_v4 ∧ f 62 = .int .i64 (t.Fairs.length : Int) ∧ f 63 = .int .i64 x_162 ∧ bs = [] ∧ gs = [] ∧ HSub H66 H163) ⟨rfl, rfl, rfl, rfl, rfl, (HSub.refl _)⟩ ?_
                    rintro x_162 x165 H163 f bs gs ⟨hf61, hf62, hf63, rfl, rfl, hs163⟩ hF hr164
                    rw [F_rains_Check_s2] at hF
                    refine (JC.norm (i := 61) hf61 (JC.norm (i := 62) hf62 (JC.norm (i := 63) hf63 ?_)))
                    refine JC.seq ?_
                    refine JC.region (by rfl) ?_
                    intro hQ
                    refine JL.bin rfl rfl rfl .none rfl ?_
                    refine JL.done hQ ?_
                    refine JQ.go ?_
                    refine JC.seq ?_
                    rcases ite_some hF with ⟨hc166, hF⟩ | ⟨hc166, hF⟩
                    · refine JC.cond_t (b := decide (x_162 < (t.Fairs.length : Int))) rfl hc166 ?_
                      refine JC.skip ?_
                      refine JQ.go ?_
                      refine JC.seq ?_
                      refine JC.block ?_
                      refine JC.seq ?_
                      refine JC.region (by rfl) ?_
                      intro hQ
                      obtain ⟨y167, hy167, hF⟩ := bind_some hF
                      refine JL.indexSL (R := R_Fair) sl_23 (SL.mono R_Fair_mono (HSub.trans hs66 hs163) ht_4) rfl hy167 .none rfl ?_
                      rintro b168 o169 cs170 hc171 - ⟨y167_v1, rfl, hy167_1⟩
                      refine JL.loadH 0 az_41 rfl hc171 rfl .none rfl ?_
                      refine JL.alloc ze_41 .none rfl ?_
                      intro b172
                      refine JL.storeOwn 0 (cs := [.int .i64 y167.Price, y167_v1]) az_41 rfl rfl rfl (one_cons rfl (one_cons (SL.one hy167_1) one_nil)) rfl rfl .none ?_
                      refine JL.done hQ ?_
                      refine JQ.go ?_
                      refine JC.seq ?_
                      refine JC.region (by rfl) ?_
                      intro hQ
                      refine JL.loadOwn 0 az_41 rfl rfl rfl .none rfl ?_
                      obtain ⟨y173, hy173, hF⟩ := bind_some hF
                      refine JL.callS (c_rains_isFair n H163 y167 y167_v1 hy167_1 y173 hy173) rfl en_67 .none rfl ?_
                      refine JL.not rfl .none rfl ?_
                      refine JL.done hQ ?_
                      refine JQ.go ?_
                      rcases ite_some hF with ⟨hc174, hF⟩ | ⟨hc174, hF⟩
                      · refine JC.cond_t (b := (!y173)) rfl hc174 ?_
                        refine JC.seq ?_
                        refine JC.region (by rfl) ?_
                        intro hQ
                        refine JL.assign .none rfl ?_
                        refine JL.done hQ ?_
                        refine JQ.go ?_
                        refine JC.ret ?_
                        refine JQ.ret_block ?_
                        refine JQ.ret_then ?_
                        refine JQ.ret_then ?_
                        refine JQ.ret_block ?_
                        refine JQ.ret_join ?_
                        refine JQ.ret_then ?_
                        obtain rfl := Option.some.inj hF
                        have ehr164 := hr164 _ rfl
                        subst ehr164
                        have hF := hKr139
                        try dsimp only at hF
                        obtain rfl := Option.some.inj hF
                        exact JQ.outS rfl (.tmp .nil) rfl
                      · refine JC.cond_f (b := (!y173)) rfl hc174 ?_
                        refine JC.skip ?_
                        refine JQ.normal_block ?_
                        refine JQ.go ?_
                        refine JC.region (by rfl) ?_
                        intro hQ
                        refine JL.bin rfl rfl rfl .none rfl ?_
                        refine JL.move .none rfl ?_
                        refine JL.done hQ ?_
                        obtain rfl := Option.some.inj hF
                        refine JQ.mask [false] [] ?_
                        exact JQ.next rfl ⟨rfl, rfl, rfl, rfl, rfl, hs163⟩
                    · refine JC.cond_f (b := decide (x_162 < (t.Fairs.length : Int))) rfl hc166 ?_
                      refine JC.exit ?_
                      refine JQ.exit_then ?_
                      refine JQ.exit_then ?_
                      refine JQ.exit_block ?_
                      obtain rfl := Option.some.inj hF
                      have ehr164 := hr164 _ rfl
                      subst ehr164
                      exact JQ.join () ⟨rfl, rfl, hs163, rfl⟩
                  · rintro _ H138 f bs gs ⟨rfl, rfl, hs138, rfl⟩
                    have hF := hKr139
                    try dsimp only at hF
                    refine JQ.go ?_
                    refine JC.seq ?_
                    refine JC.region (by rfl) ?_
                    intro hQ
                    refine JL.assign .none rfl ?_
                    refine JL.done hQ ?_
                    refine JQ.go ?_
                    refine JC.ret ?_
                    obtain rfl := Option.some.inj hF
                    exact JQ.outS rfl (.tmp .nil) rfl

-- 75 ferrule/rains.rows
def F_rains_rows (n : Nat) (days : Int) (most : Int) (step : Int) : Option (Int × Int × Int) :=
  some (days, most, step)
set_option maxRecDepth 100000 in
set_option maxHeartbeats 40000000 in
theorem c_rains_rows (n : Nat) (H : Hp) (days : Int) (most : Int) (step : Int) (y : Int × Int × Int) (hF : F_rains_rows n days most step = some y) : HC Try.prog 75 [.int .i64 days, .int .i64 most, .int .i64 step] H (fun H' v => ∃ b0_ b1_ b2_ : Nat, v = .func (.func 82) #[] [.pointer (some ⟨b0_, 0, none⟩), .pointer (some ⟨b1_, 0, none⟩), .pointer (some ⟨b2_, 0, none⟩)].toArray ∧ Cells H' b0_ 0 [.int .i64 y.1] ∧ Cells H' b1_ 0 [.int .i64 y.2.1] ∧ Cells H' b2_ 0 [.int .i64 y.2.2]) := by
  rw [F_rains_rows] at hF
  refine HC.of (N := 8) Try.func75 rfl rfl rfl fun w => ?_
  refine JC.seq ?_
  refine JC.region (by rfl) ?_
  intro hQ
  refine JL.box (cs := [.int .i64 days]) rfl .none rfl ?_
  intro b1
  refine JL.box (cs := [.int .i64 most]) rfl .none rfl ?_
  intro b2
  refine JL.box (cs := [.int .i64 step]) rfl .none rfl ?_
  intro b3
  refine JL.assign .none rfl ?_
  refine JL.done hQ ?_
  refine JQ.go ?_
  refine JC.seq ?_
  refine JC.region (by rfl) ?_
  intro hQ
  refine JL.makeFunc .none rfl ?_
  refine JL.assign .none rfl ?_
  refine JL.done hQ ?_
  refine JQ.go ?_
  refine JC.ret ?_
  refine JQ.freezeC 2 (l := [.int .i64 days]) rfl ?_
  intro H4 hs4 hc5
  refine JQ.freezeC 1 (l := [.int .i64 most]) rfl ?_
  intro H6 hs6 hc7
  refine JQ.freezeC 0 (l := [.int .i64 step]) rfl ?_
  intro H8 hs8 hc9
  obtain rfl := Option.some.inj hF
  exact JQ.outH rfl (.tmp .nil) ⟨b1, b2, b3, rfl, (Cells.mono (HSub.trans hs6 hs8) hc5), (Cells.mono hs8 hc7), hc9⟩

-- 57 ferrule/rains.levels
def F_rains_levels (n : Nat) (t : Tour) : Option (Int × Int × Int) :=
  (F_rains_rows n t.Days 3 t.Step).bind fun y2 => some (y2.1, y2.2.1, y2.2.2)
set_option maxRecDepth 100000 in
set_option maxHeartbeats 40000000 in
theorem c_rains_levels (n : Nat) (H : Hp) (t : Tour) (t_v2 : Value) (ht_2 : SL H 3 R_Rain t_v2 t.Rains) (t_v4 : Value) (ht_4 : SL H 2 R_Fair t_v4 t.Fairs) (y : Int × Int × Int) (hF : F_rains_levels n t = some y) : HC Try.prog 57 [.agg [.int .i64 t.Days, .int .i64 t.Step, t_v2, .int .i64 t.Wrong, t_v4, .int .i64 t.Reach, .int .i64 t.Stock].toArray] H (fun H' v => ∃ b0_ b1_ b2_ : Nat, v = .func (.func 82) #[] [.pointer (some ⟨b0_, 0, none⟩), .pointer (some ⟨b1_, 0, none⟩), .pointer (some ⟨b2_, 0, none⟩)].toArray ∧ Cells H' b0_ 0 [.int .i64 y.1] ∧ Cells H' b1_ 0 [.int .i64 y.2.1] ∧ Cells H' b2_ 0 [.int .i64 y.2.2]) := by
  rw [F_rains_levels] at hF
  refine HC.of (N := 8) Try.func57 rfl rfl rfl fun w => ?_
  refine JC.seq ?_
  refine JC.region (by rfl) ?_
  intro hQ
  refine JL.box (cs := [.int .i64 t.Days, .int .i64 t.Step, t_v2, .int .i64 t.Wrong, t_v4, .int .i64 t.Reach, .int .i64 t.Stock]) rfl .none rfl ?_
  intro b1
  refine JL.assign .none rfl ?_
  refine JL.done hQ ?_
  refine JQ.go ?_
  refine JC.seq ?_
  refine JC.region (by rfl) ?_
  intro hQ
  refine JL.fieldAddr fo_25_0 rfl .none rfl ?_
  refine JL.loadOwn 0 az_3 rfl rfl rfl .none rfl ?_
  refine JL.fieldAddr fo_25_1 rfl .none rfl ?_
  refine JL.loadOwn 0 az_3 rfl rfl rfl .none rfl ?_
  obtain ⟨y2, hy2, hF⟩ := bind_some hF
  refine JL.callH (c_rains_rows n H t.Days 3 t.Step y2 hy2) rfl en_75 .none rfl ?_
  rintro H3 vv4 hs3 ⟨y2_b0, y2_b1, y2_b2, rfl, hy2_b0, hy2_b1, hy2_b2⟩
  refine JL.assign .none rfl ?_
  refine JL.done hQ ?_
  refine JQ.go ?_
  refine JC.ret ?_
  obtain rfl := Option.some.inj hF
  exact JQ.outH rfl (.tmp .nil) ⟨y2_b0, y2_b1, y2_b2, rfl, hy2_b0, hy2_b1, hy2_b2⟩

-- 64 ferrule/rains.right
def F_rains_right (n : Nat) (r : Rain) (row : List Int) : Option Bool :=
  (geti row r.Day).bind fun y8 => (F_rains_within n y8 r.Level.Low r.Level.High).bind fun y13 => some y13
set_option maxRecDepth 100000 in
set_option maxHeartbeats 40000000 in
theorem c_rains_right (n : Nat) (H : Hp) (r : Rain) (row : List Int) (row_v0 : Value) (hrow_0 : SL H 1 RInt row_v0 row) (y : Bool) (hF : F_rains_right n r row = some y) : SC Try.prog 64 [.agg [.int .i64 r.Day, .int .i64 r.Level.Low, .int .i64 r.Level.High].toArray, row_v0] (.bool y) H := by
  rw [F_rains_right] at hF
  refine SC.of (N := 17) Try.func64 rfl rfl rfl fun w => ?_
  refine JC.seq ?_
  refine JC.region (by rfl) ?_
  intro hQ
  refine JL.box (cs := [.int .i64 r.Day, .int .i64 r.Level.Low, .int .i64 r.Level.High]) rfl .none rfl ?_
  intro b1
  refine JL.assign .none rfl ?_
  refine JL.done hQ ?_
  refine JQ.go ?_
  refine JC.seq ?_
  refine JC.draw (by rfl) mo_ (by kernel_rfl) ?_
  intro hQ
  refine JL.move .none rfl ?_
  refine JL.fieldAddr fo_37_0 rfl .none rfl ?_
  refine JL.loadOwn 0 az_3 rfl rfl rfl .none rfl ?_
  obtain ⟨y8, hy8, hF⟩ := bind_some hF
  refine JL.indexSL (R := RInt) sl_26 hrow_0 rfl hy8 .none rfl ?_
  rintro b9 o10 cs11 hc12 - rfl
  refine JL.loadH 0 az_3 rfl hc12 rfl .none rfl ?_
  refine JL.fieldAddr fo_37_1 rfl .none rfl ?_
  refine JL.fieldAddr fo_31_0 rfl .none rfl ?_
  refine JL.loadOwn 0 az_3 rfl rfl rfl .none rfl ?_
  refine JL.fieldAddr fo_37_1 rfl .none rfl ?_
  refine JL.fieldAddr fo_31_1 rfl .none rfl ?_
  refine JL.loadOwn 0 az_3 rfl rfl rfl .none rfl ?_
  obtain ⟨y13, hy13, hF⟩ := bind_some hF
  refine JL.callS (c_rains_within n H y8 r.Level.Low r.Level.High y13 hy13) rfl en_61 .none rfl ?_
  refine JL.assign .none rfl ?_
  refine JL.doneQ hQ ?_
  refine JQ.go ?_
  refine JC.fresh (fun f => f 4 = .bool y13) rfl ?_
  rintro f hf4
  refine (JC.norm (i := 4) hf4 ?_)
  refine JC.ret ?_
  obtain rfl := Option.some.inj hF
  exact JQ.outS rfl (.tmp .nil) rfl

-- 58 ferrule/rains.wrong
def F_rains_wrong_s1 (n : Nat) (t : Tour) (row : List Int) : Int × Int → Option ((Int × Int) ⊕ Int)
  | (n_87, x_88) => if decide (x_88 < (t.Rains.length : Int)) = true then ((geti t.Rains x_88).bind fun y93 => (F_rains_right n y93 row).bind fun y99 => (if (!y99) = true then (some (w64 (n_87 + 1))) else (some n_87)).bind fun n_101 => some (Sum.inl (n_101, (w64 (x_88 + 1))))) else (some (Sum.inr n_87))
def F_rains_wrong (n : Nat) (t : Tour) (row : List Int) : Option Int :=
  (loopO n (F_rains_wrong_s1 n t row) (0, 0)).bind fun n_52 => some n_52
set_option maxRecDepth 100000 in
set_option maxHeartbeats 40000000 in
theorem c_rains_wrong (n : Nat) (H : Hp) (t : Tour) (t_v2 : Value) (ht_2 : SL H 3 R_Rain t_v2 t.Rains) (t_v4 : Value) (ht_4 : SL H 2 R_Fair t_v4 t.Fairs) (row : List Int) (row_v0 : Value) (hrow_0 : SL H 1 RInt row_v0 row) (y : Int) (hF : F_rains_wrong n t row = some y) : SC Try.prog 58 [.agg [.int .i64 t.Days, .int .i64 t.Step, t_v2, .int .i64 t.Wrong, t_v4, .int .i64 t.Reach, .int .i64 t.Stock].toArray, row_v0] (.int .i64 y) H := by
  rw [F_rains_wrong] at hF
  refine SC.of (N := 23) Try.func58 rfl rfl rfl fun w => ?_
  refine JC.seq ?_
  refine JC.region (by rfl) ?_
  intro hQ
  refine JL.box (cs := [.int .i64 t.Days, .int .i64 t.Step, t_v2, .int .i64 t.Wrong, t_v4, .int .i64 t.Reach, .int .i64 t.Stock]) rfl .none rfl ?_
  intro b1
  refine JL.assign .none rfl ?_
  refine JL.done hQ ?_
  refine JQ.go ?_
  refine JC.seq ?_
  refine JC.region (by rfl) ?_
  intro hQ
  refine JL.assign .none rfl ?_
  refine JL.done hQ ?_
  refine JQ.go ?_
  refine JC.seq ?_
  refine JC.seq ?_
  refine JC.region (by rfl) ?_
  intro hQ
  refine JL.fieldAddr fo_25_2 rfl .none rfl ?_
  refine JL.loadOwn 0 az_22 rfl rfl rfl .none rfl ?_
  refine JL.lenSL (R := R_Rain) ul_22 ht_2 .none rfl ?_
  refine JL.move .none rfl ?_
  refine JL.done hQ ?_
  refine JQ.go ?_
  obtain ⟨r54, hlr54, hKr54⟩ := bind_some hF
  refine JC.join (fun (n_52 : Int) H53 f bs gs => f 5 = .int .i64 n_52 ∧ bs = [] ∧ gs = [] ∧ HSub H H53 ∧ n_52 = r54) ?_ ?_
  · skip
    refine JC.block ?_
    refine JC.mask [false] [] ?_
    refine JC.loop hlr54 (fun (x : Int × Int) H89 f bs gs => match x with | (n_87, x_88) => f 1 = row_v0 ∧ f 5 = .int .i64 n_87 ∧ f 9 = t_v2 ∧ f 10 = .int .i64 (t.Rains.length : Int) ∧ f 11 = .int .i64 x_88 ∧ bs = [] ∧ gs = [] ∧ HSub H H89) ⟨rfl, rfl, rfl, rfl, rfl, rfl, rfl, (HSub.refl _)⟩ ?_
    rintro ⟨n_87, x_88⟩ x91 H89 f bs gs ⟨hf1, hf5, hf9, hf10, hf11, rfl, rfl, hs89⟩ hF hr90
    rw [F_rains_wrong_s1] at hF
    refine (JC.norm (i := 1) hf1 (JC.norm (i := 5) hf5 (JC.norm (i := 9) hf9 (JC.norm (i := 10) hf10 (JC.norm (i := 11) hf11 ?_)))))
    refine JC.seq ?_
    refine JC.region (by rfl) ?_
    intro hQ
    refine JL.bin rfl rfl rfl .none rfl ?_
    refine JL.done hQ ?_
    refine JQ.go ?_
    refine JC.seq ?_
    rcases ite_some hF with ⟨hc92, hF⟩ | ⟨hc92, hF⟩
    · refine JC.cond_t (b := decide (x_88 < (t.Rains.length : Int))) rfl hc92 ?_
      refine JC.skip ?_
      refine JQ.go ?_
      refine JC.seq ?_
      refine JC.block ?_
      refine JC.seq ?_
      refine JC.region (by rfl) ?_
      intro hQ
      obtain ⟨y93, hy93, hF⟩ := bind_some hF
      refine JL.indexSL (R := R_Rain) sl_22 (SL.mono R_Rain_mono hs89 ht_2) rfl hy93 .none rfl ?_
      rintro b94 o95 cs96 hc97 - rfl
      refine JL.loadH 0 az_37 rfl hc97 rfl .none rfl ?_
      refine JL.alloc ze_37 .none rfl ?_
      intro b98
      refine JL.storeOwn 0 (cs := [.int .i64 y93.Day, .int .i64 y93.Level.Low, .int .i64 y93.Level.High]) az_37 rfl rfl rfl (one_cons rfl (one_cons rfl (one_cons rfl one_nil))) rfl rfl .none ?_
      refine JL.done hQ ?_
      refine JQ.go ?_
      refine JC.seq ?_
      refine JC.region (by rfl) ?_
      intro hQ
      refine JL.loadOwn 0 az_37 rfl rfl rfl .none rfl ?_
      refine JL.move .none rfl ?_
      obtain ⟨y99, hy99, hF⟩ := bind_some hF
      refine JL.callS (c_rains_right n H89 y93 row row_v0 (SL.mono RInt.mono hs89 hrow_0) y99 hy99) rfl en_64 .none rfl ?_
      refine JL.not rfl .none rfl ?_
      refine JL.done hQ ?_
      refine JQ.go ?_
      obtain ⟨r103, hlr103, hKr103⟩ := bind_some hF
      refine JC.join (fun (n_101 : Int) H102 f bs gs => f 1 = row_v0 ∧ f 5 = .int .i64 n_101 ∧ f 9 = t_v2 ∧ f 10 = .int .i64 (t.Rains.length : Int) ∧ f 11 = .int .i64 x_88 ∧ bs = [] ∧ gs = [] ∧ HSub H89 H102 ∧ n_101 = r103) ?_ ?_
      · have hF := hlr103
        rcases ite_some hF with ⟨hc104, hF⟩ | ⟨hc104, hF⟩
        · refine JC.cond_t (b := (!y99)) rfl hc104 ?_
          refine JC.region (by rfl) ?_
          intro hQ
          refine JL.move .none rfl ?_
          refine JL.bin rfl rfl rfl .none rfl ?_
          refine JL.assign .none rfl ?_
          refine JL.done hQ ?_
          obtain rfl := Option.some.inj hF
          refine JQ.mask [false] [] ?_
          exact JQ.join (w64 (n_87 + 1)) ⟨rfl, rfl, rfl, rfl, rfl, rfl, rfl, (HSub.refl _), rfl⟩
        · refine JC.cond_f (b := (!y99)) rfl hc104 ?_
          refine JC.skip ?_
          obtain rfl := Option.some.inj hF
          refine JQ.mask [false] [] ?_
          exact JQ.join n_87 ⟨rfl, rfl, rfl, rfl, rfl, rfl, rfl, (HSub.refl _), rfl⟩
      · rintro n_101 H102 f bs gs ⟨hf1, hf5, hf9, hf10, hf11, rfl, rfl, hs102, rfl⟩
        have hF := hKr103
        try dsimp only at hF
        refine (JQ.norm (i := 1) hf1 (JQ.norm (i := 5) hf5 (JQ.norm (i := 9) hf9 (JQ.norm (i := 10) hf10 (JQ.norm (i := 11) hf11 ?_)))))
        refine JQ.normal_block ?_
        refine JQ.go ?_
        refine JC.region (by rfl) ?_
        intro hQ
        refine JL.bin rfl rfl rfl .none rfl ?_
        refine JL.move .none rfl ?_
        refine JL.done hQ ?_
        obtain rfl := Option.some.inj hF
        exact JQ.next rfl ⟨rfl, rfl, rfl, rfl, rfl, rfl, rfl, (HSub.trans hs89 hs102)⟩
    · refine JC.cond_f (b := decide (x_88 < (t.Rains.length : Int))) rfl hc92 ?_
      refine JC.exit ?_
      refine JQ.exit_then ?_
      refine JQ.exit_then ?_
      refine JQ.exit_block ?_
      obtain rfl := Option.some.inj hF
      have ehr90 := hr90 _ rfl
      subst ehr90
      exact JQ.join n_87 ⟨rfl, rfl, rfl, hs89, rfl⟩
  · rintro n_52 H53 f bs gs ⟨hf5, rfl, rfl, hs53, rfl⟩
    have hF := hKr54
    try dsimp only at hF
    refine (JQ.norm (i := 5) hf5 ?_)
    refine JQ.go ?_
    refine JC.seq ?_
    refine JC.region (by rfl) ?_
    intro hQ
    refine JL.move .none rfl ?_
    refine JL.assign .none rfl ?_
    refine JL.done hQ ?_
    refine JQ.go ?_
    refine JC.ret ?_
    obtain rfl := Option.some.inj hF
    exact JQ.outS rfl (.tmp .nil) rfl

end Go.Proofs.Ytooankffknoomaa
