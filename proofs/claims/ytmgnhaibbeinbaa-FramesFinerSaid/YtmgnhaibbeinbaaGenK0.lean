/-
  Printed by a program: functions of the translation as plain functions, and their contracts.
-/
import Derived.Test.YtmgnhaibbeinbaaGenT
namespace Go.Proofs.Ytmgnhaibbeinbaa
open Go Go.RowKit Go.Dec
set_option linter.unusedVariables false
-- 54 ferrule/ferruleref01.Within
def F_ref01_Within (n : Nat) (n_ : Int) (low : Int) (high : Int) : Option Bool :=
  some ((decide (low ≤ n_)) && (decide (n_ ≤ high)))
set_option maxRecDepth 100000 in
set_option maxHeartbeats 40000000 in
theorem c_ref01_Within (n : Nat) (H : Hp) (n_ : Int) (low : Int) (high : Int) (y : Bool) (hF : F_ref01_Within n n_ low high = some y) : SC Try.prog 54 [.int .i64 n_, .int .i64 low, .int .i64 high] (.bool y) H := by
  rw [F_ref01_Within] at hF
  refine SC.of (N := 15) Try.func54 rfl rfl rfl fun w => ?_
  refine JC.seq ?_
  refine JC.region (by rfl) ?_
  intro hQ
  refine JL.assign .none rfl ?_
  refine JL.done hQ ?_
  refine JQ.go ?_
  refine JC.seq ?_
  refine JC.region (by rfl) ?_
  intro hQ
  refine JL.move .none rfl ?_
  refine JL.move .none rfl ?_
  refine JL.bin rfl rfl rfl .none rfl ?_
  refine JL.move .none rfl ?_
  refine JL.cut 4 (fun f => f 14 = .bool ((decide (low ≤ n_)) && (decide (n_ ≤ high)))) ?_ ?_
  · intro hJ1
    rcases bcases (decide (low ≤ n_)) with hc2 | hc2
    · skip
      refine JL.move (.some rfl rfl rfl hc2) rfl ?_
      refine JL.move (.some rfl rfl rfl hc2) rfl ?_
      refine JL.bin rfl rfl rfl (.some rfl rfl rfl hc2) rfl ?_
      refine JL.pick_t (b := decide (low ≤ n_)) rfl hc2 .none rfl ?_
      exact hJ1 _ (and_t hc2 rfl)
    · skip
      refine JL.skip (.bool rfl rfl rfl hc2) rfl ?_
      refine JL.skip (.bool rfl rfl rfl hc2) rfl ?_
      refine JL.skip (.bool rfl rfl rfl hc2) rfl ?_
      refine JL.pick_f (b := decide (low ≤ n_)) rfl hc2 .none rfl ?_
      exact hJ1 _ (and_f hc2 rfl)
  · rintro f hf14
    refine (JL.norm (i := 14) hf14 ?_)
    refine JL.assign .none rfl ?_
    refine JL.done hQ ?_
    refine JQ.go ?_
    refine JC.ret ?_
    obtain rfl := Option.some.inj hF
    exact JQ.outS rfl (.tmp .nil) rfl

-- 53 ferrule/ferruleref01.isLong
def F_ref01_isLong (n : Nat) (s : Span) : Option Bool :=
  (F_ref01_Within n s.Low 1 s.High).bind fun y2 => some ((y2 && (decide (s.High ≤ 2000))) && (decide ((w64 (s.High - s.Low)) ≤ 6)))
set_option maxRecDepth 100000 in
set_option maxHeartbeats 40000000 in
theorem c_ref01_isLong (n : Nat) (H : Hp) (s : Span) (y : Bool) (hF : F_ref01_isLong n s = some y) : SC Try.prog 53 [.agg [.int .i64 s.Low, .int .i64 s.High].toArray] (.bool y) H := by
  rw [F_ref01_isLong] at hF
  refine SC.of (N := 21) Try.func53 rfl rfl rfl fun w => ?_
  refine JC.seq ?_
  refine JC.region (by rfl) ?_
  intro hQ
  refine JL.box (cs := [.int .i64 s.Low, .int .i64 s.High]) rfl .none rfl ?_
  intro b1
  refine JL.assign .none rfl ?_
  refine JL.done hQ ?_
  refine JQ.go ?_
  refine JC.seq ?_
  refine JC.region (by rfl) ?_
  intro hQ
  refine JL.fieldAddr fo_59_0 rfl .none rfl ?_
  refine JL.loadOwn 0 az_3 rfl rfl rfl .none rfl ?_
  refine JL.fieldAddr fo_59_1 rfl .none rfl ?_
  refine JL.loadOwn 0 az_3 rfl rfl rfl .none rfl ?_
  obtain ⟨y2, hy2, hF⟩ := bind_some hF
  refine JL.callS (c_ref01_Within n H s.Low 1 s.High y2 hy2) rfl en_54 .none rfl ?_
  refine JL.move .none rfl ?_
  refine JL.cut 4 (fun f => f 1 = .pointer (some ⟨b1, 0, none⟩) ∧ f 12 = .bool (y2 && (decide (s.High ≤ 2000)))) ?_ ?_
  · intro hJ3
    rcases bcases y2 with hc4 | hc4
    · skip
      refine JL.fieldAddr fo_59_1 rfl (.some rfl rfl rfl hc4) rfl ?_
      refine JL.loadOwn 0 az_3 rfl rfl rfl (.some rfl rfl rfl hc4) rfl ?_
      refine JL.bin rfl rfl rfl (.some rfl rfl rfl hc4) rfl ?_
      refine JL.pick_t (b := y2) rfl hc4 .none rfl ?_
      exact hJ3 _ ⟨rfl, and_t hc4 rfl⟩
    · skip
      refine JL.skip (.bool rfl rfl rfl hc4) rfl ?_
      refine JL.skip (.bool rfl rfl rfl hc4) rfl ?_
      refine JL.skip (.bool rfl rfl rfl hc4) rfl ?_
      refine JL.pick_f (b := y2) rfl hc4 .none rfl ?_
      exact hJ3 _ ⟨rfl, and_f hc4 rfl⟩
  · rintro f ⟨hf1, hf12⟩
    refine (JL.norm (i := 1) hf1 (JL.norm (i := 12) hf12 ?_))
    refine JL.move .none rfl ?_
    refine JL.cut 7 (fun f => f 20 = .bool ((y2 && (decide (s.High ≤ 2000))) && (decide ((w64 (s.High - s.Low)) ≤ 6)))) ?_ ?_
    · intro hJ5
      rcases bcases (y2 && (decide (s.High ≤ 2000))) with hc6 | hc6
      · skip
        refine JL.fieldAddr fo_59_1 rfl (.some rfl rfl rfl hc6) rfl ?_
        refine JL.loadOwn 0 az_3 rfl rfl rfl (.some rfl rfl rfl hc6) rfl ?_
        refine JL.fieldAddr fo_59_0 rfl (.some rfl rfl rfl hc6) rfl ?_
        refine JL.loadOwn 0 az_3 rfl rfl rfl (.some rfl rfl rfl hc6) rfl ?_
        refine JL.bin rfl rfl rfl (.some rfl rfl rfl hc6) rfl ?_
        refine JL.bin rfl rfl rfl (.some rfl rfl rfl hc6) rfl ?_
        refine JL.pick_t (b := (y2 && (decide (s.High ≤ 2000)))) rfl hc6 .none rfl ?_
        exact hJ5 _ (and_t hc6 rfl)
      · skip
        refine JL.skip (.bool rfl rfl rfl hc6) rfl ?_
        refine JL.skip (.bool rfl rfl rfl hc6) rfl ?_
        refine JL.skip (.bool rfl rfl rfl hc6) rfl ?_
        refine JL.skip (.bool rfl rfl rfl hc6) rfl ?_
        refine JL.skip (.bool rfl rfl rfl hc6) rfl ?_
        refine JL.skip (.bool rfl rfl rfl hc6) rfl ?_
        refine JL.pick_f (b := (y2 && (decide (s.High ≤ 2000)))) rfl hc6 .none rfl ?_
        exact hJ5 _ (and_f hc6 rfl)
    · rintro f hf20
      refine (JL.norm (i := 20) hf20 ?_)
      refine JL.assign .none rfl ?_
      refine JL.done hQ ?_
      refine JQ.go ?_
      refine JC.ret ?_
      obtain rfl := Option.some.inj hF
      exact JQ.outS rfl (.tmp .nil) rfl

-- 55 ferrule/ferruleref01.isShare
def F_ref01_isShare (n : Nat) (x_ : Frac) : Option Bool :=
  (F_ref01_Within n x_.Den 1 20).bind fun y2 => (if y2 = true then ((F_ref01_Within n x_.Num 0 x_.Den).bind fun y7 => some y7) else (some false) : Option Bool).bind fun p4 => some p4
set_option maxRecDepth 100000 in
set_option maxHeartbeats 40000000 in
theorem c_ref01_isShare (n : Nat) (H : Hp) (x_ : Frac) (y : Bool) (hF : F_ref01_isShare n x_ = some y) : SC Try.prog 55 [.agg [.int .i64 x_.Num, .int .i64 x_.Den].toArray] (.bool y) H := by
  rw [F_ref01_isShare] at hF
  refine SC.of (N := 13) Try.func55 rfl rfl rfl fun w => ?_
  refine JC.seq ?_
  refine JC.region (by rfl) ?_
  intro hQ
  refine JL.box (cs := [.int .i64 x_.Num, .int .i64 x_.Den]) rfl .none rfl ?_
  intro b1
  refine JL.assign .none rfl ?_
  refine JL.done hQ ?_
  refine JQ.go ?_
  refine JC.seq ?_
  refine JC.region (by rfl) ?_
  intro hQ
  refine JL.fieldAddr fo_24_1 rfl .none rfl ?_
  refine JL.loadOwn 0 az_3 rfl rfl rfl .none rfl ?_
  obtain ⟨y2, hy2, hF⟩ := bind_some hF
  refine JL.callS (c_ref01_Within n H x_.Den 1 20 y2 hy2) rfl en_54 .none rfl ?_
  refine JL.move .none rfl ?_
  obtain ⟨p4, hp4, hF⟩ := bind_some hF
  refine JL.cut 6 (fun f => f 12 = .bool p4) ?_ ?_
  · intro hJ5
    rcases ite_some hp4 with ⟨hc6, hF⟩ | ⟨hc6, hF⟩
    · skip
      refine JL.fieldAddr fo_24_0 rfl (.some rfl rfl rfl hc6) rfl ?_
      refine JL.loadOwn 0 az_3 rfl rfl rfl (.some rfl rfl rfl hc6) rfl ?_
      refine JL.fieldAddr fo_24_1 rfl (.some rfl rfl rfl hc6) rfl ?_
      refine JL.loadOwn 0 az_3 rfl rfl rfl (.some rfl rfl rfl hc6) rfl ?_
      obtain ⟨y7, hy7, hF⟩ := bind_some hF
      refine JL.callS (c_ref01_Within n H x_.Num 0 x_.Den y7 hy7) rfl en_54 (.some rfl rfl rfl hc6) rfl ?_
      refine JL.pick_t (b := y2) rfl hc6 .none rfl ?_
      obtain rfl := Option.some.inj hF
      exact hJ5 _ (rfl)
    · skip
      refine JL.skip (.bool rfl rfl rfl hc6) rfl ?_
      refine JL.skip (.bool rfl rfl rfl hc6) rfl ?_
      refine JL.skip (.bool rfl rfl rfl hc6) rfl ?_
      refine JL.skip (.bool rfl rfl rfl hc6) rfl ?_
      refine JL.skip (.bool rfl rfl rfl hc6) rfl ?_
      refine JL.pick_f (b := y2) rfl hc6 .none rfl ?_
      obtain rfl := Option.some.inj hF
      exact hJ5 _ (rfl)
  · rintro f hf12
    refine (JL.norm (i := 12) hf12 ?_)
    refine JL.assign .none rfl ?_
    refine JL.done hQ ?_
    refine JQ.go ?_
    refine JC.ret ?_
    obtain rfl := Option.some.inj hF
    exact JQ.outS rfl (.tmp .nil) rfl

-- 15 ferrule/ferruleref01.Check
def F_ref01_Check_s1 (n : Nat) (f_ : Frame) : Int → Option (Int ⊕ (Int ⊕ Unit))
  | i_136 => if decide (i_136 < (f_.Sections.length : Int)) = true then ((geti f_.Sections i_136).bind fun y141 => (F_ref01_isLong n y141.Arm).bind fun y147 => (if (!y147) = true then (some true) else ((F_ref01_isLong n y141.Stretch).bind fun y152 => some (!y152)) : Option Bool).bind fun p149 => (if p149 = true then (some true) else ((F_ref01_Within n y141.Base 0 2000).bind fun y157 => some (!y157)) : Option Bool).bind fun p154 => (if p154 = true then (some true) else ((F_ref01_isShare n y141.Gear).bind fun y162 => some (!y162)) : Option Bool).bind fun p159 => if p159 = true then (some (Sum.inr (Sum.inl 10))) else (some (Sum.inl (w64 (i_136 + 1))))) else (some (Sum.inr (Sum.inr ())))
def F_ref01_Check (n : Nat) (f_ : Frame) : Option Int :=
  (loopO n (F_ref01_Check_s1 n f_) 0).bind fun r83 => match r83 with | .inl o => some o | .inr _ => (F_ref01_Within n (f_.Sections.length : Int) 1 3).bind fun y164 => (if (!y164) = true then (some true) else ((F_ref01_Within n f_.Low 1 f_.High).bind fun y169 => some (!y169)) : Option Bool).bind fun p166 => (if ((p166 || (decide (2000 < f_.High))) || (decide (200 < (w64 (f_.High - f_.Low))))) = true then (some true) else ((F_ref01_isShare n f_.Ease).bind fun y178 => some (!y178)) : Option Bool).bind fun p175 => (if p175 = true then (some true) else ((F_ref01_Within n f_.Rod 0 4000).bind fun y183 => some (!y183)) : Option Bool).bind fun p180 => (if p180 = true then (some true) else ((F_ref01_Within n f_.Case 0 4000).bind fun y188 => some (!y188)) : Option Bool).bind fun p185 => if p185 = true then (some 10) else (some 0)
set_option maxRecDepth 100000 in
set_option maxHeartbeats 40000000 in
theorem c_ref01_Check (n : Nat) (H : Hp) (f_ : Frame) (f__v0 : Value) (hf__0 : SL H 7 R_Section f__v0 f_.Sections) (y : Int) (hF : F_ref01_Check n f_ = some y) : SC Try.prog 15 [.agg [f__v0, .int .i64 f_.Low, .int .i64 f_.High, .int .i64 f_.Ease.Num, .int .i64 f_.Ease.Den, .int .i64 f_.Rod, .int .i64 f_.Case].toArray] (.int .i64 y) H := by
  rw [F_ref01_Check] at hF
  refine SC.of (N := 83) Try.func15 rfl rfl rfl fun w => ?_
  refine JC.seq ?_
  refine JC.region (by rfl) ?_
  intro hQ
  refine JL.box (cs := [f__v0, .int .i64 f_.Low, .int .i64 f_.High, .int .i64 f_.Ease.Num, .int .i64 f_.Ease.Den, .int .i64 f_.Rod, .int .i64 f_.Case]) rfl .none rfl ?_
  intro b1
  refine JL.assign .none rfl ?_
  refine JL.done hQ ?_
  refine JQ.go ?_
  refine JC.seq ?_
  refine JC.seq ?_
  refine JC.region (by rfl) ?_
  intro hQ
  refine JL.assign .none rfl ?_
  refine JL.done hQ ?_
  refine JQ.go ?_
  obtain ⟨r83, hlr83, hKr83⟩ := bind_some hF
  refine JC.join (fun (_ : Unit) H82 f bs gs => f 1 = .pointer (some ⟨b1, 0, none⟩) ∧ bs = [(b1, .cells [f__v0, .int .i64 f_.Low, .int .i64 f_.High, .int .i64 f_.Ease.Num, .int .i64 f_.Ease.Den, .int .i64 f_.Rod, .int .i64 f_.Case].toArray 26)] ∧ gs = [] ∧ HSub H H82 ∧ Sum.inr () = r83) ?_ ?_
  · skip
    refine JC.block ?_
    refine JC.loop hlr83 (fun (i_136 : Int) H137 f bs gs => f 1 = .pointer (some ⟨b1, 0, none⟩) ∧ f 3 = .int .i64 i_136 ∧ bs = [(b1, .cells [f__v0, .int .i64 f_.Low, .int .i64 f_.High, .int .i64 f_.Ease.Num, .int .i64 f_.Ease.Den, .int .i64 f_.Rod, .int .i64 f_.Case].toArray 26)] ∧ gs = [] ∧ HSub H H137) ⟨rfl, rfl, rfl, rfl, (HSub.refl _)⟩ ?_
    rintro i_136 x139 H137 f bs gs ⟨hf1, hf3, rfl, rfl, hs137⟩ hF hr138
    rw [F_ref01_Check_s1] at hF
    refine (JC.norm (i := 1) hf1 (JC.norm (i := 3) hf3 ?_))
    refine JC.seq ?_
    refine JC.seq ?_
    refine JC.region (by rfl) ?_
    intro hQ
    refine JL.move .none rfl ?_
    refine JL.fieldAddr fo_26_0 rfl .none rfl ?_
    refine JL.loadOwn 0 az_22 rfl rfl rfl .none rfl ?_
    refine JL.lenSL (R := R_Section) ul_22 (SL.mono R_Section_mono hs137 hf__0) .none rfl ?_
    refine JL.bin rfl rfl rfl .none rfl ?_
    refine JL.done hQ ?_
    refine JQ.go ?_
    rcases ite_some hF with ⟨hc140, hF⟩ | ⟨hc140, hF⟩
    · refine JC.cond_t (b := decide (i_136 < (f_.Sections.length : Int))) rfl hc140 ?_
      refine JC.skip ?_
      refine JQ.go ?_
      refine JC.seq ?_
      refine JC.block ?_
      refine JC.seq ?_
      refine JC.region (by rfl) ?_
      intro hQ
      refine JL.fieldAddr fo_26_0 rfl .none rfl ?_
      refine JL.loadOwn 0 az_22 rfl rfl rfl .none rfl ?_
      refine JL.move .none rfl ?_
      obtain ⟨y141, hy141, hF⟩ := bind_some hF
      refine JL.indexSL (R := R_Section) sl_22 (SL.mono R_Section_mono hs137 hf__0) rfl hy141 .none rfl ?_
      rintro b142 o143 cs144 hc145 - rfl
      refine JL.loadH 0 az_61 rfl hc145 rfl .none rfl ?_
      refine JL.alloc ze_61 .none rfl ?_
      intro b146
      refine JL.storeOwn 0 (cs := [.int .i64 y141.Arm.Low, .int .i64 y141.Arm.High, .int .i64 y141.Stretch.Low, .int .i64 y141.Stretch.High, .int .i64 y141.Base, .int .i64 y141.Gear.Num, .int .i64 y141.Gear.Den]) az_61 rfl rfl rfl (one_cons rfl (one_cons rfl (one_cons rfl (one_cons rfl (one_cons rfl (one_cons rfl (one_cons rfl one_nil))))))) rfl rfl .none ?_
      refine JL.done hQ ?_
      refine JQ.go ?_
      refine JC.seq ?_
      refine JC.region (by rfl) ?_
      intro hQ
      refine JL.fieldAddr fo_61_0 rfl .none rfl ?_
      refine JL.loadOwn 0 az_59 rfl rfl rfl .none rfl ?_
      obtain ⟨y147, hy147, hF⟩ := bind_some hF
      refine JL.callS (c_ref01_isLong n H137 y141.Arm y147 hy147) rfl en_53 .none rfl ?_
      refine JL.not rfl .none rfl ?_
      refine JL.move .none rfl ?_
      obtain ⟨p149, hp149, hF⟩ := bind_some hF
      refine JL.cut 5 (fun f => f 1 = .pointer (some ⟨b1, 0, none⟩) ∧ f 3 = .int .i64 i_136 ∧ f 4 = .pointer (some ⟨b146, 0, none⟩) ∧ f 26 = .bool p149) ?_ ?_
      · intro hJ150
        rcases ite_some hp149 with ⟨hc151, hF⟩ | ⟨hc151, hF⟩
        · skip
          refine JL.skip (.bool rfl rfl rfl hc151) rfl ?_
          refine JL.skip (.bool rfl rfl rfl hc151) rfl ?_
          refine JL.skip (.bool rfl rfl rfl hc151) rfl ?_
          refine JL.skip (.bool rfl rfl rfl hc151) rfl ?_
          refine JL.pick_t (b := (!y147)) rfl hc151 .none rfl ?_
          obtain rfl := Option.some.inj hF
          exact hJ150 _ ⟨rfl, rfl, rfl, rfl⟩
        · skip
          refine JL.fieldAddr fo_61_1 rfl (.some rfl rfl rfl hc151) rfl ?_
          refine JL.loadOwn 0 az_59 rfl rfl rfl (.some rfl rfl rfl hc151) rfl ?_
          obtain ⟨y152, hy152, hF⟩ := bind_some hF
          refine JL.callS (c_ref01_isLong n H137 y141.Stretch y152 hy152) rfl en_53 (.some rfl rfl rfl hc151) rfl ?_
          refine JL.not rfl (.some rfl rfl rfl hc151) rfl ?_
          refine JL.pick_f (b := (!y147)) rfl hc151 .none rfl ?_
          obtain rfl := Option.some.inj hF
          exact hJ150 _ ⟨rfl, rfl, rfl, rfl⟩
      · rintro f ⟨hf1, hf3, hf4, hf26⟩
        refine (JL.norm (i := 1) hf1 (JL.norm (i := 3) hf3 (JL.norm (i := 4) hf4 (JL.norm (i := 26) hf26 ?_))))
        refine JL.move .none rfl ?_
        obtain ⟨p154, hp154, hF⟩ := bind_some hF
        refine JL.cut 5 (fun f => f 1 = .pointer (some ⟨b1, 0, none⟩) ∧ f 3 = .int .i64 i_136 ∧ f 4 = .pointer (some ⟨b146, 0, none⟩) ∧ f 32 = .bool p154) ?_ ?_
        · intro hJ155
          rcases ite_some hp154 with ⟨hc156, hF⟩ | ⟨hc156, hF⟩
          · skip
            refine JL.skip (.bool rfl rfl rfl hc156) rfl ?_
            refine JL.skip (.bool rfl rfl rfl hc156) rfl ?_
            refine JL.skip (.bool rfl rfl rfl hc156) rfl ?_
            refine JL.skip (.bool rfl rfl rfl hc156) rfl ?_
            refine JL.pick_t (b := p149) rfl hc156 .none rfl ?_
            obtain rfl := Option.some.inj hF
            exact hJ155 _ ⟨rfl, rfl, rfl, rfl⟩
          · skip
            refine JL.fieldAddr fo_61_2 rfl (.some rfl rfl rfl hc156) rfl ?_
            refine JL.loadOwn 0 az_3 rfl rfl rfl (.some rfl rfl rfl hc156) rfl ?_
            obtain ⟨y157, hy157, hF⟩ := bind_some hF
            refine JL.callS (c_ref01_Within n H137 y141.Base 0 2000 y157 hy157) rfl en_54 (.some rfl rfl rfl hc156) rfl ?_
            refine JL.not rfl (.some rfl rfl rfl hc156) rfl ?_
            refine JL.pick_f (b := p149) rfl hc156 .none rfl ?_
            obtain rfl := Option.some.inj hF
            exact hJ155 _ ⟨rfl, rfl, rfl, rfl⟩
        · rintro f ⟨hf1, hf3, hf4, hf32⟩
          refine (JL.norm (i := 1) hf1 (JL.norm (i := 3) hf3 (JL.norm (i := 4) hf4 (JL.norm (i := 32) hf32 ?_))))
          refine JL.move .none rfl ?_
          obtain ⟨p159, hp159, hF⟩ := bind_some hF
          refine JL.cut 5 (fun f => f 1 = .pointer (some ⟨b1, 0, none⟩) ∧ f 3 = .int .i64 i_136 ∧ f 38 = .bool p159) ?_ ?_
          · intro hJ160
            rcases ite_some hp159 with ⟨hc161, hF⟩ | ⟨hc161, hF⟩
            · skip
              refine JL.skip (.bool rfl rfl rfl hc161) rfl ?_
              refine JL.skip (.bool rfl rfl rfl hc161) rfl ?_
              refine JL.skip (.bool rfl rfl rfl hc161) rfl ?_
              refine JL.skip (.bool rfl rfl rfl hc161) rfl ?_
              refine JL.pick_t (b := p154) rfl hc161 .none rfl ?_
              obtain rfl := Option.some.inj hF
              exact hJ160 _ ⟨rfl, rfl, rfl⟩
            · skip
              refine JL.fieldAddr fo_61_3 rfl (.some rfl rfl rfl hc161) rfl ?_
              refine JL.loadOwn 0 az_24 rfl rfl rfl (.some rfl rfl rfl hc161) rfl ?_
              obtain ⟨y162, hy162, hF⟩ := bind_some hF
              refine JL.callS (c_ref01_isShare n H137 y141.Gear y162 hy162) rfl en_55 (.some rfl rfl rfl hc161) rfl ?_
              refine JL.not rfl (.some rfl rfl rfl hc161) rfl ?_
              refine JL.pick_f (b := p154) rfl hc161 .none rfl ?_
              obtain rfl := Option.some.inj hF
              exact hJ160 _ ⟨rfl, rfl, rfl⟩
          · rintro f ⟨hf1, hf3, hf38⟩
            refine (JL.norm (i := 1) hf1 (JL.norm (i := 3) hf3 (JL.norm (i := 38) hf38 ?_)))
            refine JL.done hQ ?_
            refine JQ.go ?_
            rcases ite_some hF with ⟨hc163, hF⟩ | ⟨hc163, hF⟩
            · refine JC.cond_t (b := p159) rfl hc163 ?_
              refine JC.seq ?_
              refine JC.region (by rfl) ?_
              intro hQ
              refine JL.assign .none rfl ?_
              refine JL.done hQ ?_
              refine JQ.go ?_
              refine JC.ret ?_
              refine JQ.ret_block ?_
              refine JQ.ret_then ?_
              refine JQ.ret_then ?_
              refine JQ.ret_block ?_
              refine JQ.ret_join ?_
              refine JQ.ret_then ?_
              obtain rfl := Option.some.inj hF
              have ehr138 := hr138 _ rfl
              subst ehr138
              have hF := hKr83
              try dsimp only at hF
              obtain rfl := Option.some.inj hF
              exact JQ.outS rfl (.tmp .nil) rfl
            · refine JC.cond_f (b := p159) rfl hc163 ?_
              refine JC.skip ?_
              refine JQ.normal_block ?_
              refine JQ.go ?_
              refine JC.region (by rfl) ?_
              intro hQ
              refine JL.move .none rfl ?_
              refine JL.bin rfl rfl rfl .none rfl ?_
              refine JL.assign .none rfl ?_
              refine JL.done hQ ?_
              obtain rfl := Option.some.inj hF
              refine JQ.mask [false, true] [] ?_
              exact JQ.next rfl ⟨rfl, rfl, rfl, rfl, hs137⟩
    · refine JC.cond_f (b := decide (i_136 < (f_.Sections.length : Int))) rfl hc140 ?_
      refine JC.exit ?_
      refine JQ.exit_then ?_
      refine JQ.exit_then ?_
      refine JQ.exit_block ?_
      obtain rfl := Option.some.inj hF
      have ehr138 := hr138 _ rfl
      subst ehr138
      exact JQ.join () ⟨rfl, rfl, rfl, hs137, rfl⟩
  · rintro _ H82 f bs gs ⟨hf1, rfl, rfl, hs82, rfl⟩
    have hF := hKr83
    try dsimp only at hF
    refine (JQ.norm (i := 1) hf1 ?_)
    refine JQ.go ?_
    refine JC.seq ?_
    refine JC.seq ?_
    refine JC.region (by rfl) ?_
    intro hQ
    refine JL.fieldAddr fo_26_0 rfl .none rfl ?_
    refine JL.loadOwn 0 az_22 rfl rfl rfl .none rfl ?_
    refine JL.lenSL (R := R_Section) ul_22 (SL.mono R_Section_mono hs82 hf__0) .none rfl ?_
    obtain ⟨y164, hy164, hF⟩ := bind_some hF
    refine JL.callS (c_ref01_Within n H82 (f_.Sections.length : Int) 1 3 y164 hy164) rfl en_54 .none rfl ?_
    refine JL.not rfl .none rfl ?_
    refine JL.move .none rfl ?_
    obtain ⟨p166, hp166, hF⟩ := bind_some hF
    refine JL.cut 7 (fun f => f 1 = .pointer (some ⟨b1, 0, none⟩) ∧ f 51 = .bool p166) ?_ ?_
    · intro hJ167
      rcases ite_some hp166 with ⟨hc168, hF⟩ | ⟨hc168, hF⟩
      · skip
        refine JL.skip (.bool rfl rfl rfl hc168) rfl ?_
        refine JL.skip (.bool rfl rfl rfl hc168) rfl ?_
        refine JL.skip (.bool rfl rfl rfl hc168) rfl ?_
        refine JL.skip (.bool rfl rfl rfl hc168) rfl ?_
        refine JL.skip (.bool rfl rfl rfl hc168) rfl ?_
        refine JL.skip (.bool rfl rfl rfl hc168) rfl ?_
        refine JL.pick_t (b := (!y164)) rfl hc168 .none rfl ?_
        obtain rfl := Option.some.inj hF
        exact hJ167 _ ⟨rfl, rfl⟩
      · skip
        refine JL.fieldAddr fo_26_1 rfl (.some rfl rfl rfl hc168) rfl ?_
        refine JL.loadOwn 0 az_3 rfl rfl rfl (.some rfl rfl rfl hc168) rfl ?_
        refine JL.fieldAddr fo_26_2 rfl (.some rfl rfl rfl hc168) rfl ?_
        refine JL.loadOwn 0 az_3 rfl rfl rfl (.some rfl rfl rfl hc168) rfl ?_
        obtain ⟨y169, hy169, hF⟩ := bind_some hF
        refine JL.callS (c_ref01_Within n H82 f_.Low 1 f_.High y169 hy169) rfl en_54 (.some rfl rfl rfl hc168) rfl ?_
        refine JL.not rfl (.some rfl rfl rfl hc168) rfl ?_
        refine JL.pick_f (b := (!y164)) rfl hc168 .none rfl ?_
        obtain rfl := Option.some.inj hF
        exact hJ167 _ ⟨rfl, rfl⟩
    · rintro f ⟨hf1, hf51⟩
      refine (JL.norm (i := 1) hf1 (JL.norm (i := 51) hf51 ?_))
      refine JL.move .none rfl ?_
      refine JL.cut 4 (fun f => f 1 = .pointer (some ⟨b1, 0, none⟩) ∧ f 56 = .bool (p166 || (decide (2000 < f_.High)))) ?_ ?_
      · intro hJ170
        rcases bcases p166 with hc171 | hc171
        · skip
          refine JL.skip (.bool rfl rfl rfl hc171) rfl ?_
          refine JL.skip (.bool rfl rfl rfl hc171) rfl ?_
          refine JL.skip (.bool rfl rfl rfl hc171) rfl ?_
          refine JL.pick_t (b := p166) rfl hc171 .none rfl ?_
          exact hJ170 _ ⟨rfl, or_t hc171 rfl⟩
        · skip
          refine JL.fieldAddr fo_26_2 rfl (.some rfl rfl rfl hc171) rfl ?_
          refine JL.loadOwn 0 az_3 rfl rfl rfl (.some rfl rfl rfl hc171) rfl ?_
          refine JL.bin rfl rfl rfl (.some rfl rfl rfl hc171) rfl ?_
          refine JL.pick_f (b := p166) rfl hc171 .none rfl ?_
          exact hJ170 _ ⟨rfl, or_f hc171 rfl⟩
      · rintro f ⟨hf1, hf56⟩
        refine (JL.norm (i := 1) hf1 (JL.norm (i := 56) hf56 ?_))
        refine JL.move .none rfl ?_
        refine JL.cut 7 (fun f => f 1 = .pointer (some ⟨b1, 0, none⟩) ∧ f 64 = .bool ((p166 || (decide (2000 < f_.High))) || (decide (200 < (w64 (f_.High - f_.Low)))))) ?_ ?_
        · intro hJ172
          rcases bcases (p166 || (decide (2000 < f_.High))) with hc173 | hc173
          · skip
            refine JL.skip (.bool rfl rfl rfl hc173) rfl ?_
            refine JL.skip (.bool rfl rfl rfl hc173) rfl ?_
            refine JL.skip (.bool rfl rfl rfl hc173) rfl ?_
            refine JL.skip (.bool rfl rfl rfl hc173) rfl ?_
            refine JL.skip (.bool rfl rfl rfl hc173) rfl ?_
            refine JL.skip (.bool rfl rfl rfl hc173) rfl ?_
            refine JL.pick_t (b := (p166 || (decide (2000 < f_.High)))) rfl hc173 .none rfl ?_
            exact hJ172 _ ⟨rfl, or_t hc173 rfl⟩
          · skip
            refine JL.fieldAddr fo_26_2 rfl (.some rfl rfl rfl hc173) rfl ?_
            refine JL.loadOwn 0 az_3 rfl rfl rfl (.some rfl rfl rfl hc173) rfl ?_
            refine JL.fieldAddr fo_26_1 rfl (.some rfl rfl rfl hc173) rfl ?_
            refine JL.loadOwn 0 az_3 rfl rfl rfl (.some rfl rfl rfl hc173) rfl ?_
            refine JL.bin rfl rfl rfl (.some rfl rfl rfl hc173) rfl ?_
            refine JL.bin rfl rfl rfl (.some rfl rfl rfl hc173) rfl ?_
            refine JL.pick_f (b := (p166 || (decide (2000 < f_.High)))) rfl hc173 .none rfl ?_
            exact hJ172 _ ⟨rfl, or_f hc173 rfl⟩
        · rintro f ⟨hf1, hf64⟩
          refine (JL.norm (i := 1) hf1 (JL.norm (i := 64) hf64 ?_))
          refine JL.move .none rfl ?_
          obtain ⟨p175, hp175, hF⟩ := bind_some hF
          refine JL.cut 5 (fun f => f 1 = .pointer (some ⟨b1, 0, none⟩) ∧ f 70 = .bool p175) ?_ ?_
          · intro hJ176
            rcases ite_some hp175 with ⟨hc177, hF⟩ | ⟨hc177, hF⟩
            · skip
              refine JL.skip (.bool rfl rfl rfl hc177) rfl ?_
              refine JL.skip (.bool rfl rfl rfl hc177) rfl ?_
              refine JL.skip (.bool rfl rfl rfl hc177) rfl ?_
              refine JL.skip (.bool rfl rfl rfl hc177) rfl ?_
              refine JL.pick_t (b := ((p166 || (decide (2000 < f_.High))) || (decide (200 < (w64 (f_.High - f_.Low)))))) rfl hc177 .none rfl ?_
              obtain rfl := Option.some.inj hF
              exact hJ176 _ ⟨rfl, rfl⟩
            · skip
              refine JL.fieldAddr fo_26_3 rfl (.some rfl rfl rfl hc177) rfl ?_
              refine JL.loadOwn 0 az_24 rfl rfl rfl (.some rfl rfl rfl hc177) rfl ?_
              obtain ⟨y178, hy178, hF⟩ := bind_some hF
              refine JL.callS (c_ref01_isShare n H82 f_.Ease y178 hy178) rfl en_55 (.some rfl rfl rfl hc177) rfl ?_
              refine JL.not rfl (.some rfl rfl rfl hc177) rfl ?_
              refine JL.pick_f (b := ((p166 || (decide (2000 < f_.High))) || (decide (200 < (w64 (f_.High - f_.Low)))))) rfl hc177 .none rfl ?_
              obtain rfl := Option.some.inj hF
              exact hJ176 _ ⟨rfl, rfl⟩
          · rintro f ⟨hf1, hf70⟩
            refine (JL.norm (i := 1) hf1 (JL.norm (i := 70) hf70 ?_))
            refine JL.move .none rfl ?_
            obtain ⟨p180, hp180, hF⟩ := bind_some hF
            refine JL.cut 5 (fun f => f 1 = .pointer (some ⟨b1, 0, none⟩) ∧ f 76 = .bool p180) ?_ ?_
            · intro hJ181
              rcases ite_some hp180 with ⟨hc182, hF⟩ | ⟨hc182, hF⟩
              · skip
                refine JL.skip (.bool rfl rfl rfl hc182) rfl ?_
                refine JL.skip (.bool rfl rfl rfl hc182) rfl ?_
                refine JL.skip (.bool rfl rfl rfl hc182) rfl ?_
                refine JL.skip (.bool rfl rfl rfl hc182) rfl ?_
                refine JL.pick_t (b := p175) rfl hc182 .none rfl ?_
                obtain rfl := Option.some.inj hF
                exact hJ181 _ ⟨rfl, rfl⟩
              · skip
                refine JL.fieldAddr fo_26_4 rfl (.some rfl rfl rfl hc182) rfl ?_
                refine JL.loadOwn 0 az_3 rfl rfl rfl (.some rfl rfl rfl hc182) rfl ?_
                obtain ⟨y183, hy183, hF⟩ := bind_some hF
                refine JL.callS (c_ref01_Within n H82 f_.Rod 0 4000 y183 hy183) rfl en_54 (.some rfl rfl rfl hc182) rfl ?_
                refine JL.not rfl (.some rfl rfl rfl hc182) rfl ?_
                refine JL.pick_f (b := p175) rfl hc182 .none rfl ?_
                obtain rfl := Option.some.inj hF
                exact hJ181 _ ⟨rfl, rfl⟩
            · rintro f ⟨hf1, hf76⟩
              refine (JL.norm (i := 1) hf1 (JL.norm (i := 76) hf76 ?_))
              refine JL.move .none rfl ?_
              obtain ⟨p185, hp185, hF⟩ := bind_some hF
              refine JL.cut 5 (fun f => f 82 = .bool p185) ?_ ?_
              · intro hJ186
                rcases ite_some hp185 with ⟨hc187, hF⟩ | ⟨hc187, hF⟩
                · skip
                  refine JL.skip (.bool rfl rfl rfl hc187) rfl ?_
                  refine JL.skip (.bool rfl rfl rfl hc187) rfl ?_
                  refine JL.skip (.bool rfl rfl rfl hc187) rfl ?_
                  refine JL.skip (.bool rfl rfl rfl hc187) rfl ?_
                  refine JL.pick_t (b := p180) rfl hc187 .none rfl ?_
                  obtain rfl := Option.some.inj hF
                  exact hJ186 _ (rfl)
                · skip
                  refine JL.fieldAddr fo_26_5 rfl (.some rfl rfl rfl hc187) rfl ?_
                  refine JL.loadOwn 0 az_3 rfl rfl rfl (.some rfl rfl rfl hc187) rfl ?_
                  obtain ⟨y188, hy188, hF⟩ := bind_some hF
                  refine JL.callS (c_ref01_Within n H82 f_.Case 0 4000 y188 hy188) rfl en_54 (.some rfl rfl rfl hc187) rfl ?_
                  refine JL.not rfl (.some rfl rfl rfl hc187) rfl ?_
                  refine JL.pick_f (b := p180) rfl hc187 .none rfl ?_
                  obtain rfl := Option.some.inj hF
                  exact hJ186 _ (rfl)
              · rintro f hf82
                refine (JL.norm (i := 82) hf82 ?_)
                refine JL.done hQ ?_
                refine JQ.go ?_
                rcases ite_some hF with ⟨hc189, hF⟩ | ⟨hc189, hF⟩
                · refine JC.cond_t (b := p185) rfl hc189 ?_
                  refine JC.seq ?_
                  refine JC.region (by rfl) ?_
                  intro hQ
                  refine JL.assign .none rfl ?_
                  refine JL.done hQ ?_
                  refine JQ.go ?_
                  refine JC.ret ?_
                  refine JQ.ret_then ?_
                  obtain rfl := Option.some.inj hF
                  exact JQ.outS rfl (.tmp .nil) rfl
                · refine JC.cond_f (b := p185) rfl hc189 ?_
                  refine JC.skip ?_
                  refine JQ.go ?_
                  refine JC.seq ?_
                  refine JC.region (by rfl) ?_
                  intro hQ
                  refine JL.assign .none rfl ?_
                  refine JL.done hQ ?_
                  refine JQ.go ?_
                  refine JC.ret ?_
                  obtain rfl := Option.some.inj hF
                  exact JQ.outS rfl (.tmp .nil) rfl

-- 11 ferrule/ferrulelaw01.Far
def F_law01_Far (n : Nat) (f_ : Frame) : Option Bool :=
  (if decide (40 < (f_.Sections.length : Int)) = true then (some true) else ((F_ref01_Check n f_).bind fun y8 => some ((y8 == 0) && (decide (60 ≤ (w64 (f_.High - f_.Low)))))) : Option Bool).bind fun p5 => some p5
set_option maxRecDepth 100000 in
set_option maxHeartbeats 40000000 in
theorem c_law01_Far (n : Nat) (H : Hp) (f_ : Frame) (f__v0 : Value) (hf__0 : SL H 7 R_Section f__v0 f_.Sections) (y : Bool) (hF : F_law01_Far n f_ = some y) : SC Try.prog 11 [.agg [f__v0, .int .i64 f_.Low, .int .i64 f_.High, .int .i64 f_.Ease.Num, .int .i64 f_.Ease.Den, .int .i64 f_.Rod, .int .i64 f_.Case].toArray] (.bool y) H := by
  rw [F_law01_Far] at hF
  refine SC.of (N := 20) Try.func11 rfl rfl rfl fun w => ?_
  refine JC.seq ?_
  refine JC.region (by rfl) ?_
  intro hQ
  refine JL.box (cs := [f__v0, .int .i64 f_.Low, .int .i64 f_.High, .int .i64 f_.Ease.Num, .int .i64 f_.Ease.Den, .int .i64 f_.Rod, .int .i64 f_.Case]) rfl .none rfl ?_
  intro b1
  refine JL.assign .none rfl ?_
  refine JL.done hQ ?_
  refine JQ.go ?_
  refine JC.seq ?_
  refine JC.region (by rfl) ?_
  intro hQ
  refine JL.fieldAddr fo_26_0 rfl .none rfl ?_
  refine JL.loadOwn 0 az_22 rfl rfl rfl .none rfl ?_
  refine JL.lenSL (R := R_Section) ul_22 hf__0 .none rfl ?_
  refine JL.bin rfl rfl rfl .none rfl ?_
  refine JL.move .none rfl ?_
  obtain ⟨p5, hp5, hF⟩ := bind_some hF
  refine JL.cut 12 (fun f => f 19 = .bool p5) ?_ ?_
  · intro hJ6
    rcases ite_some hp5 with ⟨hc7, hF⟩ | ⟨hc7, hF⟩
    · skip
      refine JL.skip (.bool rfl rfl rfl hc7) rfl ?_
      refine JL.skip (.bool rfl rfl rfl hc7) rfl ?_
      refine JL.skip (.bool rfl rfl rfl hc7) rfl ?_
      refine JL.skip (.bool rfl rfl rfl hc7) rfl ?_
      refine JL.skip (.no rfl rfl rfl) rfl ?_
      refine JL.skip (.no rfl rfl rfl) rfl ?_
      refine JL.skip (.no rfl rfl rfl) rfl ?_
      refine JL.skip (.no rfl rfl rfl) rfl ?_
      refine JL.skip (.no rfl rfl rfl) rfl ?_
      refine JL.skip (.no rfl rfl rfl) rfl ?_
      refine JL.skip (.bool rfl rfl rfl hc7) rfl ?_
      refine JL.pick_t (b := decide (40 < (f_.Sections.length : Int))) rfl hc7 .none rfl ?_
      obtain rfl := Option.some.inj hF
      exact hJ6 _ (rfl)
    · skip
      refine JL.loadOwn 0 az_26 rfl rfl rfl (.some rfl rfl rfl hc7) rfl ?_
      obtain ⟨y8, hy8, hF⟩ := bind_some hF
      refine JL.callS (c_ref01_Check n H f_ f__v0 hf__0 y8 hy8) rfl en_15 (.some rfl rfl rfl hc7) rfl ?_
      refine JL.bin rfl rfl rfl (.some rfl rfl rfl hc7) rfl ?_
      refine JL.move (.some rfl rfl rfl hc7) rfl ?_
      refine JL.cut 7 (fun f => f 7 = .bool (decide (40 < (f_.Sections.length : Int))) ∧ f 18 = .bool ((y8 == 0) && (decide (60 ≤ (w64 (f_.High - f_.Low)))))) ?_ ?_
      · intro hJ9
        rcases bcases (y8 == 0) with hc10 | hc10
        · skip
          refine JL.fieldAddr fo_26_2 rfl (.some rfl rfl rfl hc10) rfl ?_
          refine JL.loadOwn 0 az_3 rfl rfl rfl (.some rfl rfl rfl hc10) rfl ?_
          refine JL.fieldAddr fo_26_1 rfl (.some rfl rfl rfl hc10) rfl ?_
          refine JL.loadOwn 0 az_3 rfl rfl rfl (.some rfl rfl rfl hc10) rfl ?_
          refine JL.bin rfl rfl rfl (.some rfl rfl rfl hc10) rfl ?_
          refine JL.bin rfl rfl rfl (.some rfl rfl rfl hc10) rfl ?_
          refine JL.pick_t (b := (y8 == 0)) rfl hc10 (.some rfl rfl rfl hc7) rfl ?_
          exact hJ9 _ ⟨rfl, and_t hc10 rfl⟩
        · skip
          refine JL.skip (.bool rfl rfl rfl hc10) rfl ?_
          refine JL.skip (.bool rfl rfl rfl hc10) rfl ?_
          refine JL.skip (.bool rfl rfl rfl hc10) rfl ?_
          refine JL.skip (.bool rfl rfl rfl hc10) rfl ?_
          refine JL.skip (.bool rfl rfl rfl hc10) rfl ?_
          refine JL.skip (.bool rfl rfl rfl hc10) rfl ?_
          refine JL.pick_f (b := (y8 == 0)) rfl hc10 (.some rfl rfl rfl hc7) rfl ?_
          exact hJ9 _ ⟨rfl, and_f hc10 rfl⟩
      · rintro f ⟨hf7, hf18⟩
        refine (JL.norm (i := 7) hf7 (JL.norm (i := 18) hf18 ?_))
        refine JL.pick_f (b := decide (40 < (f_.Sections.length : Int))) rfl hc7 .none rfl ?_
        obtain rfl := Option.some.inj hF
        exact hJ6 _ (rfl)
  · rintro f hf19
    refine (JL.norm (i := 19) hf19 ?_)
    refine JL.assign .none rfl ?_
    refine JL.done hQ ?_
    refine JQ.go ?_
    refine JC.ret ?_
    obtain rfl := Option.some.inj hF
    exact JQ.outS rfl (.tmp .nil) rfl

-- 47 ferrule/ferrulelaw01.Example
def F_law01_Example (n : Nat)  : Option Frame :=
  some (Frame.mk [(Section.mk (Span.mk 50 52) (Span.mk 60 60) 0 (Frac.mk 1 1)), (Section.mk (Span.mk 40 40) (Span.mk 45 46) 5 (Frac.mk 1 2))] 20 100 (Frac.mk 1 20) 300 351)
set_option maxRecDepth 100000 in
set_option maxHeartbeats 40000000 in
theorem c_law01_Example (n : Nat) (H : Hp)  (y : Frame) (hF : F_law01_Example n = some y) : HC Try.prog 47 [] H (fun H' v => ∃ ra_v0 : Value, v = .agg [ra_v0, .int .i64 y.Low, .int .i64 y.High, .int .i64 y.Ease.Num, .int .i64 y.Ease.Den, .int .i64 y.Rod, .int .i64 y.Case].toArray ∧ SL H' 7 R_Section ra_v0 y.Sections) := by
  rw [F_law01_Example] at hF
  refine HC.of (N := 12) Try.func47 rfl rfl rfl fun w => ?_
  refine JC.seq ?_
  refine JC.region (by rfl) ?_
  intro hQ
  refine JL.alloc ze_26 .none rfl ?_
  intro b1
  refine JL.done hQ ?_
  refine JQ.go ?_
  refine JC.seq ?_
  refine JC.region (by rfl) ?_
  intro hQ
  refine JL.build (l := [.int .i64 50, .int .i64 52]) (by kernel_rfl) .none rfl ?_
  refine JL.build (l := [.int .i64 60, .int .i64 60]) (by kernel_rfl) .none rfl ?_
  refine JL.build (l := [.int .i64 1, .int .i64 1]) (by kernel_rfl) .none rfl ?_
  refine JL.build (l := [.int .i64 50, .int .i64 52, .int .i64 60, .int .i64 60, .int .i64 0, .int .i64 1, .int .i64 1]) (by kernel_rfl) .none rfl ?_
  refine JL.build (l := [.int .i64 40, .int .i64 40]) (by kernel_rfl) .none rfl ?_
  refine JL.build (l := [.int .i64 45, .int .i64 46]) (by kernel_rfl) .none rfl ?_
  refine JL.build (l := [.int .i64 1, .int .i64 2]) (by kernel_rfl) .none rfl ?_
  refine JL.build (l := [.int .i64 40, .int .i64 40, .int .i64 45, .int .i64 46, .int .i64 5, .int .i64 1, .int .i64 2]) (by kernel_rfl) .none rfl ?_
  refine JL.buildSlice (e := 61) (l := [.int .i64 50, .int .i64 52, .int .i64 60, .int .i64 60, .int .i64 0, .int .i64 1, .int .i64 1, .int .i64 40, .int .i64 40, .int .i64 45, .int .i64 46, .int .i64 5, .int .i64 1, .int .i64 2]) (by kernel_rfl) .none rfl ?_
  intro b2
  refine JL.build (l := [.int .i64 1, .int .i64 20]) (by kernel_rfl) .none rfl ?_
  refine JL.build (l := [.slice (some ⟨b2, 0, none⟩) 2 2, .int .i64 20, .int .i64 100, .int .i64 1, .int .i64 20, .int .i64 300, .int .i64 351]) (by kernel_rfl) .none rfl ?_
  refine JL.storeOwn 1 (cs := [.slice (some ⟨b2, 0, none⟩) 2 2, .int .i64 20, .int .i64 100, .int .i64 1, .int .i64 20, .int .i64 300, .int .i64 351]) az_26 rfl rfl rfl (one_cons rfl (one_cons rfl (one_cons rfl (one_cons rfl (one_cons rfl (one_cons rfl (one_cons rfl one_nil))))))) rfl rfl .none ?_
  refine JL.done hQ ?_
  refine JQ.go ?_
  refine JC.ret ?_
  refine JQ.freezeC 0 (l := [.int .i64 50, .int .i64 52, .int .i64 60, .int .i64 60, .int .i64 0, .int .i64 1, .int .i64 1, .int .i64 40, .int .i64 40, .int .i64 45, .int .i64 46, .int .i64 5, .int .i64 1, .int .i64 2]) rfl ?_
  intro H3 hs3 hc4
  have hg5 : SL H3 7 R_Section (.slice (some ⟨b2, 0, none⟩) 2 2) [(Section.mk (Span.mk 50 52) (Span.mk 60 60) 0 (Frac.mk 1 1)), (Section.mk (Span.mk 40 40) (Span.mk 45 46) 5 (Frac.mk 1 2))] := CH.sl (l := [(Section.mk (Span.mk 50 52) (Span.mk 60 60) 0 (Frac.mk 1 1)), (Section.mk (Span.mk 40 40) (Span.mk 45 46) 5 (Frac.mk 1 2))]) (CH.cons (cs := [.int .i64 50, .int .i64 52, .int .i64 60, .int .i64 60, .int .i64 0, .int .i64 1, .int .i64 1]) rfl rfl (CH.cons (cs := [.int .i64 40, .int .i64 40, .int .i64 45, .int .i64 46, .int .i64 5, .int .i64 1, .int .i64 2]) rfl rfl CH.nil)) hc4 ⟨by simp, by simp⟩
  obtain rfl := Option.some.inj hF
  exact JQ.outH rfl (.cell 0 az_26 rfl rfl rfl .nil) ⟨(.slice (some ⟨b2, 0, none⟩) 2 2), rfl, hg5⟩

-- 50 ferrule/frames.within
def F_frames_within (n : Nat) (n_ : Int) (low : Int) (high : Int) : Option Bool :=
  some ((decide (low ≤ n_)) && (decide (n_ ≤ high)))
set_option maxRecDepth 100000 in
set_option maxHeartbeats 40000000 in
theorem c_frames_within (n : Nat) (H : Hp) (n_ : Int) (low : Int) (high : Int) (y : Bool) (hF : F_frames_within n n_ low high = some y) : SC Try.prog 50 [.int .i64 n_, .int .i64 low, .int .i64 high] (.bool y) H := by
  rw [F_frames_within] at hF
  refine SC.of (N := 15) Try.func50 rfl rfl rfl fun w => ?_
  refine JC.seq ?_
  refine JC.region (by rfl) ?_
  intro hQ
  refine JL.assign .none rfl ?_
  refine JL.done hQ ?_
  refine JQ.go ?_
  refine JC.seq ?_
  refine JC.region (by rfl) ?_
  intro hQ
  refine JL.move .none rfl ?_
  refine JL.move .none rfl ?_
  refine JL.bin rfl rfl rfl .none rfl ?_
  refine JL.move .none rfl ?_
  refine JL.cut 4 (fun f => f 14 = .bool ((decide (low ≤ n_)) && (decide (n_ ≤ high)))) ?_ ?_
  · intro hJ1
    rcases bcases (decide (low ≤ n_)) with hc2 | hc2
    · skip
      refine JL.move (.some rfl rfl rfl hc2) rfl ?_
      refine JL.move (.some rfl rfl rfl hc2) rfl ?_
      refine JL.bin rfl rfl rfl (.some rfl rfl rfl hc2) rfl ?_
      refine JL.pick_t (b := decide (low ≤ n_)) rfl hc2 .none rfl ?_
      exact hJ1 _ (and_t hc2 rfl)
    · skip
      refine JL.skip (.bool rfl rfl rfl hc2) rfl ?_
      refine JL.skip (.bool rfl rfl rfl hc2) rfl ?_
      refine JL.skip (.bool rfl rfl rfl hc2) rfl ?_
      refine JL.pick_f (b := decide (low ≤ n_)) rfl hc2 .none rfl ?_
      exact hJ1 _ (and_f hc2 rfl)
  · rintro f hf14
    refine (JL.norm (i := 14) hf14 ?_)
    refine JL.assign .none rfl ?_
    refine JL.done hQ ?_
    refine JQ.go ?_
    refine JC.ret ?_
    obtain rfl := Option.some.inj hF
    exact JQ.outS rfl (.tmp .nil) rfl

-- 49 ferrule/frames.isPart
def F_frames_isPart (n : Nat) (s : Span) : Option Bool :=
  (F_frames_within n s.Low 1 s.High).bind fun y2 => some ((y2 && (decide (s.High ≤ 2000))) && (decide ((w64 (s.High - s.Low)) ≤ 6)))
set_option maxRecDepth 100000 in
set_option maxHeartbeats 40000000 in
theorem c_frames_isPart (n : Nat) (H : Hp) (s : Span) (y : Bool) (hF : F_frames_isPart n s = some y) : SC Try.prog 49 [.agg [.int .i64 s.Low, .int .i64 s.High].toArray] (.bool y) H := by
  rw [F_frames_isPart] at hF
  refine SC.of (N := 21) Try.func49 rfl rfl rfl fun w => ?_
  refine JC.seq ?_
  refine JC.region (by rfl) ?_
  intro hQ
  refine JL.box (cs := [.int .i64 s.Low, .int .i64 s.High]) rfl .none rfl ?_
  intro b1
  refine JL.assign .none rfl ?_
  refine JL.done hQ ?_
  refine JQ.go ?_
  refine JC.seq ?_
  refine JC.region (by rfl) ?_
  intro hQ
  refine JL.fieldAddr fo_59_0 rfl .none rfl ?_
  refine JL.loadOwn 0 az_3 rfl rfl rfl .none rfl ?_
  refine JL.fieldAddr fo_59_1 rfl .none rfl ?_
  refine JL.loadOwn 0 az_3 rfl rfl rfl .none rfl ?_
  obtain ⟨y2, hy2, hF⟩ := bind_some hF
  refine JL.callS (c_frames_within n H s.Low 1 s.High y2 hy2) rfl en_50 .none rfl ?_
  refine JL.move .none rfl ?_
  refine JL.cut 4 (fun f => f 1 = .pointer (some ⟨b1, 0, none⟩) ∧ f 12 = .bool (y2 && (decide (s.High ≤ 2000)))) ?_ ?_
  · intro hJ3
    rcases bcases y2 with hc4 | hc4
    · skip
      refine JL.fieldAddr fo_59_1 rfl (.some rfl rfl rfl hc4) rfl ?_
      refine JL.loadOwn 0 az_3 rfl rfl rfl (.some rfl rfl rfl hc4) rfl ?_
      refine JL.bin rfl rfl rfl (.some rfl rfl rfl hc4) rfl ?_
      refine JL.pick_t (b := y2) rfl hc4 .none rfl ?_
      exact hJ3 _ ⟨rfl, and_t hc4 rfl⟩
    · skip
      refine JL.skip (.bool rfl rfl rfl hc4) rfl ?_
      refine JL.skip (.bool rfl rfl rfl hc4) rfl ?_
      refine JL.skip (.bool rfl rfl rfl hc4) rfl ?_
      refine JL.pick_f (b := y2) rfl hc4 .none rfl ?_
      exact hJ3 _ ⟨rfl, and_f hc4 rfl⟩
  · rintro f ⟨hf1, hf12⟩
    refine (JL.norm (i := 1) hf1 (JL.norm (i := 12) hf12 ?_))
    refine JL.move .none rfl ?_
    refine JL.cut 7 (fun f => f 20 = .bool ((y2 && (decide (s.High ≤ 2000))) && (decide ((w64 (s.High - s.Low)) ≤ 6)))) ?_ ?_
    · intro hJ5
      rcases bcases (y2 && (decide (s.High ≤ 2000))) with hc6 | hc6
      · skip
        refine JL.fieldAddr fo_59_1 rfl (.some rfl rfl rfl hc6) rfl ?_
        refine JL.loadOwn 0 az_3 rfl rfl rfl (.some rfl rfl rfl hc6) rfl ?_
        refine JL.fieldAddr fo_59_0 rfl (.some rfl rfl rfl hc6) rfl ?_
        refine JL.loadOwn 0 az_3 rfl rfl rfl (.some rfl rfl rfl hc6) rfl ?_
        refine JL.bin rfl rfl rfl (.some rfl rfl rfl hc6) rfl ?_
        refine JL.bin rfl rfl rfl (.some rfl rfl rfl hc6) rfl ?_
        refine JL.pick_t (b := (y2 && (decide (s.High ≤ 2000)))) rfl hc6 .none rfl ?_
        exact hJ5 _ (and_t hc6 rfl)
      · skip
        refine JL.skip (.bool rfl rfl rfl hc6) rfl ?_
        refine JL.skip (.bool rfl rfl rfl hc6) rfl ?_
        refine JL.skip (.bool rfl rfl rfl hc6) rfl ?_
        refine JL.skip (.bool rfl rfl rfl hc6) rfl ?_
        refine JL.skip (.bool rfl rfl rfl hc6) rfl ?_
        refine JL.skip (.bool rfl rfl rfl hc6) rfl ?_
        refine JL.pick_f (b := (y2 && (decide (s.High ≤ 2000)))) rfl hc6 .none rfl ?_
        exact hJ5 _ (and_f hc6 rfl)
    · rintro f hf20
      refine (JL.norm (i := 20) hf20 ?_)
      refine JL.assign .none rfl ?_
      refine JL.done hQ ?_
      refine JQ.go ?_
      refine JC.ret ?_
      obtain rfl := Option.some.inj hF
      exact JQ.outS rfl (.tmp .nil) rfl

-- 51 ferrule/frames.isShare
def F_frames_isShare (n : Nat) (f_ : Frac) : Option Bool :=
  (F_frames_within n f_.Den 1 20).bind fun y2 => (if y2 = true then ((F_frames_within n f_.Num 0 f_.Den).bind fun y7 => some y7) else (some false) : Option Bool).bind fun p4 => some p4
set_option maxRecDepth 100000 in
set_option maxHeartbeats 40000000 in
theorem c_frames_isShare (n : Nat) (H : Hp) (f_ : Frac) (y : Bool) (hF : F_frames_isShare n f_ = some y) : SC Try.prog 51 [.agg [.int .i64 f_.Num, .int .i64 f_.Den].toArray] (.bool y) H := by
  rw [F_frames_isShare] at hF
  refine SC.of (N := 13) Try.func51 rfl rfl rfl fun w => ?_
  refine JC.seq ?_
  refine JC.region (by rfl) ?_
  intro hQ
  refine JL.box (cs := [.int .i64 f_.Num, .int .i64 f_.Den]) rfl .none rfl ?_
  intro b1
  refine JL.assign .none rfl ?_
  refine JL.done hQ ?_
  refine JQ.go ?_
  refine JC.seq ?_
  refine JC.region (by rfl) ?_
  intro hQ
  refine JL.fieldAddr fo_24_1 rfl .none rfl ?_
  refine JL.loadOwn 0 az_3 rfl rfl rfl .none rfl ?_
  obtain ⟨y2, hy2, hF⟩ := bind_some hF
  refine JL.callS (c_frames_within n H f_.Den 1 20 y2 hy2) rfl en_50 .none rfl ?_
  refine JL.move .none rfl ?_
  obtain ⟨p4, hp4, hF⟩ := bind_some hF
  refine JL.cut 6 (fun f => f 12 = .bool p4) ?_ ?_
  · intro hJ5
    rcases ite_some hp4 with ⟨hc6, hF⟩ | ⟨hc6, hF⟩
    · skip
      refine JL.fieldAddr fo_24_0 rfl (.some rfl rfl rfl hc6) rfl ?_
      refine JL.loadOwn 0 az_3 rfl rfl rfl (.some rfl rfl rfl hc6) rfl ?_
      refine JL.fieldAddr fo_24_1 rfl (.some rfl rfl rfl hc6) rfl ?_
      refine JL.loadOwn 0 az_3 rfl rfl rfl (.some rfl rfl rfl hc6) rfl ?_
      obtain ⟨y7, hy7, hF⟩ := bind_some hF
      refine JL.callS (c_frames_within n H f_.Num 0 f_.Den y7 hy7) rfl en_50 (.some rfl rfl rfl hc6) rfl ?_
      refine JL.pick_t (b := y2) rfl hc6 .none rfl ?_
      obtain rfl := Option.some.inj hF
      exact hJ5 _ (rfl)
    · skip
      refine JL.skip (.bool rfl rfl rfl hc6) rfl ?_
      refine JL.skip (.bool rfl rfl rfl hc6) rfl ?_
      refine JL.skip (.bool rfl rfl rfl hc6) rfl ?_
      refine JL.skip (.bool rfl rfl rfl hc6) rfl ?_
      refine JL.skip (.bool rfl rfl rfl hc6) rfl ?_
      refine JL.pick_f (b := y2) rfl hc6 .none rfl ?_
      obtain rfl := Option.some.inj hF
      exact hJ5 _ (rfl)
  · rintro f hf12
    refine (JL.norm (i := 12) hf12 ?_)
    refine JL.assign .none rfl ?_
    refine JL.done hQ ?_
    refine JQ.go ?_
    refine JC.ret ?_
    obtain rfl := Option.some.inj hF
    exact JQ.outS rfl (.tmp .nil) rfl

-- 48 ferrule/frames.Check$1
def F_frames_Check_1 (n : Nat) (s : Section) : Option Bool :=
  (F_frames_isPart n s.Arm).bind fun y2 => (if (!y2) = true then (some true) else ((F_frames_isPart n s.Stretch).bind fun y7 => some (!y7)) : Option Bool).bind fun p4 => (if p4 = true then (some true) else ((F_frames_within n s.Base 0 2000).bind fun y12 => some (!y12)) : Option Bool).bind fun p9 => (if p9 = true then (some true) else ((F_frames_isShare n s.Gear).bind fun y17 => some (!y17)) : Option Bool).bind fun p14 => some p14
set_option maxRecDepth 100000 in
set_option maxHeartbeats 40000000 in
theorem c_frames_Check_1 (n : Nat) (H : Hp) (s : Section) (y : Bool) (hF : F_frames_Check_1 n s = some y) : SC Try.prog 48 [.agg [.int .i64 s.Arm.Low, .int .i64 s.Arm.High, .int .i64 s.Stretch.Low, .int .i64 s.Stretch.High, .int .i64 s.Base, .int .i64 s.Gear.Num, .int .i64 s.Gear.Den].toArray] (.bool y) H := by
  rw [F_frames_Check_1] at hF
  refine SC.of (N := 25) Try.func48 rfl rfl rfl fun w => ?_
  refine JC.seq ?_
  refine JC.region (by rfl) ?_
  intro hQ
  refine JL.box (cs := [.int .i64 s.Arm.Low, .int .i64 s.Arm.High, .int .i64 s.Stretch.Low, .int .i64 s.Stretch.High, .int .i64 s.Base, .int .i64 s.Gear.Num, .int .i64 s.Gear.Den]) rfl .none rfl ?_
  intro b1
  refine JL.assign .none rfl ?_
  refine JL.done hQ ?_
  refine JQ.go ?_
  refine JC.seq ?_
  refine JC.region (by rfl) ?_
  intro hQ
  refine JL.fieldAddr fo_61_0 rfl .none rfl ?_
  refine JL.loadOwn 0 az_59 rfl rfl rfl .none rfl ?_
  obtain ⟨y2, hy2, hF⟩ := bind_some hF
  refine JL.callS (c_frames_isPart n H s.Arm y2 hy2) rfl en_49 .none rfl ?_
  refine JL.not rfl .none rfl ?_
  refine JL.move .none rfl ?_
  obtain ⟨p4, hp4, hF⟩ := bind_some hF
  refine JL.cut 5 (fun f => f 1 = .pointer (some ⟨b1, 0, none⟩) ∧ f 12 = .bool p4) ?_ ?_
  · intro hJ5
    rcases ite_some hp4 with ⟨hc6, hF⟩ | ⟨hc6, hF⟩
    · skip
      refine JL.skip (.bool rfl rfl rfl hc6) rfl ?_
      refine JL.skip (.bool rfl rfl rfl hc6) rfl ?_
      refine JL.skip (.bool rfl rfl rfl hc6) rfl ?_
      refine JL.skip (.bool rfl rfl rfl hc6) rfl ?_
      refine JL.pick_t (b := (!y2)) rfl hc6 .none rfl ?_
      obtain rfl := Option.some.inj hF
      exact hJ5 _ ⟨rfl, rfl⟩
    · skip
      refine JL.fieldAddr fo_61_1 rfl (.some rfl rfl rfl hc6) rfl ?_
      refine JL.loadOwn 0 az_59 rfl rfl rfl (.some rfl rfl rfl hc6) rfl ?_
      obtain ⟨y7, hy7, hF⟩ := bind_some hF
      refine JL.callS (c_frames_isPart n H s.Stretch y7 hy7) rfl en_49 (.some rfl rfl rfl hc6) rfl ?_
      refine JL.not rfl (.some rfl rfl rfl hc6) rfl ?_
      refine JL.pick_f (b := (!y2)) rfl hc6 .none rfl ?_
      obtain rfl := Option.some.inj hF
      exact hJ5 _ ⟨rfl, rfl⟩
  · rintro f ⟨hf1, hf12⟩
    refine (JL.norm (i := 1) hf1 (JL.norm (i := 12) hf12 ?_))
    refine JL.move .none rfl ?_
    obtain ⟨p9, hp9, hF⟩ := bind_some hF
    refine JL.cut 5 (fun f => f 1 = .pointer (some ⟨b1, 0, none⟩) ∧ f 18 = .bool p9) ?_ ?_
    · intro hJ10
      rcases ite_some hp9 with ⟨hc11, hF⟩ | ⟨hc11, hF⟩
      · skip
        refine JL.skip (.bool rfl rfl rfl hc11) rfl ?_
        refine JL.skip (.bool rfl rfl rfl hc11) rfl ?_
        refine JL.skip (.bool rfl rfl rfl hc11) rfl ?_
        refine JL.skip (.bool rfl rfl rfl hc11) rfl ?_
        refine JL.pick_t (b := p4) rfl hc11 .none rfl ?_
        obtain rfl := Option.some.inj hF
        exact hJ10 _ ⟨rfl, rfl⟩
      · skip
        refine JL.fieldAddr fo_61_2 rfl (.some rfl rfl rfl hc11) rfl ?_
        refine JL.loadOwn 0 az_3 rfl rfl rfl (.some rfl rfl rfl hc11) rfl ?_
        obtain ⟨y12, hy12, hF⟩ := bind_some hF
        refine JL.callS (c_frames_within n H s.Base 0 2000 y12 hy12) rfl en_50 (.some rfl rfl rfl hc11) rfl ?_
        refine JL.not rfl (.some rfl rfl rfl hc11) rfl ?_
        refine JL.pick_f (b := p4) rfl hc11 .none rfl ?_
        obtain rfl := Option.some.inj hF
        exact hJ10 _ ⟨rfl, rfl⟩
    · rintro f ⟨hf1, hf18⟩
      refine (JL.norm (i := 1) hf1 (JL.norm (i := 18) hf18 ?_))
      refine JL.move .none rfl ?_
      obtain ⟨p14, hp14, hF⟩ := bind_some hF
      refine JL.cut 5 (fun f => f 24 = .bool p14) ?_ ?_
      · intro hJ15
        rcases ite_some hp14 with ⟨hc16, hF⟩ | ⟨hc16, hF⟩
        · skip
          refine JL.skip (.bool rfl rfl rfl hc16) rfl ?_
          refine JL.skip (.bool rfl rfl rfl hc16) rfl ?_
          refine JL.skip (.bool rfl rfl rfl hc16) rfl ?_
          refine JL.skip (.bool rfl rfl rfl hc16) rfl ?_
          refine JL.pick_t (b := p9) rfl hc16 .none rfl ?_
          obtain rfl := Option.some.inj hF
          exact hJ15 _ (rfl)
        · skip
          refine JL.fieldAddr fo_61_3 rfl (.some rfl rfl rfl hc16) rfl ?_
          refine JL.loadOwn 0 az_24 rfl rfl rfl (.some rfl rfl rfl hc16) rfl ?_
          obtain ⟨y17, hy17, hF⟩ := bind_some hF
          refine JL.callS (c_frames_isShare n H s.Gear y17 hy17) rfl en_51 (.some rfl rfl rfl hc16) rfl ?_
          refine JL.not rfl (.some rfl rfl rfl hc16) rfl ?_
          refine JL.pick_f (b := p9) rfl hc16 .none rfl ?_
          obtain rfl := Option.some.inj hF
          exact hJ15 _ (rfl)
      · rintro f hf24
        refine (JL.norm (i := 24) hf24 ?_)
        refine JL.assign .none rfl ?_
        refine JL.done hQ ?_
        refine JQ.go ?_
        refine JC.ret ?_
        obtain rfl := Option.some.inj hF
        exact JQ.outS rfl (.tmp .nil) rfl

-- 74 slices.IndexFunc[[]ferrule/api.Section,ferrule/api.Section]
def F_slices_IndexFunc___api_Section_api_Section__s1 (n : Nat) (s : List Section) (f_ : Section → Option Bool) : Int → Option (Int ⊕ (Int ⊕ Unit))
  | x_55 => if decide (x_55 < (s.length : Int)) = true then ((geti s x_55).bind fun y60 => (f_ y60).bind fun y65 => if y65 = true then (some (Sum.inr (Sum.inl x_55))) else (some (Sum.inl (w64 (x_55 + 1))))) else (some (Sum.inr (Sum.inr ())))
def F_slices_IndexFunc___api_Section_api_Section_ (n : Nat) (s : List Section) (f_ : Section → Option Bool) : Option Int :=
  (loopO n (F_slices_IndexFunc___api_Section_api_Section__s1 n s f_) 0).bind fun r34 => match r34 with | .inl o => some o | .inr _ => some (-1)
set_option maxRecDepth 100000 in
set_option maxHeartbeats 40000000 in
theorem c_slices_IndexFunc___api_Section_api_Section_ (n : Nat) (H : Hp) (s : List Section) (s_v0 : Value) (hs_0 : SL H 7 R_Section s_v0 s) (f_ : Section → Option Bool) (f__k : Nat) (f__c : List Value) (f__e : Ent Try.prog f__k) (f__h : ∀ H', HSub H H' → ∀ (a0_ : Section) (y : Bool), f_ a0_ = some y → SC Try.prog f__k ([.agg [.int .i64 a0_.Arm.Low, .int .i64 a0_.Arm.High, .int .i64 a0_.Stretch.Low, .int .i64 a0_.Stretch.High, .int .i64 a0_.Base, .int .i64 a0_.Gear.Num, .int .i64 a0_.Gear.Den].toArray] ++ f__c) (.bool y) H') (y : Int) (hF : F_slices_IndexFunc___api_Section_api_Section_ n s f_ = some y) : SC Try.prog 74 [s_v0, .func (.func f__k) #[] f__c.toArray] (.int .i64 y) H := by
  rw [F_slices_IndexFunc___api_Section_api_Section_] at hF
  refine SC.of (N := 19) Try.func74 rfl rfl rfl fun w => ?_
  refine JC.seq ?_
  refine JC.region (by rfl) ?_
  intro hQ
  refine JL.assign .none rfl ?_
  refine JL.done hQ ?_
  refine JQ.go ?_
  refine JC.seq ?_
  refine JC.seq ?_
  refine JC.region (by rfl) ?_
  intro hQ
  refine JL.move .none rfl ?_
  refine JL.lenSL (R := R_Section) ul_22 hs_0 .none rfl ?_
  refine JL.move .none rfl ?_
  refine JL.done hQ ?_
  refine JQ.go ?_
  obtain ⟨r34, hlr34, hKr34⟩ := bind_some hF
  refine JC.join (fun (_ : Unit) H33 f bs gs => bs = [] ∧ gs = [] ∧ HSub H H33 ∧ Sum.inr () = r34) ?_ ?_
  · skip
    refine JC.block ?_
    refine JC.loop hlr34 (fun (x_55 : Int) H56 f bs gs => f 0 = s_v0 ∧ f 1 = .func (.func f__k) #[] f__c.toArray ∧ f 7 = .int .i64 (s.length : Int) ∧ f 8 = .int .i64 x_55 ∧ bs = [] ∧ gs = [] ∧ HSub H H56) ⟨rfl, rfl, rfl, rfl, rfl, rfl, (HSub.refl _)⟩ ?_
    rintro x_55 x58 H56 f bs gs ⟨hf0, hf1, hf7, hf8, rfl, rfl, hs56⟩ hF hr57
    rw [F_slices_IndexFunc___api_Section_api_Section__s1] at hF
    refine (JC.norm (i := 0) hf0 (JC.norm (i := 1) hf1 (JC.norm (i := 7) hf7 (JC.norm (i := 8) hf8 ?_))))
    refine JC.seq ?_
    refine JC.region (by rfl) ?_
    intro hQ
    refine JL.bin rfl rfl rfl .none rfl ?_
    refine JL.done hQ ?_
    refine JQ.go ?_
    refine JC.seq ?_
    rcases ite_some hF with ⟨hc59, hF⟩ | ⟨hc59, hF⟩
    · refine JC.cond_t (b := decide (x_55 < (s.length : Int))) rfl hc59 ?_
      refine JC.skip ?_
      refine JQ.go ?_
      refine JC.seq ?_
      refine JC.block ?_
      refine JC.seq ?_
      refine JC.region (by rfl) ?_
      intro hQ
      refine JL.move .none rfl ?_
      refine JL.assign .none rfl ?_
      refine JL.done hQ ?_
      refine JQ.go ?_
      refine JC.seq ?_
      refine JC.region (by rfl) ?_
      intro hQ
      refine JL.move .none rfl ?_
      refine JL.move .none rfl ?_
      refine JL.move .none rfl ?_
      obtain ⟨y60, hy60, hF⟩ := bind_some hF
      refine JL.indexSL (R := R_Section) sl_22 (SL.mono R_Section_mono hs56 hs_0) rfl hy60 .none rfl ?_
      rintro b61 o62 cs63 hc64 - rfl
      refine JL.loadH 0 az_61 rfl hc64 rfl .none rfl ?_
      obtain ⟨y65, hy65, hF⟩ := bind_some hF
      refine JL.callV rfl (f__h H56 hs56 y60 y65 hy65) rfl f__e .none rfl ?_
      refine JL.done hQ ?_
      refine JQ.go ?_
      rcases ite_some hF with ⟨hc66, hF⟩ | ⟨hc66, hF⟩
      · refine JC.cond_t (b := y65) rfl hc66 ?_
        refine JC.seq ?_
        refine JC.region (by rfl) ?_
        intro hQ
        refine JL.move .none rfl ?_
        refine JL.assign .none rfl ?_
        refine JL.done hQ ?_
        refine JQ.go ?_
        refine JC.fresh (fun f => f 4 = .int .i64 x_55) rfl ?_
        rintro f hf4
        refine (JC.norm (i := 4) hf4 ?_)
        refine JC.ret ?_
        refine JQ.ret_block ?_
        refine JQ.ret_then ?_
        refine JQ.ret_then ?_
        refine JQ.ret_block ?_
        refine JQ.ret_join ?_
        refine JQ.ret_then ?_
        obtain rfl := Option.some.inj hF
        have ehr57 := hr57 _ rfl
        subst ehr57
        have hF := hKr34
        try dsimp only at hF
        obtain rfl := Option.some.inj hF
        exact JQ.outS rfl (.tmp .nil) rfl
      · refine JC.cond_f (b := y65) rfl hc66 ?_
        refine JC.skip ?_
        refine JQ.normal_block ?_
        refine JQ.go ?_
        refine JC.region (by rfl) ?_
        intro hQ
        refine JL.bin rfl rfl rfl .none rfl ?_
        refine JL.move .none rfl ?_
        refine JL.done hQ ?_
        obtain rfl := Option.some.inj hF
        exact JQ.next rfl ⟨rfl, rfl, rfl, rfl, rfl, rfl, hs56⟩
    · refine JC.cond_f (b := decide (x_55 < (s.length : Int))) rfl hc59 ?_
      refine JC.exit ?_
      refine JQ.exit_then ?_
      refine JQ.exit_then ?_
      refine JQ.exit_block ?_
      obtain rfl := Option.some.inj hF
      have ehr57 := hr57 _ rfl
      subst ehr57
      exact JQ.join () ⟨rfl, rfl, hs56, rfl⟩
  · rintro _ H33 f bs gs ⟨rfl, rfl, hs33, rfl⟩
    have hF := hKr34
    try dsimp only at hF
    refine JQ.go ?_
    refine JC.seq ?_
    refine JC.region (by rfl) ?_
    intro hQ
    refine JL.assign .none rfl ?_
    refine JL.done hQ ?_
    refine JQ.go ?_
    refine JC.ret ?_
    obtain rfl := Option.some.inj hF
    exact JQ.outS rfl (.tmp .nil) rfl

-- 52 slices.ContainsFunc[[]ferrule/api.Section,ferrule/api.Section]
def F_slices_ContainsFunc___api_Section_api_Section_ (n : Nat) (s : List Section) (f_ : Section → Option Bool) : Option Bool :=
  (F_slices_IndexFunc___api_Section_api_Section_ n s f_).bind fun y1 => some (decide (0 ≤ y1))
set_option maxRecDepth 100000 in
set_option maxHeartbeats 40000000 in
theorem c_slices_ContainsFunc___api_Section_api_Section_ (n : Nat) (H : Hp) (s : List Section) (s_v0 : Value) (hs_0 : SL H 7 R_Section s_v0 s) (f_ : Section → Option Bool) (f__k : Nat) (f__c : List Value) (f__e : Ent Try.prog f__k) (f__h : ∀ H', HSub H H' → ∀ (a0_ : Section) (y : Bool), f_ a0_ = some y → SC Try.prog f__k ([.agg [.int .i64 a0_.Arm.Low, .int .i64 a0_.Arm.High, .int .i64 a0_.Stretch.Low, .int .i64 a0_.Stretch.High, .int .i64 a0_.Base, .int .i64 a0_.Gear.Num, .int .i64 a0_.Gear.Den].toArray] ++ f__c) (.bool y) H') (y : Bool) (hF : F_slices_ContainsFunc___api_Section_api_Section_ n s f_ = some y) : SC Try.prog 52 [s_v0, .func (.func f__k) #[] f__c.toArray] (.bool y) H := by
  rw [F_slices_ContainsFunc___api_Section_api_Section_] at hF
  refine SC.of (N := 9) Try.func52 rfl rfl rfl fun w => ?_
  refine JC.seq ?_
  refine JC.region (by rfl) ?_
  intro hQ
  refine JL.assign .none rfl ?_
  refine JL.done hQ ?_
  refine JQ.go ?_
  refine JC.seq ?_
  refine JC.region (by rfl) ?_
  intro hQ
  refine JL.move .none rfl ?_
  refine JL.move .none rfl ?_
  obtain ⟨y1, hy1, hF⟩ := bind_some hF
  refine JL.callS (c_slices_IndexFunc___api_Section_api_Section_ n H s s_v0 hs_0 f_ f__k f__c f__e (fun H' hs' => f__h H' hs') y1 hy1) rfl en_74 .none rfl ?_
  refine JL.bin rfl rfl rfl .none rfl ?_
  refine JL.assign .none rfl ?_
  refine JL.done hQ ?_
  refine JQ.go ?_
  refine JC.ret ?_
  obtain rfl := Option.some.inj hF
  exact JQ.outS rfl (.tmp .nil) rfl

end Go.Proofs.Ytmgnhaibbeinbaa
