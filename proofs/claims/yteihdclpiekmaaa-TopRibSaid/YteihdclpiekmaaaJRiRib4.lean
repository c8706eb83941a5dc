/-
  A part of the proof of RiRib: the texts RiGenK4, RiGenK5.
-/
import Derived.Test.YteihdclpiekmaaaJRiRib3
section
set_option maxRecDepth 100000
set_option maxHeartbeats 40000000
namespace Go.Proofs.Yteihdclpiekmaaa
open Go Go.RowKit Go.Dec
set_option linter.unusedVariables false
-- 21 ferrule/ferruleref01.Check
def F_ref01_Check_s1 (n : Nat) (f_ : Frame) : Int → Option (Int ⊕ (Int ⊕ Unit))
 | i_136 => if decide (i_136 < (f_.Sections.length : Int)) = true then ((geti f_.Sections i_136).bind fun y141 => (F_ref01_isLong n y141.Arm).bind fun y147 => (if (!y147) = true then (some true) else ((F_ref01_isLong n y141.Stretch).bind fun y152 => some (!y152)) : Option Bool).bind fun p149 => (if p149 = true then (some true) else ((F_ref01_Within n y141.Base 0 2000).bind fun y157 => some (!y157)) : Option Bool).bind fun p154 => (if p154 = true then (some true) else ((F_ref01_isShare n y141.Gear).bind fun y162 => some (!y162)) : Option Bool).bind fun p159 => if p159 = true then (some (Sum.inr (Sum.inl 10))) else (some (Sum.inl (w64 (i_136 + 1))))) else (some (Sum.inr (Sum.inr ())))
def F_ref01_Check (n : Nat) (f_ : Frame) : Option Int :=
 (loopO n (F_ref01_Check_s1 n f_) 0).bind fun r83 => match r83 with | .inl o => some o | .inr _ => (F_ref01_Within n (f_.Sections.length : Int) 1 3).bind fun y164 => (if (!y164) = true then (some true) else ((F_ref01_Within n f_.Low 1 f_.High).bind fun y169 => some (!y169)) : Option Bool).bind fun p166 => (if ((p166 || (decide (2000 < f_.High))) || (decide (200 < (w64 (f_.High - f_.Low))))) = true then (some true) else ((F_ref01_isShare n f_.Ease).bind fun y178 => some (!y178)) : Option Bool).bind fun p175 => (if p175 = true then (some true) else ((F_ref01_Within n f_.Rod 0 4000).bind fun y183 => some (!y183)) : Option Bool).bind fun p180 => (if p180 = true then (some true) else ((F_ref01_Within n f_.Case 0 4000).bind fun y188 => some (!y188)) : Option Bool).bind fun p185 => if p185 = true then (some 10) else (some 0)
theorem c_ref01_Check (n : Nat) (H : Hp) (f_ : Frame) (f__v0 : Value) (hf__0 : SL H 7 R_Section f__v0 f_.Sections) (y : Int) (hF : F_ref01_Check n f_ = some y) : SC Try.prog 21 [.agg [f__v0, .int .i64 f_.Low, .int .i64 f_.High, .int .i64 f_.Ease.Num, .int .i64 f_.Ease.Den, .int .i64 f_.Rod, .int .i64 f_.Case].toArray] (.int .i64 y) H := by
 rw [F_ref01_Check] at hF
 refine SC.of (N := 83) Try.func21 rfl rfl rfl fun w => ?_
 refine JC.seq (JC.region (by rfl) ?_)
 intro hQ
 refine JL.box (cs := [f__v0, .int .i64 f_.Low, .int .i64 f_.High, .int .i64 f_.Ease.Num, .int .i64 f_.Ease.Den, .int .i64 f_.Rod, .int .i64 f_.Case]) rfl .none rfl ?_
 intro b1
 refine JL.assign .none rfl ?_
 refine JL.done hQ (JQ.go (JC.seq (JC.seq (JC.region (by rfl) ?_))))
 intro hQ
 refine JL.assign .none rfl ?_
 refine JL.done hQ (JQ.go ?_)
 obtain ⟨r83, hlr83, hKr83⟩ := bind_some hF
 refine JC.join (fun (_ : Unit) H82 f bs gs => f 1 = .pointer (some ⟨b1, 0, none⟩) ∧ bs = [(b1, .cells [f__v0, .int .i64 f_.Low, .int .i64 f_.High, .int .i64 f_.Ease.Num, .int .i64 f_.Ease.Den, .int .i64 f_.Rod, .int .i64 f_.Case].toArray 53)] ∧ gs = [] ∧ HSub H H82 ∧ Sum.inr () = r83) ?_ ?_
 ·skip
  refine JC.block (JC.loop hlr83 (fun (i_136 : Int) H137 f bs gs => f 1 = .pointer (some ⟨b1, 0, none⟩) ∧ f 3 = .int .i64 i_136 ∧ bs = [(b1, .cells [f__v0, .int .i64 f_.Low, .int .i64 f_.High, .int .i64 f_.Ease.Num, .int .i64 f_.Ease.Den, .int .i64 f_.Rod, .int .i64 f_.Case].toArray 53)] ∧ gs = [] ∧ HSub H H137) ⟨rfl, rfl, rfl, rfl, (HSub.refl _)⟩ ?_)
  rintro i_136 x139 H137 f bs gs ⟨hf1, hf3, rfl, rfl, hs137⟩ hF hr138
  rw [F_ref01_Check_s1] at hF
  refine (JC.norm (i := 1) hf1 (JC.norm (i := 3) hf3 ?_))
  refine JC.seq (JC.seq (JC.region (by rfl) ?_))
  intro hQ
  refine JL.move .none rfl ?_
  refine JL.fieldAddr fo_53_0 rfl .none rfl ?_
  refine JL.loadOwn 0 az_49 rfl rfl rfl .none rfl ?_
  refine JL.lenSL (R := R_Section) ul_49 (SL.mono R_Section_mono hs137 hf__0) .none rfl ?_
  refine JL.bin rfl rfl rfl .none rfl ?_
  refine JL.done hQ (JQ.go ?_)
  rcases ite_some hF with ⟨hc140, hF⟩ | ⟨hc140, hF⟩
  ·refine JC.cond_t (b := decide (i_136 < (f_.Sections.length : Int))) rfl hc140 ?_
   refine JC.skip (JQ.go (JC.seq (JC.block (JC.seq (JC.region (by rfl) ?_)))))
   intro hQ
   refine JL.fieldAddr fo_53_0 rfl .none rfl ?_
   refine JL.loadOwn 0 az_49 rfl rfl rfl .none rfl ?_
   refine JL.move .none rfl ?_
   obtain ⟨y141, hy141, hF⟩ := bind_some hF
   refine JL.indexSL (R := R_Section) sl_49 (SL.mono R_Section_mono hs137 hf__0) rfl hy141 .none rfl ?_
   rintro b142 o143 cs144 hc145 - rfl
   refine JL.loadH 0 az_68 rfl hc145 rfl .none rfl ?_
   refine JL.alloc ze_68 .none rfl ?_
   intro b146
   refine JL.storeOwn 0 (cs := [.int .i64 y141.Arm.Low, .int .i64 y141.Arm.High, .int .i64 y141.Stretch.Low, .int .i64 y141.Stretch.High, .int .i64 y141.Base, .int .i64 y141.Gear.Num, .int .i64 y141.Gear.Den]) az_68 rfl rfl rfl (one_cons rfl (one_cons rfl (one_cons rfl (one_cons rfl (one_cons rfl (one_cons rfl (one_cons rfl one_nil))))))) rfl rfl .none ?_
   refine JL.done hQ (JQ.go (JC.seq (JC.region (by rfl) ?_)))
   intro hQ
   refine JL.fieldAddr fo_68_0 rfl .none rfl ?_
   refine JL.loadOwn 0 az_39 rfl rfl rfl .none rfl ?_
   obtain ⟨y147, hy147, hF⟩ := bind_some hF
   refine JL.callS (c_ref01_isLong n H137 y141.Arm y147 hy147) rfl en_65 .none rfl ?_
   refine JL.not rfl .none rfl ?_
   refine JL.move .none rfl ?_
   obtain ⟨p149, hp149, hF⟩ := bind_some hF
   refine JL.cut 5 (fun f => f 1 = .pointer (some ⟨b1, 0, none⟩) ∧ f 3 = .int .i64 i_136 ∧ f 4 = .pointer (some ⟨b146, 0, none⟩) ∧ f 26 = .bool p149) ?_ ?_
   ·intro hJ150
    rcases ite_some hp149 with ⟨hc151, hF⟩ | ⟨hc151, hF⟩
    ·skip
     refine JL.skip (.bool rfl rfl rfl hc151) rfl ?_
     refine JL.skip (.bool rfl rfl rfl hc151) rfl ?_
     refine JL.skip (.bool rfl rfl rfl hc151) rfl ?_
     refine JL.skip (.bool rfl rfl rfl hc151) rfl ?_
     refine JL.pick_t (b := (!y147)) rfl hc151 .none rfl ?_
     obtain rfl := Option.some.inj hF
     exact hJ150 _ ⟨rfl, rfl, rfl, rfl⟩
    ·skip
     refine JL.fieldAddr fo_68_1 rfl (.some rfl rfl rfl hc151) rfl ?_
     refine JL.loadOwn 0 az_39 rfl rfl rfl (.some rfl rfl rfl hc151) rfl ?_
     obtain ⟨y152, hy152, hF⟩ := bind_some hF
     refine JL.callS (c_ref01_isLong n H137 y141.Stretch y152 hy152) rfl en_65 (.some rfl rfl rfl hc151) rfl ?_
     refine JL.not rfl (.some rfl rfl rfl hc151) rfl ?_
     refine JL.pick_f (b := (!y147)) rfl hc151 .none rfl ?_
     obtain rfl := Option.some.inj hF
     exact hJ150 _ ⟨rfl, rfl, rfl, rfl⟩
   ·rintro f ⟨hf1, hf3, hf4, hf26⟩
    refine (JL.norm (i := 1) hf1 (JL.norm (i := 3) hf3 (JL.norm (i := 4) hf4 (JL.norm (i := 26) hf26 ?_))))
    refine JL.move .none rfl ?_
    obtain ⟨p154, hp154, hF⟩ := bind_some hF
    refine JL.cut 5 (fun f => f 1 = .pointer (some ⟨b1, 0, none⟩) ∧ f 3 = .int .i64 i_136 ∧ f 4 = .pointer (some ⟨b146, 0, none⟩) ∧ f 32 = .bool p154) ?_ ?_
    ·intro hJ155
     rcases ite_some hp154 with ⟨hc156, hF⟩ | ⟨hc156, hF⟩
     ·skip
      refine JL.skip (.bool rfl rfl rfl hc156) rfl ?_
      refine JL.skip (.bool rfl rfl rfl hc156) rfl ?_
      refine JL.skip (.bool rfl rfl rfl hc156) rfl ?_
      refine JL.skip (.bool rfl rfl rfl hc156) rfl ?_
      refine JL.pick_t (b := p149) rfl hc156 .none rfl ?_
      obtain rfl := Option.some.inj hF
      exact hJ155 _ ⟨rfl, rfl, rfl, rfl⟩
     ·skip
      refine JL.fieldAddr fo_68_2 rfl (.some rfl rfl rfl hc156) rfl ?_
      refine JL.loadOwn 0 az_3 rfl rfl rfl (.some rfl rfl rfl hc156) rfl ?_
      obtain ⟨y157, hy157, hF⟩ := bind_some hF
      refine JL.callS (c_ref01_Within n H137 y141.Base 0 2000 y157 hy157) rfl en_66 (.some rfl rfl rfl hc156) rfl ?_
      refine JL.not rfl (.some rfl rfl rfl hc156) rfl ?_
      refine JL.pick_f (b := p149) rfl hc156 .none rfl ?_
      obtain rfl := Option.some.inj hF
      exact hJ155 _ ⟨rfl, rfl, rfl, rfl⟩
    ·rintro f ⟨hf1, hf3, hf4, hf32⟩
     refine (JL.norm (i := 1) hf1 (JL.norm (i := 3) hf3 (JL.norm (i := 4) hf4 (JL.norm (i := 32) hf32 ?_))))
     refine JL.move .none rfl ?_
     obtain ⟨p159, hp159, hF⟩ := bind_some hF
     refine JL.cut 5 (fun f => f 1 = .pointer (some ⟨b1, 0, none⟩) ∧ f 3 = .int .i64 i_136 ∧ f 38 = .bool p159) ?_ ?_
     ·intro hJ160
      rcases ite_some hp159 with ⟨hc161, hF⟩ | ⟨hc161, hF⟩
      ·skip
       refine JL.skip (.bool rfl rfl rfl hc161) rfl ?_
       refine JL.skip (.bool rfl rfl rfl hc161) rfl ?_
       refine JL.skip (.bool rfl rfl rfl hc161) rfl ?_
       refine JL.skip (.bool rfl rfl rfl hc161) rfl ?_
       refine JL.pick_t (b := p154) rfl hc161 .none rfl ?_
       obtain rfl := Option.some.inj hF
       exact hJ160 _ ⟨rfl, rfl, rfl⟩
      ·skip
       refine JL.fieldAddr fo_68_3 rfl (.some rfl rfl rfl hc161) rfl ?_
       refine JL.loadOwn 0 az_51 rfl rfl rfl (.some rfl rfl rfl hc161) rfl ?_
       obtain ⟨y162, hy162, hF⟩ := bind_some hF
       refine JL.callS (c_ref01_isShare n H137 y141.Gear y162 hy162) rfl en_67 (.some rfl rfl rfl hc161) rfl ?_
       refine JL.not rfl (.some rfl rfl rfl hc161) rfl ?_
       refine JL.pick_f (b := p154) rfl hc161 .none rfl ?_
       obtain rfl := Option.some.inj hF
       exact hJ160 _ ⟨rfl, rfl, rfl⟩
     ·rintro f ⟨hf1, hf3, hf38⟩
      refine (JL.norm (i := 1) hf1 (JL.norm (i := 3) hf3 (JL.norm (i := 38) hf38 ?_)))
      refine JL.done hQ (JQ.go ?_)
      rcases ite_some hF with ⟨hc163, hF⟩ | ⟨hc163, hF⟩
      ·refine JC.cond_t (b := p159) rfl hc163 ?_
       refine JC.seq (JC.region (by rfl) ?_)
       intro hQ
       refine JL.assign .none rfl ?_
       refine JL.done hQ (JQ.go (JC.ret (JQ.ret_block (JQ.ret_then (JQ.ret_then (JQ.ret_block (JQ.ret_join (JQ.ret_then ?_))))))))
       obtain rfl := Option.some.inj hF
       have ehr138 := hr138 _ rfl
       subst ehr138
       have hF := hKr83
       try dsimp only at hF
       obtain rfl := Option.some.inj hF
       exact JQ.outS rfl (.tmp .nil) rfl
      ·refine JC.cond_f (b := p159) rfl hc163 ?_
       refine JC.skip (JQ.normal_block (JQ.go (JC.region (by rfl) ?_)))
       intro hQ
       refine JL.move .none rfl ?_
       refine JL.bin rfl rfl rfl .none rfl ?_
       refine JL.assign .none rfl ?_
       refine JL.done hQ ?_
       obtain rfl := Option.some.inj hF
       refine JQ.mask [false, true] [] ?_
       exact JQ.next rfl ⟨rfl, rfl, rfl, rfl, hs137⟩
  ·refine JC.cond_f (b := decide (i_136 < (f_.Sections.length : Int))) rfl hc140 ?_
   refine JC.exit (JQ.exit_then (JQ.exit_then (JQ.exit_block ?_)))
   obtain rfl := Option.some.inj hF
   have ehr138 := hr138 _ rfl
   subst ehr138
   exact JQ.join () ⟨rfl, rfl, rfl, hs137, rfl⟩
 ·rintro _ H82 f bs gs ⟨hf1, rfl, rfl, hs82, rfl⟩
  have hF := hKr83
  try dsimp only at hF
  refine (JQ.norm (i := 1) hf1 ?_)
  refine JQ.go (JC.seq (JC.seq (JC.region (by rfl) ?_)))
  intro hQ
  refine JL.fieldAddr fo_53_0 rfl .none rfl ?_
  refine JL.loadOwn 0 az_49 rfl rfl rfl .none rfl ?_
  refine JL.lenSL (R := R_Section) ul_49 (SL.mono R_Section_mono hs82 hf__0) .none rfl ?_
  obtain ⟨y164, hy164, hF⟩ := bind_some hF
  refine JL.callS (c_ref01_Within n H82 (f_.Sections.length : Int) 1 3 y164 hy164) rfl en_66 .none rfl ?_
  refine JL.not rfl .none rfl ?_
  refine JL.move .none rfl ?_
  obtain ⟨p166, hp166, hF⟩ := bind_some hF
  refine JL.cut 7 (fun f => f 1 = .pointer (some ⟨b1, 0, none⟩) ∧ f 51 = .bool p166) ?_ ?_
  ·intro hJ167
   rcases ite_some hp166 with ⟨hc168, hF⟩ | ⟨hc168, hF⟩
   ·skip
    refine JL.skip (.bool rfl rfl rfl hc168) rfl ?_
    refine JL.skip (.bool rfl rfl rfl hc168) rfl ?_
    refine JL.skip (.bool rfl rfl rfl hc168) rfl ?_
    refine JL.skip (.bool rfl rfl rfl hc168) rfl ?_
    refine JL.skip (.bool rfl rfl rfl hc168) rfl ?_
    refine JL.skip (.bool rfl rfl rfl hc168) rfl ?_
    refine JL.pick_t (b := (!y164)) rfl hc168 .none rfl ?_
    obtain rfl := Option.some.inj hF
    exact hJ167 _ ⟨rfl, rfl⟩
   ·skip
    refine JL.fieldAddr fo_53_1 rfl (.some rfl rfl rfl hc168) rfl ?_
    refine JL.loadOwn 0 az_3 rfl rfl rfl (.some rfl rfl rfl hc168) rfl ?_
    refine JL.fieldAddr fo_53_2 rfl (.some rfl rfl rfl hc168) rfl ?_
    refine JL.loadOwn 0 az_3 rfl rfl rfl (.some rfl rfl rfl hc168) rfl ?_
    obtain ⟨y169, hy169, hF⟩ := bind_some hF
    refine JL.callS (c_ref01_Within n H82 f_.Low 1 f_.High y169 hy169) rfl en_66 (.some rfl rfl rfl hc168) rfl ?_
    refine JL.not rfl (.some rfl rfl rfl hc168) rfl ?_
    refine JL.pick_f (b := (!y164)) rfl hc168 .none rfl ?_
    obtain rfl := Option.some.inj hF
    exact hJ167 _ ⟨rfl, rfl⟩
  ·rintro f ⟨hf1, hf51⟩
   refine (JL.norm (i := 1) hf1 (JL.norm (i := 51) hf51 ?_))
   refine JL.move .none rfl ?_
   refine JL.cut 4 (fun f => f 1 = .pointer (some ⟨b1, 0, none⟩) ∧ f 56 = .bool (p166 || (decide (2000 < f_.High)))) ?_ ?_
   ·intro hJ170
    rcases bcases p166 with hc171 | hc171
    ·skip
     refine JL.skip (.bool rfl rfl rfl hc171) rfl ?_
     refine JL.skip (.bool rfl rfl rfl hc171) rfl ?_
     refine JL.skip (.bool rfl rfl rfl hc171) rfl ?_
     refine JL.pick_t (b := p166) rfl hc171 .none rfl ?_
     exact hJ170 _ ⟨rfl, or_t hc171 rfl⟩
    ·skip
     refine JL.fieldAddr fo_53_2 rfl (.some rfl rfl rfl hc171) rfl ?_
     refine JL.loadOwn 0 az_3 rfl rfl rfl (.some rfl rfl rfl hc171) rfl ?_
     refine JL.bin rfl rfl rfl (.some rfl rfl rfl hc171) rfl ?_
     refine JL.pick_f (b := p166) rfl hc171 .none rfl ?_
     exact hJ170 _ ⟨rfl, or_f hc171 rfl⟩
   ·rintro f ⟨hf1, hf56⟩
    refine (JL.norm (i := 1) hf1 (JL.norm (i := 56) hf56 ?_))
    refine JL.move .none rfl ?_
    refine JL.cut 7 (fun f => f 1 = .pointer (some ⟨b1, 0, none⟩) ∧ f 64 = .bool ((p166 || (decide (2000 < f_.High))) || (decide (200 < (w64 (f_.High - f_.Low)))))) ?_ ?_
    ·intro hJ172
     rcases bcases (p166 || (decide (2000 < f_.High))) with hc173 | hc173
     ·skip
      refine JL.skip (.bool rfl rfl rfl hc173) rfl ?_
      refine JL.skip (.bool rfl rfl rfl hc173) rfl ?_
      refine JL.skip (.bool rfl rfl rfl hc173) rfl ?_
      refine JL.skip (.bool rfl rfl rfl hc173) rfl ?_
      refine JL.skip (.bool rfl rfl rfl hc173) rfl ?_
      refine JL.skip (.bool rfl rfl rfl hc173) rfl ?_
      refine JL.pick_t (b := (p166 || (decide (2000 < f_.High)))) rfl hc173 .none rfl ?_
      exact hJ172 _ ⟨rfl, or_t hc173 rfl⟩
     ·skip
      refine JL.fieldAddr fo_53_2 rfl (.some rfl rfl rfl hc173) rfl ?_
      refine JL.loadOwn 0 az_3 rfl rfl rfl (.some rfl rfl rfl hc173) rfl ?_
      refine JL.fieldAddr fo_53_1 rfl (.some rfl rfl rfl hc173) rfl ?_
      refine JL.loadOwn 0 az_3 rfl rfl rfl (.some rfl rfl rfl hc173) rfl ?_
      refine JL.bin rfl rfl rfl (.some rfl rfl rfl hc173) rfl ?_
      refine JL.bin rfl rfl rfl (.some rfl rfl rfl hc173) rfl ?_
      refine JL.pick_f (b := (p166 || (decide (2000 < f_.High)))) rfl hc173 .none rfl ?_
      exact hJ172 _ ⟨rfl, or_f hc173 rfl⟩
    ·rintro f ⟨hf1, hf64⟩
     refine (JL.norm (i := 1) hf1 (JL.norm (i := 64) hf64 ?_))
     refine JL.move .none rfl ?_
     obtain ⟨p175, hp175, hF⟩ := bind_some hF
     refine JL.cut 5 (fun f => f 1 = .pointer (some ⟨b1, 0, none⟩) ∧ f 70 = .bool p175) ?_ ?_
     ·intro hJ176
      rcases ite_some hp175 with ⟨hc177, hF⟩ | ⟨hc177, hF⟩
      ·skip
       refine JL.skip (.bool rfl rfl rfl hc177) rfl ?_
       refine JL.skip (.bool rfl rfl rfl hc177) rfl ?_
       refine JL.skip (.bool rfl rfl rfl hc177) rfl ?_
       refine JL.skip (.bool rfl rfl rfl hc177) rfl ?_
       refine JL.pick_t (b := ((p166 || (decide (2000 < f_.High))) || (decide (200 < (w64 (f_.High - f_.Low)))))) rfl hc177 .none rfl ?_
       obtain rfl := Option.some.inj hF
       exact hJ176 _ ⟨rfl, rfl⟩
      ·skip
       refine JL.fieldAddr fo_53_3 rfl (.some rfl rfl rfl hc177) rfl ?_
       refine JL.loadOwn 0 az_51 rfl rfl rfl (.some rfl rfl rfl hc177) rfl ?_
       obtain ⟨y178, hy178, hF⟩ := bind_some hF
       refine JL.callS (c_ref01_isShare n H82 f_.Ease y178 hy178) rfl en_67 (.some rfl rfl rfl hc177) rfl ?_
       refine JL.not rfl (.some rfl rfl rfl hc177) rfl ?_
       refine JL.pick_f (b := ((p166 || (decide (2000 < f_.High))) || (decide (200 < (w64 (f_.High - f_.Low)))))) rfl hc177 .none rfl ?_
       obtain rfl := Option.some.inj hF
       exact hJ176 _ ⟨rfl, rfl⟩
     ·rintro f ⟨hf1, hf70⟩
      refine (JL.norm (i := 1) hf1 (JL.norm (i := 70) hf70 ?_))
      refine JL.move .none rfl ?_
      obtain ⟨p180, hp180, hF⟩ := bind_some hF
      refine JL.cut 5 (fun f => f 1 = .pointer (some ⟨b1, 0, none⟩) ∧ f 76 = .bool p180) ?_ ?_
      ·intro hJ181
       rcases ite_some hp180 with ⟨hc182, hF⟩ | ⟨hc182, hF⟩
       ·skip
        refine JL.skip (.bool rfl rfl rfl hc182) rfl ?_
        refine JL.skip (.bool rfl rfl rfl hc182) rfl ?_
        refine JL.skip (.bool rfl rfl rfl hc182) rfl ?_
        refine JL.skip (.bool rfl rfl rfl hc182) rfl ?_
        refine JL.pick_t (b := p175) rfl hc182 .none rfl ?_
        obtain rfl := Option.some.inj hF
        exact hJ181 _ ⟨rfl, rfl⟩
       ·skip
        refine JL.fieldAddr fo_53_4 rfl (.some rfl rfl rfl hc182) rfl ?_
        refine JL.loadOwn 0 az_3 rfl rfl rfl (.some rfl rfl rfl hc182) rfl ?_
        obtain ⟨y183, hy183, hF⟩ := bind_some hF
        refine JL.callS (c_ref01_Within n H82 f_.Rod 0 4000 y183 hy183) rfl en_66 (.some rfl rfl rfl hc182) rfl ?_
        refine JL.not rfl (.some rfl rfl rfl hc182) rfl ?_
        refine JL.pick_f (b := p175) rfl hc182 .none rfl ?_
        obtain rfl := Option.some.inj hF
        exact hJ181 _ ⟨rfl, rfl⟩
      ·rintro f ⟨hf1, hf76⟩
       refine (JL.norm (i := 1) hf1 (JL.norm (i := 76) hf76 ?_))
       refine JL.move .none rfl ?_
       obtain ⟨p185, hp185, hF⟩ := bind_some hF
       refine JL.cut 5 (fun f => f 82 = .bool p185) ?_ ?_
       ·intro hJ186
        rcases ite_some hp185 with ⟨hc187, hF⟩ | ⟨hc187, hF⟩
        ·skip
         refine JL.skip (.bool rfl rfl rfl hc187) rfl ?_
         refine JL.skip (.bool rfl rfl rfl hc187) rfl ?_
         refine JL.skip (.bool rfl rfl rfl hc187) rfl ?_
         refine JL.skip (.bool rfl rfl rfl hc187) rfl ?_
         refine JL.pick_t (b := p180) rfl hc187 .none rfl ?_
         obtain rfl := Option.some.inj hF
         exact hJ186 _ (rfl)
        ·skip
         refine JL.fieldAddr fo_53_5 rfl (.some rfl rfl rfl hc187) rfl ?_
         refine JL.loadOwn 0 az_3 rfl rfl rfl (.some rfl rfl rfl hc187) rfl ?_
         obtain ⟨y188, hy188, hF⟩ := bind_some hF
         refine JL.callS (c_ref01_Within n H82 f_.Case 0 4000 y188 hy188) rfl en_66 (.some rfl rfl rfl hc187) rfl ?_
         refine JL.not rfl (.some rfl rfl rfl hc187) rfl ?_
         refine JL.pick_f (b := p180) rfl hc187 .none rfl ?_
         obtain rfl := Option.some.inj hF
         exact hJ186 _ (rfl)
       ·rintro f hf82
        refine (JL.norm (i := 82) hf82 ?_)
        refine JL.done hQ (JQ.go ?_)
        rcases ite_some hF with ⟨hc189, hF⟩ | ⟨hc189, hF⟩
        ·refine JC.cond_t (b := p185) rfl hc189 ?_
         refine JC.seq (JC.region (by rfl) ?_)
         intro hQ
         refine JL.assign .none rfl ?_
         refine JL.done hQ (JQ.go (JC.ret (JQ.ret_then ?_)))
         obtain rfl := Option.some.inj hF
         exact JQ.outS rfl (.tmp .nil) rfl
        ·refine JC.cond_f (b := p185) rfl hc189 ?_
         refine JC.skip (JQ.go (JC.seq (JC.region (by rfl) ?_)))
         intro hQ
         refine JL.assign .none rfl ?_
         refine JL.done hQ (JQ.go (JC.ret ?_))
         obtain rfl := Option.some.inj hF
         exact JQ.outS rfl (.tmp .nil) rfl
-- 20 ferrule/ferrulelaw01.Far
def F_law01_Far (n : Nat) (f_ : Frame) : Option Bool :=
 (if decide (40 < (f_.Sections.length : Int)) = true then (some true) else ((F_ref01_Check n f_).bind fun y8 => some ((y8 == 0) && (decide (60 ≤ (w64 (f_.High - f_.Low)))))) : Option Bool).bind fun p5 => some p5
theorem c_law01_Far (n : Nat) (H : Hp) (f_ : Frame) (f__v0 : Value) (hf__0 : SL H 7 R_Section f__v0 f_.Sections) (y : Bool) (hF : F_law01_Far n f_ = some y) : SC Try.prog 20 [.agg [f__v0, .int .i64 f_.Low, .int .i64 f_.High, .int .i64 f_.Ease.Num, .int .i64 f_.Ease.Den, .int .i64 f_.Rod, .int .i64 f_.Case].toArray] (.bool y) H := by
 rw [F_law01_Far] at hF
 refine SC.of (N := 20) Try.func20 rfl rfl rfl fun w => ?_
 refine JC.seq (JC.region (by rfl) ?_)
 intro hQ
 refine JL.box (cs := [f__v0, .int .i64 f_.Low, .int .i64 f_.High, .int .i64 f_.Ease.Num, .int .i64 f_.Ease.Den, .int .i64 f_.Rod, .int .i64 f_.Case]) rfl .none rfl ?_
 intro b1
 refine JL.assign .none rfl ?_
 refine JL.done hQ (JQ.go (JC.seq (JC.region (by rfl) ?_)))
 intro hQ
 refine JL.fieldAddr fo_53_0 rfl .none rfl ?_
 refine JL.loadOwn 0 az_49 rfl rfl rfl .none rfl ?_
 refine JL.lenSL (R := R_Section) ul_49 hf__0 .none rfl ?_
 refine JL.bin rfl rfl rfl .none rfl ?_
 refine JL.move .none rfl ?_
 obtain ⟨p5, hp5, hF⟩ := bind_some hF
 refine JL.cut 12 (fun f => f 19 = .bool p5) ?_ ?_
 ·intro hJ6
  rcases ite_some hp5 with ⟨hc7, hF⟩ | ⟨hc7, hF⟩
  ·skip
   refine JL.skip (.bool rfl rfl rfl hc7) rfl ?_
   refine JL.skip (.bool rfl rfl rfl hc7) rfl ?_
   refine JL.skip (.bool rfl rfl rfl hc7) rfl ?_
   refine JL.skip (.bool rfl rfl rfl hc7) rfl ?_
   refine JL.skip (.no rfl rfl rfl) rfl ?_
   refine JL.skip (.no rfl rfl rfl) rfl ?_
   refine JL.skip (.no rfl rfl rfl) rfl ?_
   refine JL.skip (.no rfl rfl rfl) rfl ?_
   refine JL.skip (.no rfl rfl rfl) rfl ?_
   refine JL.skip (.no rfl rfl rfl) rfl ?_
   refine JL.skip (.bool rfl rfl rfl hc7) rfl ?_
   refine JL.pick_t (b := decide (40 < (f_.Sections.length : Int))) rfl hc7 .none rfl ?_
   obtain rfl := Option.some.inj hF
   exact hJ6 _ (rfl)
  ·skip
   refine JL.loadOwn 0 az_53 rfl rfl rfl (.some rfl rfl rfl hc7) rfl ?_
   obtain ⟨y8, hy8, hF⟩ := bind_some hF
   refine JL.callS (c_ref01_Check n H f_ f__v0 hf__0 y8 hy8) rfl en_21 (.some rfl rfl rfl hc7) rfl ?_
   refine JL.bin rfl rfl rfl (.some rfl rfl rfl hc7) rfl ?_
   refine JL.move (.some rfl rfl rfl hc7) rfl ?_
   refine JL.cut 7 (fun f => f 7 = .bool (decide (40 < (f_.Sections.length : Int))) ∧ f 18 = .bool ((y8 == 0) && (decide (60 ≤ (w64 (f_.High - f_.Low)))))) ?_ ?_
   ·intro hJ9
    rcases bcases (y8 == 0) with hc10 | hc10
    ·skip
     refine JL.fieldAddr fo_53_2 rfl (.some rfl rfl rfl hc10) rfl ?_
     refine JL.loadOwn 0 az_3 rfl rfl rfl (.some rfl rfl rfl hc10) rfl ?_
     refine JL.fieldAddr fo_53_1 rfl (.some rfl rfl rfl hc10) rfl ?_
     refine JL.loadOwn 0 az_3 rfl rfl rfl (.some rfl rfl rfl hc10) rfl ?_
     refine JL.bin rfl rfl rfl (.some rfl rfl rfl hc10) rfl ?_
     refine JL.bin rfl rfl rfl (.some rfl rfl rfl hc10) rfl ?_
     refine JL.pick_t (b := (y8 == 0)) rfl hc10 (.some rfl rfl rfl hc7) rfl ?_
     exact hJ9 _ ⟨rfl, and_t hc10 rfl⟩
    ·skip
     refine JL.skip (.bool rfl rfl rfl hc10) rfl ?_
     refine JL.skip (.bool rfl rfl rfl hc10) rfl ?_
     refine JL.skip (.bool rfl rfl rfl hc10) rfl ?_
     refine JL.skip (.bool rfl rfl rfl hc10) rfl ?_
     refine JL.skip (.bool rfl rfl rfl hc10) rfl ?_
     refine JL.skip (.bool rfl rfl rfl hc10) rfl ?_
     refine JL.pick_f (b := (y8 == 0)) rfl hc10 (.some rfl rfl rfl hc7) rfl ?_
     exact hJ9 _ ⟨rfl, and_f hc10 rfl⟩
   ·rintro f ⟨hf7, hf18⟩
    refine (JL.norm (i := 7) hf7 (JL.norm (i := 18) hf18 ?_))
    refine JL.pick_f (b := decide (40 < (f_.Sections.length : Int))) rfl hc7 .none rfl ?_
    obtain rfl := Option.some.inj hF
    exact hJ6 _ (rfl)
 ·rintro f hf19
  refine (JL.norm (i := 19) hf19 ?_)
  refine JL.assign .none rfl ?_
  refine JL.done hQ (JQ.go (JC.ret ?_))
  obtain rfl := Option.some.inj hF
  exact JQ.outS rfl (.tmp .nil) rfl
-- 23 ferrule/ferruleref01.IsSection
def F_ref01_IsSection (n : Nat) (f_ : Frame) (section_ : Int) : Option Bool :=
 (F_ref01_Within n section_ 0 (w64 ((f_.Sections.length : Int) - 1))).bind fun y2 => some y2
theorem c_ref01_IsSection (n : Nat) (H : Hp) (f_ : Frame) (f__v0 : Value) (hf__0 : SL H 7 R_Section f__v0 f_.Sections) (section_ : Int) (y : Bool) (hF : F_ref01_IsSection n f_ section_ = some y) : SC Try.prog 23 [.agg [f__v0, .int .i64 f_.Low, .int .i64 f_.High, .int .i64 f_.Ease.Num, .int .i64 f_.Ease.Den, .int .i64 f_.Rod, .int .i64 f_.Case].toArray, .int .i64 section_] (.bool y) H := by
 rw [F_ref01_IsSection] at hF
 refine SC.of (N := 11) Try.func23 rfl rfl rfl fun w => ?_
 refine JC.seq (JC.region (by rfl) ?_)
 intro hQ
 refine JL.box (cs := [f__v0, .int .i64 f_.Low, .int .i64 f_.High, .int .i64 f_.Ease.Num, .int .i64 f_.Ease.Den, .int .i64 f_.Rod, .int .i64 f_.Case]) rfl .none rfl ?_
 intro b1
 refine JL.assign .none rfl ?_
 refine JL.done hQ (JQ.go (JC.seq (JC.region (by rfl) ?_)))
 intro hQ
 refine JL.move .none rfl ?_
 refine JL.fieldAddr fo_53_0 rfl .none rfl ?_
 refine JL.loadOwn 0 az_49 rfl rfl rfl .none rfl ?_
 refine JL.lenSL (R := R_Section) ul_49 hf__0 .none rfl ?_
 refine JL.bin rfl rfl rfl .none rfl ?_
 obtain ⟨y2, hy2, hF⟩ := bind_some hF
 refine JL.callS (c_ref01_Within n H section_ 0 (w64 ((f_.Sections.length : Int) - 1)) y2 hy2) rfl en_66 .none rfl ?_
 refine JL.assign .none rfl ?_
 refine JL.done hQ (JQ.go (JC.ret ?_))
 obtain rfl := Option.some.inj hF
 exact JQ.outS rfl (.tmp .nil) rfl
-- 69 ferrule/ferrulelaw01.Example
def F_law01_Example (n : Nat)  : Option Frame :=
 some (Frame.mk [(Section.mk (Span.mk 50 52) (Span.mk 60 60) 0 (Frac.mk 1 1)), (Section.mk (Span.mk 40 40) (Span.mk 45 46) 5 (Frac.mk 1 2))] 20 100 (Frac.mk 1 20) 300 351)
theorem c_law01_Example (n : Nat) (H : Hp)  (y : Frame) (hF : F_law01_Example n = some y) : HC Try.prog 69 [] H (fun H' v => ∃ ra_v0 : Value, v = .agg [ra_v0, .int .i64 y.Low, .int .i64 y.High, .int .i64 y.Ease.Num, .int .i64 y.Ease.Den, .int .i64 y.Rod, .int .i64 y.Case].toArray ∧ SL H' 7 R_Section ra_v0 y.Sections) := by
 rw [F_law01_Example] at hF
 refine HC.of (N := 12) Try.func69 rfl rfl rfl fun w => ?_
 refine JC.seq (JC.region (by rfl) ?_)
 intro hQ
 refine JL.alloc ze_53 .none rfl ?_
 intro b1
 refine JL.done hQ (JQ.go (JC.seq (JC.region (by rfl) ?_)))
 intro hQ
 refine JL.build (l := [.int .i64 50, .int .i64 52]) (by kernel_rfl) .none rfl ?_
 refine JL.build (l := [.int .i64 60, .int .i64 60]) (by kernel_rfl) .none rfl ?_
 refine JL.build (l := [.int .i64 1, .int .i64 1]) (by kernel_rfl) .none rfl ?_
 refine JL.build (l := [.int .i64 50, .int .i64 52, .int .i64 60, .int .i64 60, .int .i64 0, .int .i64 1, .int .i64 1]) (by kernel_rfl) .none rfl ?_
 refine JL.build (l := [.int .i64 40, .int .i64 40]) (by kernel_rfl) .none rfl ?_
 refine JL.build (l := [.int .i64 45, .int .i64 46]) (by kernel_rfl) .none rfl ?_
 refine JL.build (l := [.int .i64 1, .int .i64 2]) (by kernel_rfl) .none rfl ?_
 refine JL.build (l := [.int .i64 40, .int .i64 40, .int .i64 45, .int .i64 46, .int .i64 5, .int .i64 1, .int .i64 2]) (by kernel_rfl) .none rfl ?_
 refine JL.buildSlice (e := 68) (l := [.int .i64 50, .int .i64 52, .int .i64 60, .int .i64 60, .int .i64 0, .int .i64 1, .int .i64 1, .int .i64 40, .int .i64 40, .int .i64 45, .int .i64 46, .int .i64 5, .int .i64 1, .int .i64 2]) (by kernel_rfl) .none rfl ?_
 intro b2
 refine JL.build (l := [.int .i64 1, .int .i64 20]) (by kernel_rfl) .none rfl ?_
 refine JL.build (l := [.slice (some ⟨b2, 0, none⟩) 2 2, .int .i64 20, .int .i64 100, .int .i64 1, .int .i64 20, .int .i64 300, .int .i64 351]) (by kernel_rfl) .none rfl ?_
 refine JL.storeOwn 1 (cs := [.slice (some ⟨b2, 0, none⟩) 2 2, .int .i64 20, .int .i64 100, .int .i64 1, .int .i64 20, .int .i64 300, .int .i64 351]) az_53 rfl rfl rfl (one_cons rfl (one_cons rfl (one_cons rfl (one_cons rfl (one_cons rfl (one_cons rfl (one_cons rfl one_nil))))))) rfl rfl .none ?_
 refine JL.done hQ (JQ.go (JC.ret (JQ.freezeC 0 (l := [.int .i64 50, .int .i64 52, .int .i64 60, .int .i64 60, .int .i64 0, .int .i64 1, .int .i64 1, .int .i64 40, .int .i64 40, .int .i64 45, .int .i64 46, .int .i64 5, .int .i64 1, .int .i64 2]) rfl ?_)))
 intro H3 hs3 hc4
 have hg5 : SL H3 7 R_Section (.slice (some ⟨b2, 0, none⟩) 2 2) [(Section.mk (Span.mk 50 52) (Span.mk 60 60) 0 (Frac.mk 1 1)), (Section.mk (Span.mk 40 40) (Span.mk 45 46) 5 (Frac.mk 1 2))] := CH.sl (l := [(Section.mk (Span.mk 50 52) (Span.mk 60 60) 0 (Frac.mk 1 1)), (Section.mk (Span.mk 40 40) (Span.mk 45 46) 5 (Frac.mk 1 2))]) (CH.cons (cs := [.int .i64 50, .int .i64 52, .int .i64 60, .int .i64 60, .int .i64 0, .int .i64 1, .int .i64 1]) rfl rfl (CH.cons (cs := [.int .i64 40, .int .i64 40, .int .i64 45, .int .i64 46, .int .i64 5, .int .i64 1, .int .i64 2]) rfl rfl CH.nil)) hc4 ⟨by simp, by simp⟩
 obtain rfl := Option.some.inj hF
 exact JQ.outH rfl (.cell 0 az_53 rfl rfl rfl .nil) ⟨(.slice (some ⟨b2, 0, none⟩) 2 2), rfl, hg5⟩
-- 124 ferrule/frames.within
def F_frames_within (n : Nat) (n_ : Int) (low : Int) (high : Int) : Option Bool :=
 some ((decide (low ≤ n_)) && (decide (n_ ≤ high)))
theorem c_frames_within (n : Nat) (H : Hp) (n_ : Int) (low : Int) (high : Int) (y : Bool) (hF : F_frames_within n n_ low high = some y) : SC Try.prog 124 [.int .i64 n_, .int .i64 low, .int .i64 high] (.bool y) H := by
 rw [F_frames_within] at hF
 refine SC.of (N := 15) Try.func124 rfl rfl rfl fun w => ?_
 refine JC.seq (JC.region (by rfl) ?_)
 intro hQ
 refine JL.assign .none rfl ?_
 refine JL.done hQ (JQ.go (JC.seq (JC.region (by rfl) ?_)))
 intro hQ
 refine JL.move .none rfl ?_
 refine JL.move .none rfl ?_
 refine JL.bin rfl rfl rfl .none rfl ?_
 refine JL.move .none rfl ?_
 refine JL.cut 4 (fun f => f 14 = .bool ((decide (low ≤ n_)) && (decide (n_ ≤ high)))) ?_ ?_
 ·intro hJ1
  rcases bcases (decide (low ≤ n_)) with hc2 | hc2
  ·skip
   refine JL.move (.some rfl rfl rfl hc2) rfl ?_
   refine JL.move (.some rfl rfl rfl hc2) rfl ?_
   refine JL.bin rfl rfl rfl (.some rfl rfl rfl hc2) rfl ?_
   refine JL.pick_t (b := decide (low ≤ n_)) rfl hc2 .none rfl ?_
   exact hJ1 _ (and_t hc2 rfl)
  ·skip
   refine JL.skip (.bool rfl rfl rfl hc2) rfl ?_
   refine JL.skip (.bool rfl rfl rfl hc2) rfl ?_
   refine JL.skip (.bool rfl rfl rfl hc2) rfl ?_
   refine JL.pick_f (b := decide (low ≤ n_)) rfl hc2 .none rfl ?_
   exact hJ1 _ (and_f hc2 rfl)
 ·rintro f hf14
  refine (JL.norm (i := 14) hf14 ?_)
  refine JL.assign .none rfl ?_
  refine JL.done hQ (JQ.go (JC.ret ?_))
  obtain rfl := Option.some.inj hF
  exact JQ.outS rfl (.tmp .nil) rfl
-- 128 ferrule/frames.isPart
def F_frames_isPart (n : Nat) (s : Span) : Option Bool :=
 (F_frames_within n s.Low 1 s.High).bind fun y2 => some ((y2 && (decide (s.High ≤ 2000))) && (decide ((w64 (s.High - s.Low)) ≤ 6)))
theorem c_frames_isPart (n : Nat) (H : Hp) (s : Span) (y : Bool) (hF : F_frames_isPart n s = some y) : SC Try.prog 128 [.agg [.int .i64 s.Low, .int .i64 s.High].toArray] (.bool y) H := by
 rw [F_frames_isPart] at hF
 refine SC.of (N := 21) Try.func128 rfl rfl rfl fun w => ?_
 refine JC.seq (JC.region (by rfl) ?_)
 intro hQ
 refine JL.box (cs := [.int .i64 s.Low, .int .i64 s.High]) rfl .none rfl ?_
 intro b1
 refine JL.assign .none rfl ?_
 refine JL.done hQ (JQ.go (JC.seq (JC.region (by rfl) ?_)))
 intro hQ
 refine JL.fieldAddr fo_39_0 rfl .none rfl ?_
 refine JL.loadOwn 0 az_3 rfl rfl rfl .none rfl ?_
 refine JL.fieldAddr fo_39_1 rfl .none rfl ?_
 refine JL.loadOwn 0 az_3 rfl rfl rfl .none rfl ?_
 obtain ⟨y2, hy2, hF⟩ := bind_some hF
 refine JL.callS (c_frames_within n H s.Low 1 s.High y2 hy2) rfl en_124 .none rfl ?_
 refine JL.move .none rfl ?_
 refine JL.cut 4 (fun f => f 1 = .pointer (some ⟨b1, 0, none⟩) ∧ f 12 = .bool (y2 && (decide (s.High ≤ 2000)))) ?_ ?_
 ·intro hJ3
  rcases bcases y2 with hc4 | hc4
  ·skip
   refine JL.fieldAddr fo_39_1 rfl (.some rfl rfl rfl hc4) rfl ?_
   refine JL.loadOwn 0 az_3 rfl rfl rfl (.some rfl rfl rfl hc4) rfl ?_
   refine JL.bin rfl rfl rfl (.some rfl rfl rfl hc4) rfl ?_
   refine JL.pick_t (b := y2) rfl hc4 .none rfl ?_
   exact hJ3 _ ⟨rfl, and_t hc4 rfl⟩
  ·skip
   refine JL.skip (.bool rfl rfl rfl hc4) rfl ?_
   refine JL.skip (.bool rfl rfl rfl hc4) rfl ?_
   refine JL.skip (.bool rfl rfl rfl hc4) rfl ?_
   refine JL.pick_f (b := y2) rfl hc4 .none rfl ?_
   exact hJ3 _ ⟨rfl, and_f hc4 rfl⟩
 ·rintro f ⟨hf1, hf12⟩
  refine (JL.norm (i := 1) hf1 (JL.norm (i := 12) hf12 ?_))
  refine JL.move .none rfl ?_
  refine JL.cut 7 (fun f => f 20 = .bool ((y2 && (decide (s.High ≤ 2000))) && (decide ((w64 (s.High - s.Low)) ≤ 6)))) ?_ ?_
  ·intro hJ5
   rcases bcases (y2 && (decide (s.High ≤ 2000))) with hc6 | hc6
   ·skip
    refine JL.fieldAddr fo_39_1 rfl (.some rfl rfl rfl hc6) rfl ?_
    refine JL.loadOwn 0 az_3 rfl rfl rfl (.some rfl rfl rfl hc6) rfl ?_
    refine JL.fieldAddr fo_39_0 rfl (.some rfl rfl rfl hc6) rfl ?_
    refine JL.loadOwn 0 az_3 rfl rfl rfl (.some rfl rfl rfl hc6) rfl ?_
    refine JL.bin rfl rfl rfl (.some rfl rfl rfl hc6) rfl ?_
    refine JL.bin rfl rfl rfl (.some rfl rfl rfl hc6) rfl ?_
    refine JL.pick_t (b := (y2 && (decide (s.High ≤ 2000)))) rfl hc6 .none rfl ?_
    exact hJ5 _ (and_t hc6 rfl)
   ·skip
    refine JL.skip (.bool rfl rfl rfl hc6) rfl ?_
    refine JL.skip (.bool rfl rfl rfl hc6) rfl ?_
    refine JL.skip (.bool rfl rfl rfl hc6) rfl ?_
    refine JL.skip (.bool rfl rfl rfl hc6) rfl ?_
    refine JL.skip (.bool rfl rfl rfl hc6) rfl ?_
    refine JL.skip (.bool rfl rfl rfl hc6) rfl ?_
    refine JL.pick_f (b := (y2 && (decide (s.High ≤ 2000)))) rfl hc6 .none rfl ?_
    exact hJ5 _ (and_f hc6 rfl)
  ·rintro f hf20
   refine (JL.norm (i := 20) hf20 ?_)
   refine JL.assign .none rfl ?_
   refine JL.done hQ (JQ.go (JC.ret ?_))
   obtain rfl := Option.some.inj hF
   exact JQ.outS rfl (.tmp .nil) rfl
-- 129 ferrule/frames.isShare
def F_frames_isShare (n : Nat) (f_ : Frac) : Option Bool :=
 (F_frames_within n f_.Den 1 20).bind fun y2 => (if y2 = true then ((F_frames_within n f_.Num 0 f_.Den).bind fun y7 => some y7) else (some false) : Option Bool).bind fun p4 => some p4
theorem c_frames_isShare (n : Nat) (H : Hp) (f_ : Frac) (y : Bool) (hF : F_frames_isShare n f_ = some y) : SC Try.prog 129 [.agg [.int .i64 f_.Num, .int .i64 f_.Den].toArray] (.bool y) H := by
 rw [F_frames_isShare] at hF
 refine SC.of (N := 13) Try.func129 rfl rfl rfl fun w => ?_
 refine JC.seq (JC.region (by rfl) ?_)
 intro hQ
 refine JL.box (cs := [.int .i64 f_.Num, .int .i64 f_.Den]) rfl .none rfl ?_
 intro b1
 refine JL.assign .none rfl ?_
 refine JL.done hQ (JQ.go (JC.seq (JC.region (by rfl) ?_)))
 intro hQ
 refine JL.fieldAddr fo_51_1 rfl .none rfl ?_
 refine JL.loadOwn 0 az_3 rfl rfl rfl .none rfl ?_
 obtain ⟨y2, hy2, hF⟩ := bind_some hF
 refine JL.callS (c_frames_within n H f_.Den 1 20 y2 hy2) rfl en_124 .none rfl ?_
 refine JL.move .none rfl ?_
 obtain ⟨p4, hp4, hF⟩ := bind_some hF
 refine JL.cut 6 (fun f => f 12 = .bool p4) ?_ ?_
 ·intro hJ5
  rcases ite_some hp4 with ⟨hc6, hF⟩ | ⟨hc6, hF⟩
  ·skip
   refine JL.fieldAddr fo_51_0 rfl (.some rfl rfl rfl hc6) rfl ?_
   refine JL.loadOwn 0 az_3 rfl rfl rfl (.some rfl rfl rfl hc6) rfl ?_
   refine JL.fieldAddr fo_51_1 rfl (.some rfl rfl rfl hc6) rfl ?_
   refine JL.loadOwn 0 az_3 rfl rfl rfl (.some rfl rfl rfl hc6) rfl ?_
   obtain ⟨y7, hy7, hF⟩ := bind_some hF
   refine JL.callS (c_frames_within n H f_.Num 0 f_.Den y7 hy7) rfl en_124 (.some rfl rfl rfl hc6) rfl ?_
   refine JL.pick_t (b := y2) rfl hc6 .none rfl ?_
   obtain rfl := Option.some.inj hF
   exact hJ5 _ (rfl)
  ·skip
   refine JL.skip (.bool rfl rfl rfl hc6) rfl ?_
   refine JL.skip (.bool rfl rfl rfl hc6) rfl ?_
   refine JL.skip (.bool rfl rfl rfl hc6) rfl ?_
   refine JL.skip (.bool rfl rfl rfl hc6) rfl ?_
   refine JL.skip (.bool rfl rfl rfl hc6) rfl ?_
   refine JL.pick_f (b := y2) rfl hc6 .none rfl ?_
   obtain rfl := Option.some.inj hF
   exact hJ5 _ (rfl)
 ·rintro f hf12
  refine (JL.norm (i := 12) hf12 ?_)
  refine JL.assign .none rfl ?_
  refine JL.done hQ (JQ.go (JC.ret ?_))
  obtain rfl := Option.some.inj hF
  exact JQ.outS rfl (.tmp .nil) rfl
-- 127 ferrule/frames.Check$1
def F_frames_Check_1 (n : Nat) (s : Section) : Option Bool :=
 (F_frames_isPart n s.Arm).bind fun y2 => (if (!y2) = true then (some true) else ((F_frames_isPart n s.Stretch).bind fun y7 => some (!y7)) : Option Bool).bind fun p4 => (if p4 = true then (some true) else ((F_frames_within n s.Base 0 2000).bind fun y12 => some (!y12)) : Option Bool).bind fun p9 => (if p9 = true then (some true) else ((F_frames_isShare n s.Gear).bind fun y17 => some (!y17)) : Option Bool).bind fun p14 => some p14
theorem c_frames_Check_1 (n : Nat) (H : Hp) (s : Section) (y : Bool) (hF : F_frames_Check_1 n s = some y) : SC Try.prog 127 [.agg [.int .i64 s.Arm.Low, .int .i64 s.Arm.High, .int .i64 s.Stretch.Low, .int .i64 s.Stretch.High, .int .i64 s.Base, .int .i64 s.Gear.Num, .int .i64 s.Gear.Den].toArray] (.bool y) H := by
 rw [F_frames_Check_1] at hF
 refine SC.of (N := 25) Try.func127 rfl rfl rfl fun w => ?_
 refine JC.seq (JC.region (by rfl) ?_)
 intro hQ
 refine JL.box (cs := [.int .i64 s.Arm.Low, .int .i64 s.Arm.High, .int .i64 s.Stretch.Low, .int .i64 s.Stretch.High, .int .i64 s.Base, .int .i64 s.Gear.Num, .int .i64 s.Gear.Den]) rfl .none rfl ?_
 intro b1
 refine JL.assign .none rfl ?_
 refine JL.done hQ (JQ.go (JC.seq (JC.region (by rfl) ?_)))
 intro hQ
 refine JL.fieldAddr fo_68_0 rfl .none rfl ?_
 refine JL.loadOwn 0 az_39 rfl rfl rfl .none rfl ?_
 obtain ⟨y2, hy2, hF⟩ := bind_some hF
 refine JL.callS (c_frames_isPart n H s.Arm y2 hy2) rfl en_128 .none rfl ?_
 refine JL.not rfl .none rfl ?_
 refine JL.move .none rfl ?_
 obtain ⟨p4, hp4, hF⟩ := bind_some hF
 refine JL.cut 5 (fun f => f 1 = .pointer (some ⟨b1, 0, none⟩) ∧ f 12 = .bool p4) ?_ ?_
 ·intro hJ5
  rcases ite_some hp4 with ⟨hc6, hF⟩ | ⟨hc6, hF⟩
  ·skip
   refine JL.skip (.bool rfl rfl rfl hc6) rfl ?_
   refine JL.skip (.bool rfl rfl rfl hc6) rfl ?_
   refine JL.skip (.bool rfl rfl rfl hc6) rfl ?_
   refine JL.skip (.bool rfl rfl rfl hc6) rfl ?_
   refine JL.pick_t (b := (!y2)) rfl hc6 .none rfl ?_
   obtain rfl := Option.some.inj hF
   exact hJ5 _ ⟨rfl, rfl⟩
  ·skip
   refine JL.fieldAddr fo_68_1 rfl (.some rfl rfl rfl hc6) rfl ?_
   refine JL.loadOwn 0 az_39 rfl rfl rfl (.some rfl rfl rfl hc6) rfl ?_
   obtain ⟨y7, hy7, hF⟩ := bind_some hF
   refine JL.callS (c_frames_isPart n H s.Stretch y7 hy7) rfl en_128 (.some rfl rfl rfl hc6) rfl ?_
   refine JL.not rfl (.some rfl rfl rfl hc6) rfl ?_
   refine JL.pick_f (b := (!y2)) rfl hc6 .none rfl ?_
   obtain rfl := Option.some.inj hF
   exact hJ5 _ ⟨rfl, rfl⟩
 ·rintro f ⟨hf1, hf12⟩
  refine (JL.norm (i := 1) hf1 (JL.norm (i := 12) hf12 ?_))
  refine JL.move .none rfl ?_
  obtain ⟨p9, hp9, hF⟩ := bind_some hF
  refine JL.cut 5 (fun f => f 1 = .pointer (some ⟨b1, 0, none⟩) ∧ f 18 = .bool p9) ?_ ?_
  ·intro hJ10
   rcases ite_some hp9 with ⟨hc11, hF⟩ | ⟨hc11, hF⟩
   ·skip
    refine JL.skip (.bool rfl rfl rfl hc11) rfl ?_
    refine JL.skip (.bool rfl rfl rfl hc11) rfl ?_
    refine JL.skip (.bool rfl rfl rfl hc11) rfl ?_
    refine JL.skip (.bool rfl rfl rfl hc11) rfl ?_
    refine JL.pick_t (b := p4) rfl hc11 .none rfl ?_
    obtain rfl := Option.some.inj hF
    exact hJ10 _ ⟨rfl, rfl⟩
   ·skip
    refine JL.fieldAddr fo_68_2 rfl (.some rfl rfl rfl hc11) rfl ?_
    refine JL.loadOwn 0 az_3 rfl rfl rfl (.some rfl rfl rfl hc11) rfl ?_
    obtain ⟨y12, hy12, hF⟩ := bind_some hF
    refine JL.callS (c_frames_within n H s.Base 0 2000 y12 hy12) rfl en_124 (.some rfl rfl rfl hc11) rfl ?_
    refine JL.not rfl (.some rfl rfl rfl hc11) rfl ?_
    refine JL.pick_f (b := p4) rfl hc11 .none rfl ?_
    obtain rfl := Option.some.inj hF
    exact hJ10 _ ⟨rfl, rfl⟩
  ·rintro f ⟨hf1, hf18⟩
   refine (JL.norm (i := 1) hf1 (JL.norm (i := 18) hf18 ?_))
   refine JL.move .none rfl ?_
   obtain ⟨p14, hp14, hF⟩ := bind_some hF
   refine JL.cut 5 (fun f => f 24 = .bool p14) ?_ ?_
   ·intro hJ15
    rcases ite_some hp14 with ⟨hc16, hF⟩ | ⟨hc16, hF⟩
    ·skip
     refine JL.skip (.bool rfl rfl rfl hc16) rfl ?_
     refine JL.skip (.bool rfl rfl rfl hc16) rfl ?_
     refine JL.skip (.bool rfl rfl rfl hc16) rfl ?_
     refine JL.skip (.bool rfl rfl rfl hc16) rfl ?_
     refine JL.pick_t (b := p9) rfl hc16 .none rfl ?_
     obtain rfl := Option.some.inj hF
     exact hJ15 _ (rfl)
    ·skip
     refine JL.fieldAddr fo_68_3 rfl (.some rfl rfl rfl hc16) rfl ?_
     refine JL.loadOwn 0 az_51 rfl rfl rfl (.some rfl rfl rfl hc16) rfl ?_
     obtain ⟨y17, hy17, hF⟩ := bind_some hF
     refine JL.callS (c_frames_isShare n H s.Gear y17 hy17) rfl en_129 (.some rfl rfl rfl hc16) rfl ?_
     refine JL.not rfl (.some rfl rfl rfl hc16) rfl ?_
     refine JL.pick_f (b := p9) rfl hc16 .none rfl ?_
     obtain rfl := Option.some.inj hF
     exact hJ15 _ (rfl)
   ·rintro f hf24
    refine (JL.norm (i := 24) hf24 ?_)
    refine JL.assign .none rfl ?_
    refine JL.done hQ (JQ.go (JC.ret ?_))
    obtain rfl := Option.some.inj hF
    exact JQ.outS rfl (.tmp .nil) rfl
-- 175 slices.IndexFunc[[]ferrule/api.Section,ferrule/api.Section]
def F_slices_IndexFunc___api_Section_api_Section__s1 (n : Nat) (s : List Section) (f_ : Section → Option Bool) : Int → Option (Int ⊕ (Int ⊕ Unit))
 | x_55 => if decide (x_55 < (s.length : Int)) = true then ((geti s x_55).bind fun y60 => (f_ y60).bind fun y65 => if y65 = true then (some (Sum.inr (Sum.inl x_55))) else (some (Sum.inl (w64 (x_55 + 1))))) else (some (Sum.inr (Sum.inr ())))
def F_slices_IndexFunc___api_Section_api_Section_ (n : Nat) (s : List Section) (f_ : Section → Option Bool) : Option Int :=
 (loopO n (F_slices_IndexFunc___api_Section_api_Section__s1 n s f_) 0).bind fun r34 => match r34 with | .inl o => some o | .inr _ => some (-1)
theorem c_slices_IndexFunc___api_Section_api_Section_ (n : Nat) (H : Hp) (s : List Section) (s_v0 : Value) (hs_0 : SL H 7 R_Section s_v0 s) (f_ : Section → Option Bool) (f__k : Nat) (f__c : List Value) (f__e : Ent Try.prog f__k) (f__h : ∀ H', HSub H H' → ∀ (a0_ : Section) (y : Bool), f_ a0_ = some y → SC Try.prog f__k ([.agg [.int .i64 a0_.Arm.Low, .int .i64 a0_.Arm.High, .int .i64 a0_.Stretch.Low, .int .i64 a0_.Stretch.High, .int .i64 a0_.Base, .int .i64 a0_.Gear.Num, .int .i64 a0_.Gear.Den].toArray] ++ f__c) (.bool y) H') (y : Int) (hF : F_slices_IndexFunc___api_Section_api_Section_ n s f_ = some y) : SC Try.prog 175 [s_v0, .func (.func f__k) #[] f__c.toArray] (.int .i64 y) H := by
 rw [F_slices_IndexFunc___api_Section_api_Section_] at hF
 refine SC.of (N := 19) Try.func175 rfl rfl rfl fun w => ?_
 refine JC.seq (JC.region (by rfl) ?_)
 intro hQ
 refine JL.assign .none rfl ?_
 refine JL.done hQ (JQ.go (JC.seq (JC.seq (JC.region (by rfl) ?_))))
 intro hQ
 refine JL.move .none rfl ?_
 refine JL.lenSL (R := R_Section) ul_49 hs_0 .none rfl ?_
 refine JL.move .none rfl ?_
 refine JL.done hQ (JQ.go ?_)
 obtain ⟨r34, hlr34, hKr34⟩ := bind_some hF
 refine JC.join (fun (_ : Unit) H33 f bs gs => bs = [] ∧ gs = [] ∧ HSub H H33 ∧ Sum.inr () = r34) ?_ ?_
 ·skip
  refine JC.block (JC.loop hlr34 (fun (x_55 : Int) H56 f bs gs => f 0 = s_v0 ∧ f 1 = .func (.func f__k) #[] f__c.toArray ∧ f 7 = .int .i64 (s.length : Int) ∧ f 8 = .int .i64 x_55 ∧ bs = [] ∧ gs = [] ∧ HSub H H56) ⟨rfl, rfl, rfl, rfl, rfl, rfl, (HSub.refl _)⟩ ?_)
  rintro x_55 x58 H56 f bs gs ⟨hf0, hf1, hf7, hf8, rfl, rfl, hs56⟩ hF hr57
  rw [F_slices_IndexFunc___api_Section_api_Section__s1] at hF
  refine (JC.norm (i := 0) hf0 (JC.norm (i := 1) hf1 (JC.norm (i := 7) hf7 (JC.norm (i := 8) hf8 ?_))))
  refine JC.seq (JC.region (by rfl) ?_)
  intro hQ
  refine JL.bin rfl rfl rfl .none rfl ?_
  refine JL.done hQ (JQ.go (JC.seq ?_))
  rcases ite_some hF with ⟨hc59, hF⟩ | ⟨hc59, hF⟩
  ·refine JC.cond_t (b := decide (x_55 < (s.length : Int))) rfl hc59 ?_
   refine JC.skip (JQ.go (JC.seq (JC.block (JC.seq (JC.region (by rfl) ?_)))))
   intro hQ
   refine JL.move .none rfl ?_
   refine JL.assign .none rfl ?_
   refine JL.done hQ (JQ.go (JC.seq (JC.region (by rfl) ?_)))
   intro hQ
   refine JL.move .none rfl ?_
   refine JL.move .none rfl ?_
   refine JL.move .none rfl ?_
   obtain ⟨y60, hy60, hF⟩ := bind_some hF
   refine JL.indexSL (R := R_Section) sl_49 (SL.mono R_Section_mono hs56 hs_0) rfl hy60 .none rfl ?_
   rintro b61 o62 cs63 hc64 - rfl
   refine JL.loadH 0 az_68 rfl hc64 rfl .none rfl ?_
   obtain ⟨y65, hy65, hF⟩ := bind_some hF
   refine JL.callV rfl (f__h H56 hs56 y60 y65 hy65) rfl f__e .none rfl ?_
   refine JL.done hQ (JQ.go ?_)
   rcases ite_some hF with ⟨hc66, hF⟩ | ⟨hc66, hF⟩
   ·refine JC.cond_t (b := y65) rfl hc66 ?_
    refine JC.seq (JC.region (by rfl) ?_)
    intro hQ
    refine JL.move .none rfl ?_
    refine JL.assign .none rfl ?_
    refine JL.done hQ (JQ.go (JC.fresh (fun f => f 4 = .int .i64 x_55) rfl ?_))
    rintro f hf4
    refine (JC.norm (i := 4) hf4 ?_)
    refine JC.ret (JQ.ret_block (JQ.ret_then (JQ.ret_then (JQ.ret_block (JQ.ret_join (JQ.ret_then ?_))))))
    obtain rfl := Option.some.inj hF
    have ehr57 := hr57 _ rfl
    subst ehr57
    have hF := hKr34
    try dsimp only at hF
    obtain rfl := Option.some.inj hF
    exact JQ.outS rfl (.tmp .nil) rfl
   ·refine JC.cond_f (b := y65) rfl hc66 ?_
    refine JC.skip (JQ.normal_block (JQ.go (JC.region (by rfl) ?_)))
    intro hQ
    refine JL.bin rfl rfl rfl .none rfl ?_
    refine JL.move .none rfl ?_
    refine JL.done hQ ?_
    obtain rfl := Option.some.inj hF
    exact JQ.next rfl ⟨rfl, rfl, rfl, rfl, rfl, rfl, hs56⟩
  ·refine JC.cond_f (b := decide (x_55 < (s.length : Int))) rfl hc59 ?_
   refine JC.exit (JQ.exit_then (JQ.exit_then (JQ.exit_block ?_)))
   obtain rfl := Option.some.inj hF
   have ehr57 := hr57 _ rfl
   subst ehr57
   exact JQ.join () ⟨rfl, rfl, hs56, rfl⟩
 ·rintro _ H33 f bs gs ⟨rfl, rfl, hs33, rfl⟩
  have hF := hKr34
  try dsimp only at hF
  refine JQ.go (JC.seq (JC.region (by rfl) ?_))
  intro hQ
  refine JL.assign .none rfl ?_
  refine JL.done hQ (JQ.go (JC.ret ?_))
  obtain rfl := Option.some.inj hF
  exact JQ.outS rfl (.tmp .nil) rfl
-- 130 slices.ContainsFunc[[]ferrule/api.Section,ferrule/api.Section]
def F_slices_ContainsFunc___api_Section_api_Section_ (n : Nat) (s : List Section) (f_ : Section → Option Bool) : Option Bool :=
 (F_slices_IndexFunc___api_Section_api_Section_ n s f_).bind fun y1 => some (decide (0 ≤ y1))
theorem c_slices_ContainsFunc___api_Section_api_Section_ (n : Nat) (H : Hp) (s : List Section) (s_v0 : Value) (hs_0 : SL H 7 R_Section s_v0 s) (f_ : Section → Option Bool) (f__k : Nat) (f__c : List Value) (f__e : Ent Try.prog f__k) (f__h : ∀ H', HSub H H' → ∀ (a0_ : Section) (y : Bool), f_ a0_ = some y → SC Try.prog f__k ([.agg [.int .i64 a0_.Arm.Low, .int .i64 a0_.Arm.High, .int .i64 a0_.Stretch.Low, .int .i64 a0_.Stretch.High, .int .i64 a0_.Base, .int .i64 a0_.Gear.Num, .int .i64 a0_.Gear.Den].toArray] ++ f__c) (.bool y) H') (y : Bool) (hF : F_slices_ContainsFunc___api_Section_api_Section_ n s f_ = some y) : SC Try.prog 130 [s_v0, .func (.func f__k) #[] f__c.toArray] (.bool y) H := by
 rw [F_slices_ContainsFunc___api_Section_api_Section_] at hF
 refine SC.of (N := 9) Try.func130 rfl rfl rfl fun w => ?_
 refine JC.seq (JC.region (by rfl) ?_)
 intro hQ
 refine JL.assign .none rfl ?_
 refine JL.done hQ (JQ.go (JC.seq (JC.region (by rfl) ?_)))
 intro hQ
 refine JL.move .none rfl ?_
 refine JL.move .none rfl ?_
 obtain ⟨y1, hy1, hF⟩ := bind_some hF
 refine JL.callS (c_slices_IndexFunc___api_Section_api_Section_ n H s s_v0 hs_0 f_ f__k f__c f__e (fun H' hs' => f__h H' hs') y1 hy1) rfl en_175 .none rfl ?_
 refine JL.bin rfl rfl rfl .none rfl ?_
 refine JL.assign .none rfl ?_
 refine JL.done hQ (JQ.go (JC.ret ?_))
 obtain rfl := Option.some.inj hF
 exact JQ.outS rfl (.tmp .nil) rfl
end Go.Proofs.Yteihdclpiekmaaa
end
section
set_option maxRecDepth 100000
set_option maxHeartbeats 40000000
namespace Go.Proofs.Yteihdclpiekmaaa
open Go Go.RowKit Go.Dec
set_option linter.unusedVariables false
-- 79 ferrule/frames.Check
def F_frames_Check (n : Nat) (f_ : Frame) : Option Int :=
 (F_frames_within n f_.Low 1 f_.High).bind fun y2 => (F_frames_within n (f_.Sections.length : Int) 1 3).bind fun y7 => (if (!y7) = true then (some true) else ((F_slices_ContainsFunc___api_Section_api_Section_ n f_.Sections (fun a0_ => F_frames_Check_1 n a0_)).bind fun y12 => some y12) : Option Bool).bind fun p9 => (if (p9 || (!((y2 && (decide (f_.High ≤ 2000))) && (decide ((w64 (f_.High - f_.Low)) ≤ 200))))) = true then (some true) else ((F_frames_isShare n f_.Ease).bind fun y19 => some (!y19)) : Option Bool).bind fun p16 => (if p16 = true then (some true) else ((F_frames_within n f_.Rod 0 4000).bind fun y24 => some (!y24)) : Option Bool).bind fun p21 => (if p21 = true then (some true) else ((F_frames_within n f_.Case 0 4000).bind fun y29 => some (!y29)) : Option Bool).bind fun p26 => if p26 = true then (some 10) else (some 0)
theorem c_frames_Check (n : Nat) (H : Hp) (f_ : Frame) (f__v0 : Value) (hf__0 : SL H 7 R_Section f__v0 f_.Sections) (y : Int) (hF : F_frames_Check n f_ = some y) : SC Try.prog 79 [.agg [f__v0, .int .i64 f_.Low, .int .i64 f_.High, .int .i64 f_.Ease.Num, .int .i64 f_.Ease.Den, .int .i64 f_.Rod, .int .i64 f_.Case].toArray] (.int .i64 y) H := by
 rw [F_frames_Check] at hF
 refine SC.of (N := 56) Try.func79 rfl rfl rfl fun w => ?_
 refine JC.seq (JC.region (by rfl) ?_)
 intro hQ
 refine JL.box (cs := [f__v0, .int .i64 f_.Low, .int .i64 f_.High, .int .i64 f_.Ease.Num, .int .i64 f_.Ease.Den, .int .i64 f_.Rod, .int .i64 f_.Case]) rfl .none rfl ?_
 intro b1
 refine JL.assign .none rfl ?_
 refine JL.done hQ (JQ.go (JC.seq (JC.region (by rfl) ?_)))
 intro hQ
 refine JL.assign .none rfl ?_
 refine JL.done hQ (JQ.go (JC.seq (JC.region (by rfl) ?_)))
 intro hQ
 refine JL.fieldAddr fo_53_1 rfl .none rfl ?_
 refine JL.loadOwn 0 az_3 rfl rfl rfl .none rfl ?_
 refine JL.fieldAddr fo_53_2 rfl .none rfl ?_
 refine JL.loadOwn 0 az_3 rfl rfl rfl .none rfl ?_
 obtain ⟨y2, hy2, hF⟩ := bind_some hF
 refine JL.callS (c_frames_within n H f_.Low 1 f_.High y2 hy2) rfl en_124 .none rfl ?_
 refine JL.move .none rfl ?_
 refine JL.cut 4 (fun f => f 1 = .pointer (some ⟨b1, 0, none⟩) ∧ f 3 = .func (.func 127) #[] [].toArray ∧ f 14 = .bool (y2 && (decide (f_.High ≤ 2000)))) ?_ ?_
 ·intro hJ3
  rcases bcases y2 with hc4 | hc4
  ·skip
   refine JL.fieldAddr fo_53_2 rfl (.some rfl rfl rfl hc4) rfl ?_
   refine JL.loadOwn 0 az_3 rfl rfl rfl (.some rfl rfl rfl hc4) rfl ?_
   refine JL.bin rfl rfl rfl (.some rfl rfl rfl hc4) rfl ?_
   refine JL.pick_t (b := y2) rfl hc4 .none rfl ?_
   exact hJ3 _ ⟨rfl, rfl, and_t hc4 rfl⟩
  ·skip
   refine JL.skip (.bool rfl rfl rfl hc4) rfl ?_
   refine JL.skip (.bool rfl rfl rfl hc4) rfl ?_
   refine JL.skip (.bool rfl rfl rfl hc4) rfl ?_
   refine JL.pick_f (b := y2) rfl hc4 .none rfl ?_
   exact hJ3 _ ⟨rfl, rfl, and_f hc4 rfl⟩
 ·rintro f ⟨hf1, hf3, hf14⟩
  refine (JL.norm (i := 1) hf1 (JL.norm (i := 3) hf3 (JL.norm (i := 14) hf14 ?_)))
  refine JL.move .none rfl ?_
  refine JL.cut 7 (fun f => f 1 = .pointer (some ⟨b1, 0, none⟩) ∧ f 3 = .func (.func 127) #[] [].toArray ∧ f 22 = .bool ((y2 && (decide (f_.High ≤ 2000))) && (decide ((w64 (f_.High - f_.Low)) ≤ 200)))) ?_ ?_
  ·intro hJ5
   rcases bcases (y2 && (decide (f_.High ≤ 2000))) with hc6 | hc6
   ·skip
    refine JL.fieldAddr fo_53_2 rfl (.some rfl rfl rfl hc6) rfl ?_
    refine JL.loadOwn 0 az_3 rfl rfl rfl (.some rfl rfl rfl hc6) rfl ?_
    refine JL.fieldAddr fo_53_1 rfl (.some rfl rfl rfl hc6) rfl ?_
    refine JL.loadOwn 0 az_3 rfl rfl rfl (.some rfl rfl rfl hc6) rfl ?_
    refine JL.bin rfl rfl rfl (.some rfl rfl rfl hc6) rfl ?_
    refine JL.bin rfl rfl rfl (.some rfl rfl rfl hc6) rfl ?_
    refine JL.pick_t (b := (y2 && (decide (f_.High ≤ 2000)))) rfl hc6 .none rfl ?_
    exact hJ5 _ ⟨rfl, rfl, and_t hc6 rfl⟩
   ·skip
    refine JL.skip (.bool rfl rfl rfl hc6) rfl ?_
    refine JL.skip (.bool rfl rfl rfl hc6) rfl ?_
    refine JL.skip (.bool rfl rfl rfl hc6) rfl ?_
    refine JL.skip (.bool rfl rfl rfl hc6) rfl ?_
    refine JL.skip (.bool rfl rfl rfl hc6) rfl ?_
    refine JL.skip (.bool rfl rfl rfl hc6) rfl ?_
    refine JL.pick_f (b := (y2 && (decide (f_.High ≤ 2000)))) rfl hc6 .none rfl ?_
    exact hJ5 _ ⟨rfl, rfl, and_f hc6 rfl⟩
  ·rintro f ⟨hf1, hf3, hf22⟩
   refine (JL.norm (i := 1) hf1 (JL.norm (i := 3) hf3 (JL.norm (i := 22) hf22 ?_)))
   refine JL.assign .none rfl ?_
   refine JL.done hQ (JQ.go (JC.seq (JC.seq (JC.region (by rfl) ?_))))
   intro hQ
   refine JL.fieldAddr fo_53_0 rfl .none rfl ?_
   refine JL.loadOwn 0 az_49 rfl rfl rfl .none rfl ?_
   refine JL.lenSL (R := R_Section) ul_49 hf__0 .none rfl ?_
   obtain ⟨y7, hy7, hF⟩ := bind_some hF
   refine JL.callS (c_frames_within n H (f_.Sections.length : Int) 1 3 y7 hy7) rfl en_124 .none rfl ?_
   refine JL.not rfl .none rfl ?_
   refine JL.move .none rfl ?_
   obtain ⟨p9, hp9, hF⟩ := bind_some hF
   refine JL.cut 5 (fun f => f 1 = .pointer (some ⟨b1, 0, none⟩) ∧ f 4 = .bool ((y2 && (decide (f_.High ≤ 2000))) && (decide ((w64 (f_.High - f_.Low)) ≤ 200))) ∧ f 33 = .bool p9) ?_ ?_
   ·intro hJ10
    rcases ite_some hp9 with ⟨hc11, hF⟩ | ⟨hc11, hF⟩
    ·skip
     refine JL.skip (.bool rfl rfl rfl hc11) rfl ?_
     refine JL.skip (.bool rfl rfl rfl hc11) rfl ?_
     refine JL.skip (.bool rfl rfl rfl hc11) rfl ?_
     refine JL.skip (.bool rfl rfl rfl hc11) rfl ?_
     refine JL.pick_t (b := (!y7)) rfl hc11 .none rfl ?_
     obtain rfl := Option.some.inj hF
     exact hJ10 _ ⟨rfl, rfl, rfl⟩
    ·skip
     refine JL.fieldAddr fo_53_0 rfl (.some rfl rfl rfl hc11) rfl ?_
     refine JL.loadOwn 0 az_49 rfl rfl rfl (.some rfl rfl rfl hc11) rfl ?_
     refine JL.move (.some rfl rfl rfl hc11) rfl ?_
     obtain ⟨y12, hy12, hF⟩ := bind_some hF
     refine JL.callS (c_slices_ContainsFunc___api_Section_api_Section_ n H f_.Sections f__v0 hf__0 (fun a0_ => F_frames_Check_1 n a0_) 127 [] en_127 (fun H' hs' a0_ y' hy' => c_frames_Check_1 n H' a0_ y' hy') y12 hy12) rfl en_130 (.some rfl rfl rfl hc11) rfl ?_
     refine JL.pick_f (b := (!y7)) rfl hc11 .none rfl ?_
     obtain rfl := Option.some.inj hF
     exact hJ10 _ ⟨rfl, rfl, rfl⟩
   ·rintro f ⟨hf1, hf4, hf33⟩
    refine (JL.norm (i := 1) hf1 (JL.norm (i := 4) hf4 (JL.norm (i := 33) hf33 ?_)))
    refine JL.move .none rfl ?_
    refine JL.cut 3 (fun f => f 1 = .pointer (some ⟨b1, 0, none⟩) ∧ f 37 = .bool (p9 || (!((y2 && (decide (f_.High ≤ 2000))) && (decide ((w64 (f_.High - f_.Low)) ≤ 200)))))) ?_ ?_
    ·intro hJ13
     rcases bcases p9 with hc14 | hc14
     ·skip
      refine JL.skip (.bool rfl rfl rfl hc14) rfl ?_
      refine JL.skip (.bool rfl rfl rfl hc14) rfl ?_
      refine JL.pick_t (b := p9) rfl hc14 .none rfl ?_
      exact hJ13 _ ⟨rfl, or_t hc14 rfl⟩
     ·skip
      refine JL.move (.some rfl rfl rfl hc14) rfl ?_
      refine JL.not rfl (.some rfl rfl rfl hc14) rfl ?_
      refine JL.pick_f (b := p9) rfl hc14 .none rfl ?_
      exact hJ13 _ ⟨rfl, or_f hc14 rfl⟩
    ·rintro f ⟨hf1, hf37⟩
     refine (JL.norm (i := 1) hf1 (JL.norm (i := 37) hf37 ?_))
     refine JL.move .none rfl ?_
     obtain ⟨p16, hp16, hF⟩ := bind_some hF
     refine JL.cut 5 (fun f => f 1 = .pointer (some ⟨b1, 0, none⟩) ∧ f 43 = .bool p16) ?_ ?_
     ·intro hJ17
      rcases ite_some hp16 with ⟨hc18, hF⟩ | ⟨hc18, hF⟩
      ·skip
       refine JL.skip (.bool rfl rfl rfl hc18) rfl ?_
       refine JL.skip (.bool rfl rfl rfl hc18) rfl ?_
       refine JL.skip (.bool rfl rfl rfl hc18) rfl ?_
       refine JL.skip (.bool rfl rfl rfl hc18) rfl ?_
       refine JL.pick_t (b := (p9 || (!((y2 && (decide (f_.High ≤ 2000))) && (decide ((w64 (f_.High - f_.Low)) ≤ 200)))))) rfl hc18 .none rfl ?_
       obtain rfl := Option.some.inj hF
       exact hJ17 _ ⟨rfl, rfl⟩
      ·skip
       refine JL.fieldAddr fo_53_3 rfl (.some rfl rfl rfl hc18) rfl ?_
       refine JL.loadOwn 0 az_51 rfl rfl rfl (.some rfl rfl rfl hc18) rfl ?_
       obtain ⟨y19, hy19, hF⟩ := bind_some hF
       refine JL.callS (c_frames_isShare n H f_.Ease y19 hy19) rfl en_129 (.some rfl rfl rfl hc18) rfl ?_
       refine JL.not rfl (.some rfl rfl rfl hc18) rfl ?_
       refine JL.pick_f (b := (p9 || (!((y2 && (decide (f_.High ≤ 2000))) && (decide ((w64 (f_.High - f_.Low)) ≤ 200)))))) rfl hc18 .none rfl ?_
       obtain rfl := Option.some.inj hF
       exact hJ17 _ ⟨rfl, rfl⟩
     ·rintro f ⟨hf1, hf43⟩
      refine (JL.norm (i := 1) hf1 (JL.norm (i := 43) hf43 ?_))
      refine JL.move .none rfl ?_
      obtain ⟨p21, hp21, hF⟩ := bind_some hF
      refine JL.cut 5 (fun f => f 1 = .pointer (some ⟨b1, 0, none⟩) ∧ f 49 = .bool p21) ?_ ?_
      ·intro hJ22
       rcases ite_some hp21 with ⟨hc23, hF⟩ | ⟨hc23, hF⟩
       ·skip
        refine JL.skip (.bool rfl rfl rfl hc23) rfl ?_
        refine JL.skip (.bool rfl rfl rfl hc23) rfl ?_
        refine JL.skip (.bool rfl rfl rfl hc23) rfl ?_
        refine JL.skip (.bool rfl rfl rfl hc23) rfl ?_
        refine JL.pick_t (b := p16) rfl hc23 .none rfl ?_
        obtain rfl := Option.some.inj hF
        exact hJ22 _ ⟨rfl, rfl⟩
       ·skip
        refine JL.fieldAddr fo_53_4 rfl (.some rfl rfl rfl hc23) rfl ?_
        refine JL.loadOwn 0 az_3 rfl rfl rfl (.some rfl rfl rfl hc23) rfl ?_
        obtain ⟨y24, hy24, hF⟩ := bind_some hF
        refine JL.callS (c_frames_within n H f_.Rod 0 4000 y24 hy24) rfl en_124 (.some rfl rfl rfl hc23) rfl ?_
        refine JL.not rfl (.some rfl rfl rfl hc23) rfl ?_
        refine JL.pick_f (b := p16) rfl hc23 .none rfl ?_
        obtain rfl := Option.some.inj hF
        exact hJ22 _ ⟨rfl, rfl⟩
      ·rintro f ⟨hf1, hf49⟩
       refine (JL.norm (i := 1) hf1 (JL.norm (i := 49) hf49 ?_))
       refine JL.move .none rfl ?_
       obtain ⟨p26, hp26, hF⟩ := bind_some hF
       refine JL.cut 5 (fun f => f 55 = .bool p26) ?_ ?_
       ·intro hJ27
        rcases ite_some hp26 with ⟨hc28, hF⟩ | ⟨hc28, hF⟩
        ·skip
         refine JL.skip (.bool rfl rfl rfl hc28) rfl ?_
         refine JL.skip (.bool rfl rfl rfl hc28) rfl ?_
         refine JL.skip (.bool rfl rfl rfl hc28) rfl ?_
         refine JL.skip (.bool rfl rfl rfl hc28) rfl ?_
         refine JL.pick_t (b := p21) rfl hc28 .none rfl ?_
         obtain rfl := Option.some.inj hF
         exact hJ27 _ (rfl)
        ·skip
         refine JL.fieldAddr fo_53_5 rfl (.some rfl rfl rfl hc28) rfl ?_
         refine JL.loadOwn 0 az_3 rfl rfl rfl (.some rfl rfl rfl hc28) rfl ?_
         obtain ⟨y29, hy29, hF⟩ := bind_some hF
         refine JL.callS (c_frames_within n H f_.Case 0 4000 y29 hy29) rfl en_124 (.some rfl rfl rfl hc28) rfl ?_
         refine JL.not rfl (.some rfl rfl rfl hc28) rfl ?_
         refine JL.pick_f (b := p21) rfl hc28 .none rfl ?_
         obtain rfl := Option.some.inj hF
         exact hJ27 _ (rfl)
       ·rintro f hf55
        refine (JL.norm (i := 55) hf55 ?_)
        refine JL.done hQ (JQ.go ?_)
        rcases ite_some hF with ⟨hc30, hF⟩ | ⟨hc30, hF⟩
        ·refine JC.cond_t (b := p26) rfl hc30 ?_
         refine JC.seq (JC.region (by rfl) ?_)
         intro hQ
         refine JL.assign .none rfl ?_
         refine JL.done hQ (JQ.go (JC.ret (JQ.ret_then ?_)))
         obtain rfl := Option.some.inj hF
         exact JQ.outS rfl (.tmp .nil) rfl
        ·refine JC.cond_f (b := p26) rfl hc30 ?_
         refine JC.skip (JQ.go (JC.seq (JC.region (by rfl) ?_)))
         intro hQ
         refine JL.assign .none rfl ?_
         refine JL.done hQ (JQ.go (JC.ret ?_))
         obtain rfl := Option.some.inj hF
         exact JQ.outS rfl (.tmp .nil) rfl
-- 74 ferrule/frames.distance
def F_frames_distance_s1 (n : Nat) (y2 : List Section) : Int × Int → Option ((Int × Int) ⊕ Int)
 | (r_70, x_71) => if decide (x_71 < (y2.length : Int)) = true then ((geti y2 x_71).bind fun y76 => (nz y76.Gear.Den).bind fun _ => some (Sum.inl ((w64 (y76.Base + (w64 ((w64 (r_70 * y76.Gear.Num)).tdiv y76.Gear.Den)))), (w64 (x_71 + 1))))) else (some (Sum.inr r_70))
def F_frames_distance (n : Nat) (f_ : Frame) (section_ : Int) (r : Int) : Option Int :=
 (slc f_.Sections 1 (w64 (section_ + 1))).bind fun y2 => (loopO n (F_frames_distance_s1 n y2) (r, 0)).bind fun r_43 => some r_43
theorem c_frames_distance (n : Nat) (H : Hp) (f_ : Frame) (f__v0 : Value) (hf__0 : SL H 7 R_Section f__v0 f_.Sections) (section_ : Int) (r : Int) (y : Int) (hF : F_frames_distance n f_ section_ r = some y) : SC Try.prog 74 [.agg [f__v0, .int .i64 f_.Low, .int .i64 f_.High, .int .i64 f_.Ease.Num, .int .i64 f_.Ease.Den, .int .i64 f_.Rod, .int .i64 f_.Case].toArray, .int .i64 section_, .int .i64 r] (.int .i64 y) H := by
 rw [F_frames_distance] at hF
 refine SC.of (N := 33) Try.func74 rfl rfl rfl fun w => ?_
 refine JC.seq (JC.region (by rfl) ?_)
 intro hQ
 refine JL.box (cs := [f__v0, .int .i64 f_.Low, .int .i64 f_.High, .int .i64 f_.Ease.Num, .int .i64 f_.Ease.Den, .int .i64 f_.Rod, .int .i64 f_.Case]) rfl .none rfl ?_
 intro b1
 refine JL.assign .none rfl ?_
 refine JL.done hQ (JQ.go (JC.seq (JC.seq (JC.region (by rfl) ?_))))
 intro hQ
 refine JL.fieldAddr fo_53_0 rfl .none rfl ?_
 refine JL.loadOwn 0 az_49 rfl rfl rfl .none rfl ?_
 refine JL.move .none rfl ?_
 refine JL.bin rfl rfl rfl .none rfl ?_
 obtain ⟨y2, hy2, hF⟩ := bind_some hF
 refine JL.sliceLoHi (R := R_Section) sl_49 hf__0 rfl rfl hy2 .none rfl ?_
 intro v3 hv4
 refine JL.lenSL (R := R_Section) ul_49 hv4 .none rfl ?_
 refine JL.move .none rfl ?_
 refine JL.done hQ (JQ.go ?_)
 obtain ⟨r45, hlr45, hKr45⟩ := bind_some hF
 refine JC.join (fun (r_43 : Int) H44 f bs gs => f 2 = .int .i64 r_43 ∧ bs = [] ∧ gs = [] ∧ HSub H H44 ∧ r_43 = r45) ?_ ?_
 ·skip
  refine JC.block (JC.mask [false] [] ?_)
  refine JC.loop hlr45 (fun (x : Int × Int) H72 f bs gs => match x with | (r_70, x_71) => f 2 = .int .i64 r_70 ∧ f 13 = v3 ∧ f 14 = .int .i64 (y2.length : Int) ∧ f 15 = .int .i64 x_71 ∧ bs = [] ∧ gs = [] ∧ HSub H H72) ⟨rfl, rfl, rfl, rfl, rfl, rfl, (HSub.refl _)⟩ ?_
  rintro ⟨r_70, x_71⟩ x74 H72 f bs gs ⟨hf2, hf13, hf14, hf15, rfl, rfl, hs72⟩ hF hr73
  rw [F_frames_distance_s1] at hF
  refine (JC.norm (i := 2) hf2 (JC.norm (i := 13) hf13 (JC.norm (i := 14) hf14 (JC.norm (i := 15) hf15 ?_))))
  refine JC.seq (JC.region (by rfl) ?_)
  intro hQ
  refine JL.bin rfl rfl rfl .none rfl ?_
  refine JL.done hQ (JQ.go (JC.seq ?_))
  rcases ite_some hF with ⟨hc75, hF⟩ | ⟨hc75, hF⟩
  ·refine JC.cond_t (b := decide (x_71 < (y2.length : Int))) rfl hc75 ?_
   refine JC.skip (JQ.go (JC.seq (JC.block (JC.seq (JC.region (by rfl) ?_)))))
   intro hQ
   obtain ⟨y76, hy76, hF⟩ := bind_some hF
   refine JL.indexSL (R := R_Section) sl_49 (SL.mono R_Section_mono hs72 hv4) rfl hy76 .none rfl ?_
   rintro b77 o78 cs79 hc80 - rfl
   refine JL.loadH 0 az_68 rfl hc80 rfl .none rfl ?_
   refine JL.alloc ze_68 .none rfl ?_
   intro b81
   refine JL.storeOwn 0 (cs := [.int .i64 y76.Arm.Low, .int .i64 y76.Arm.High, .int .i64 y76.Stretch.Low, .int .i64 y76.Stretch.High, .int .i64 y76.Base, .int .i64 y76.Gear.Num, .int .i64 y76.Gear.Den]) az_68 rfl rfl rfl (one_cons rfl (one_cons rfl (one_cons rfl (one_cons rfl (one_cons rfl (one_cons rfl (one_cons rfl one_nil))))))) rfl rfl .none ?_
   refine JL.done hQ (JQ.go (JC.draw (by rfl) mo_ (by kernel_rfl) ?_))
   intro hQ
   refine JL.fieldAddr fo_68_2 rfl .none rfl ?_
   refine JL.loadOwn 0 az_3 rfl rfl rfl .none rfl ?_
   refine JL.move .none rfl ?_
   refine JL.fieldAddr fo_68_3 rfl .none rfl ?_
   refine JL.fieldAddr fo_51_0 rfl .none rfl ?_
   refine JL.loadOwn 0 az_3 rfl rfl rfl .none rfl ?_
   refine JL.bin rfl rfl rfl .none rfl ?_
   refine JL.fieldAddr fo_68_3 rfl .none rfl ?_
   refine JL.fieldAddr fo_51_1 rfl .none rfl ?_
   refine JL.loadOwn 0 az_3 rfl rfl rfl .none rfl ?_
   obtain ⟨u83, hu83, hF⟩ := bind_some hF
   refine JL.div rfl rfl (nz_some hu83) rfl .none rfl ?_
   refine JL.bin rfl rfl rfl .none rfl ?_
   refine JL.assign .none rfl ?_
   refine JL.doneQ hQ ?_
   refine JQ.normal_block (JQ.go (JC.fresh (fun f => f 2 = .int .i64 (w64 (y76.Base + (w64 ((w64 (r_70 * y76.Gear.Num)).tdiv y76.Gear.Den)))) ∧ f 13 = v3 ∧ f 14 = .int .i64 (y2.length : Int) ∧ f 15 = .int .i64 x_71) ⟨rfl, rfl, rfl, rfl⟩ ?_))
   rintro f ⟨hf2, hf13, hf14, hf15⟩
   refine (JC.norm (i := 2) hf2 (JC.norm (i := 13) hf13 (JC.norm (i := 14) hf14 (JC.norm (i := 15) hf15 ?_))))
   refine JC.region (by rfl) ?_
   intro hQ
   refine JL.bin rfl rfl rfl .none rfl ?_
   refine JL.move .none rfl ?_
   refine JL.done hQ ?_
   obtain rfl := Option.some.inj hF
   refine JQ.mask [false] [] ?_
   exact JQ.next rfl ⟨rfl, rfl, rfl, rfl, rfl, rfl, hs72⟩
  ·refine JC.cond_f (b := decide (x_71 < (y2.length : Int))) rfl hc75 ?_
   refine JC.exit (JQ.exit_then (JQ.exit_then (JQ.exit_block ?_)))
   obtain rfl := Option.some.inj hF
   have ehr73 := hr73 _ rfl
   subst ehr73
   exact JQ.join r_70 ⟨rfl, rfl, rfl, hs72, rfl⟩
 ·rintro r_43 H44 f bs gs ⟨hf2, rfl, rfl, hs44, rfl⟩
  have hF := hKr45
  try dsimp only at hF
  refine (JQ.norm (i := 2) hf2 ?_)
  refine JQ.go (JC.seq (JC.region (by rfl) ?_))
  intro hQ
  refine JL.move .none rfl ?_
  refine JL.assign .none rfl ?_
  refine JL.done hQ (JQ.go (JC.ret ?_))
  obtain rfl := Option.some.inj hF
  exact JQ.outS rfl (.tmp .nil) rfl
-- 76 (ferrule/frames.sides).cosine
def F_frames_sides_cosine (n : Nat) (x_ : frames_sides) (d : Int) : Option Frac :=
 some (Frac.mk (w64 ((w64 ((w64 (d * d)) + (w64 (x_.arm * x_.arm)))) - (w64 (x_.stretch * x_.stretch)))) (w64 ((w64 (2 * d)) * x_.arm)))
theorem c_frames_sides_cosine (n : Nat) (H : Hp) (x_ : frames_sides) (d : Int) (y : Frac) (hF : F_frames_sides_cosine n x_ d = some y) : SC Try.prog 76 [.agg [.int .i64 x_.arm, .int .i64 x_.stretch].toArray, .int .i64 d] (.agg [.int .i64 y.Num, .int .i64 y.Den].toArray) H := by
 rw [F_frames_sides_cosine] at hF
 refine SC.of (N := 26) Try.func76 rfl rfl rfl fun w => ?_
 refine JC.seq (JC.region (by rfl) ?_)
 intro hQ
 refine JL.box (cs := [.int .i64 x_.arm, .int .i64 x_.stretch]) rfl .none rfl ?_
 intro b1
 refine JL.alloc ze_51 .none rfl ?_
 intro b2
 refine JL.done hQ (JQ.go (JC.seq (JC.region (by rfl) ?_)))
 intro hQ
 refine JL.move .none rfl ?_
 refine JL.move .none rfl ?_
 refine JL.bin rfl rfl rfl .none rfl ?_
 refine JL.fieldAddr fo_147_0 rfl .none rfl ?_
 refine JL.loadOwn 1 az_3 rfl rfl rfl .none rfl ?_
 refine JL.fieldAddr fo_147_0 rfl .none rfl ?_
 refine JL.loadOwn 1 az_3 rfl rfl rfl .none rfl ?_
 refine JL.bin rfl rfl rfl .none rfl ?_
 refine JL.bin rfl rfl rfl .none rfl ?_
 refine JL.fieldAddr fo_147_1 rfl .none rfl ?_
 refine JL.loadOwn 1 az_3 rfl rfl rfl .none rfl ?_
 refine JL.fieldAddr fo_147_1 rfl .none rfl ?_
 refine JL.loadOwn 1 az_3 rfl rfl rfl .none rfl ?_
 refine JL.bin rfl rfl rfl .none rfl ?_
 refine JL.bin rfl rfl rfl .none rfl ?_
 refine JL.move .none rfl ?_
 refine JL.bin rfl rfl rfl .none rfl ?_
 refine JL.fieldAddr fo_147_0 rfl .none rfl ?_
 refine JL.loadOwn 1 az_3 rfl rfl rfl .none rfl ?_
 refine JL.bin rfl rfl rfl .none rfl ?_
 refine JL.build (l := [.int .i64 (w64 ((w64 ((w64 (d * d)) + (w64 (x_.arm * x_.arm)))) - (w64 (x_.stretch * x_.stretch)))), .int .i64 (w64 ((w64 (2 * d)) * x_.arm))]) (by kernel_rfl) .none rfl ?_
 refine JL.storeOwn 0 (cs := [.int .i64 (w64 ((w64 ((w64 (d * d)) + (w64 (x_.arm * x_.arm)))) - (w64 (x_.stretch * x_.stretch)))), .int .i64 (w64 ((w64 (2 * d)) * x_.arm))]) az_51 rfl rfl rfl (one_cons rfl (one_cons rfl one_nil)) rfl rfl .none ?_
 refine JL.done hQ (JQ.go (JC.fresh (fun f => f 4 = .pointer (some ⟨b2, 0, none⟩)) rfl ?_))
 rintro f hf4
 refine (JC.norm (i := 4) hf4 ?_)
 refine JC.ret ?_
 obtain rfl := Option.some.inj hF
 exact JQ.outS rfl (.cell 0 az_51 rfl rfl rfl .nil) rfl
-- 174 cmp.isNaN[int]
def F_cmp_isNaN_int_ (n : Nat) (x_ : Int) : Option Bool :=
 some (x_ != x_)
theorem c_cmp_isNaN_int_ (n : Nat) (H : Hp) (x_ : Int) (y : Bool) (hF : F_cmp_isNaN_int_ n x_ = some y) : SC Try.prog 174 [.int .i64 x_] (.bool y) H := by
 rw [F_cmp_isNaN_int_] at hF
 refine SC.of (N := 6) Try.func174 rfl rfl rfl fun w => ?_
 refine JC.seq (JC.region (by rfl) ?_)
 intro hQ
 refine JL.assign .none rfl ?_
 refine JL.done hQ (JQ.go (JC.seq (JC.region (by rfl) ?_)))
 intro hQ
 refine JL.move .none rfl ?_
 refine JL.move .none rfl ?_
 refine JL.bin rfl rfl rfl .none rfl ?_
 refine JL.assign .none rfl ?_
 refine JL.done hQ (JQ.go (JC.ret ?_))
 obtain rfl := Option.some.inj hF
 exact JQ.outS rfl (.tmp .nil) rfl
-- 126 cmp.Compare[int]
def F_cmp_Compare_int_ (n : Nat) (x_ : Int) (y_ : Int) : Option Int :=
 (F_cmp_isNaN_int_ n x_).bind fun y1 => (F_cmp_isNaN_int_ n y_).bind fun y2 => if y1 = true then (if y2 = true then (some 0) else (some (-1))) else (if y2 = true then (some 1) else (if decide (x_ < y_) = true then (some (-1)) else (if decide (y_ < x_) = true then (some 1) else (some 0))))
theorem c_cmp_Compare_int_ (n : Nat) (H : Hp) (x_ : Int) (y_ : Int) (y : Int) (hF : F_cmp_Compare_int_ n x_ y_ = some y) : SC Try.prog 126 [.int .i64 x_, .int .i64 y_] (.int .i64 y) H := by
 rw [F_cmp_Compare_int_] at hF
 refine SC.of (N := 20) Try.func126 rfl rfl rfl fun w => ?_
 refine JC.seq (JC.region (by rfl) ?_)
 intro hQ
 refine JL.assign .none rfl ?_
 refine JL.done hQ (JQ.go (JC.seq (JC.region (by rfl) ?_)))
 intro hQ
 refine JL.move .none rfl ?_
 obtain ⟨y1, hy1, hF⟩ := bind_some hF
 refine JL.callS (c_cmp_isNaN_int_ n H x_ y1 hy1) rfl en_174 .none rfl ?_
 refine JL.assign .none rfl ?_
 refine JL.done hQ (JQ.go (JC.seq (JC.region (by rfl) ?_)))
 intro hQ
 refine JL.move .none rfl ?_
 obtain ⟨y2, hy2, hF⟩ := bind_some hF
 refine JL.callS (c_cmp_isNaN_int_ n H y_ y2 hy2) rfl en_174 .none rfl ?_
 refine JL.assign .none rfl ?_
 refine JL.done hQ (JQ.go (JC.seq (JC.seq (JC.region (by rfl) ?_))))
 intro hQ
 refine JL.move .none rfl ?_
 refine JL.done hQ (JQ.go ?_)
 rcases ite_some hF with ⟨hc3, hF⟩ | ⟨hc3, hF⟩
 ·refine JC.cond_t (b := y1) rfl hc3 ?_
  refine JC.seq (JC.seq (JC.region (by rfl) ?_))
  intro hQ
  refine JL.move .none rfl ?_
  refine JL.done hQ (JQ.go ?_)
  rcases ite_some hF with ⟨hc4, hF⟩ | ⟨hc4, hF⟩
  ·refine JC.cond_t (b := y2) rfl hc4 ?_
   refine JC.seq (JC.region (by rfl) ?_)
   intro hQ
   refine JL.assign .none rfl ?_
   refine JL.done hQ (JQ.go (JC.ret (JQ.ret_then (JQ.ret_then ?_))))
   obtain rfl := Option.some.inj hF
   exact JQ.outS rfl (.tmp .nil) rfl
  ·refine JC.cond_f (b := y2) rfl hc4 ?_
   refine JC.skip (JQ.go (JC.seq (JC.region (by rfl) ?_)))
   intro hQ
   refine JL.assign .none rfl ?_
   refine JL.done hQ (JQ.go (JC.ret (JQ.ret_then ?_)))
   obtain rfl := Option.some.inj hF
   exact JQ.outS rfl (.tmp .nil) rfl
 ·refine JC.cond_f (b := y1) rfl hc3 ?_
  refine JC.skip (JQ.go (JC.seq (JC.seq (JC.region (by rfl) ?_))))
  intro hQ
  refine JL.move .none rfl ?_
  refine JL.done hQ (JQ.go ?_)
  rcases ite_some hF with ⟨hc5, hF⟩ | ⟨hc5, hF⟩
  ·refine JC.cond_t (b := y2) rfl hc5 ?_
   refine JC.seq (JC.region (by rfl) ?_)
   intro hQ
   refine JL.assign .none rfl ?_
   refine JL.done hQ (JQ.go (JC.ret (JQ.ret_then ?_)))
   obtain rfl := Option.some.inj hF
   exact JQ.outS rfl (.tmp .nil) rfl
  ·refine JC.cond_f (b := y2) rfl hc5 ?_
   refine JC.skip (JQ.go (JC.seq (JC.seq (JC.region (by rfl) ?_))))
   intro hQ
   refine JL.move .none rfl ?_
   refine JL.move .none rfl ?_
   refine JL.bin rfl rfl rfl .none rfl ?_
   refine JL.done hQ (JQ.go (JC.fresh (fun f => f 0 = .int .i64 x_ ∧ f 1 = .int .i64 y_ ∧ f 4 = .int .i64 0 ∧ f 16 = .bool (decide (x_ < y_))) ⟨rfl, rfl, rfl, rfl⟩ ?_))
   rintro f ⟨hf0, hf1, hf4, hf16⟩
   refine (JC.norm (i := 0) hf0 (JC.norm (i := 1) hf1 (JC.norm (i := 4) hf4 (JC.norm (i := 16) hf16 ?_))))
   rcases ite_some hF with ⟨hc6, hF⟩ | ⟨hc6, hF⟩
   ·refine JC.cond_t (b := decide (x_ < y_)) rfl hc6 ?_
    refine JC.seq (JC.region (by rfl) ?_)
    intro hQ
    refine JL.assign .none rfl ?_
    refine JL.done hQ (JQ.go (JC.ret (JQ.ret_then ?_)))
    obtain rfl := Option.some.inj hF
    exact JQ.outS rfl (.tmp .nil) rfl
   ·refine JC.cond_f (b := decide (x_ < y_)) rfl hc6 ?_
    refine JC.skip (JQ.go (JC.seq (JC.seq (JC.region (by rfl) ?_))))
    intro hQ
    refine JL.move .none rfl ?_
    refine JL.move .none rfl ?_
    refine JL.bin rfl rfl rfl .none rfl ?_
    refine JL.done hQ (JQ.go ?_)
    rcases ite_some hF with ⟨hc7, hF⟩ | ⟨hc7, hF⟩
    ·refine JC.cond_t (b := decide (y_ < x_)) rfl hc7 ?_
     refine JC.seq (JC.region (by rfl) ?_)
     intro hQ
     refine JL.assign .none rfl ?_
     refine JL.done hQ (JQ.go (JC.ret (JQ.ret_then ?_)))
     obtain rfl := Option.some.inj hF
     exact JQ.outS rfl (.tmp .nil) rfl
    ·refine JC.cond_f (b := decide (y_ < x_)) rfl hc7 ?_
     refine JC.skip (JQ.go (JC.seq (JC.region (by rfl) ?_)))
     intro hQ
     refine JL.assign .none rfl ?_
     refine JL.done hQ (JQ.go (JC.ret ?_))
     obtain rfl := Option.some.inj hF
     exact JQ.outS rfl (.tmp .nil) rfl
-- 77 ferrule/frames.compare
def F_frames_compare (n : Nat) (a : Frac) (b : Frac) : Option Int :=
 (F_cmp_Compare_int_ n (w64 (a.Num * b.Den)) (w64 (b.Num * a.Den))).bind fun y3 => some y3
theorem c_frames_compare (n : Nat) (H : Hp) (a : Frac) (b : Frac) (y : Int) (hF : F_frames_compare n a b = some y) : SC Try.prog 77 [.agg [.int .i64 a.Num, .int .i64 a.Den].toArray, .agg [.int .i64 b.Num, .int .i64 b.Den].toArray] (.int .i64 y) H := by
 rw [F_frames_compare] at hF
 refine SC.of (N := 16) Try.func77 rfl rfl rfl fun w => ?_
 refine JC.seq (JC.region (by rfl) ?_)
 intro hQ
 refine JL.box (cs := [.int .i64 a.Num, .int .i64 a.Den]) rfl .none rfl ?_
 intro b1
 refine JL.box (cs := [.int .i64 b.Num, .int .i64 b.Den]) rfl .none rfl ?_
 intro b2
 refine JL.assign .none rfl ?_
 refine JL.done hQ (JQ.go (JC.seq (JC.region (by rfl) ?_)))
 intro hQ
 refine JL.fieldAddr fo_51_0 rfl .none rfl ?_
 refine JL.loadOwn 1 az_3 rfl rfl rfl .none rfl ?_
 refine JL.fieldAddr fo_51_1 rfl .none rfl ?_
 refine JL.loadOwn 0 az_3 rfl rfl rfl .none rfl ?_
 refine JL.bin rfl rfl rfl .none rfl ?_
 refine JL.fieldAddr fo_51_0 rfl .none rfl ?_
 refine JL.loadOwn 0 az_3 rfl rfl rfl .none rfl ?_
 refine JL.fieldAddr fo_51_1 rfl .none rfl ?_
 refine JL.loadOwn 1 az_3 rfl rfl rfl .none rfl ?_
 refine JL.bin rfl rfl rfl .none rfl ?_
 obtain ⟨y3, hy3, hF⟩ := bind_some hF
 refine JL.callS (c_cmp_Compare_int_ n H (w64 (a.Num * b.Den)) (w64 (b.Num * a.Den)) y3 hy3) rfl en_126 .none rfl ?_
 refine JL.assign .none rfl ?_
 refine JL.done hQ (JQ.go (JC.fresh (fun f => f 4 = .int .i64 y3) rfl ?_))
 rintro f hf4
 refine (JC.norm (i := 4) hf4 ?_)
 refine JC.ret ?_
 obtain rfl := Option.some.inj hF
 exact JQ.outS rfl (.tmp .nil) rfl
-- 134 (ferrule/frames.sides).binds
def F_frames_sides_binds (n : Nat) (x_ : frames_sides) (d : Int) (ease : Frac) : Option Bool :=
 if (d == 0) = true then (some true) else ((F_frames_sides_cosine n x_ d).bind fun y4 => (F_frames_compare n y4 (Frac.mk (w64 (ease.Den - ease.Num)) ease.Den)).bind fun y7 => (if decide (0 ≤ y7) = true then (some true) else ((F_frames_compare n y4 (Frac.mk (w64 (-(w64 (ease.Den - ease.Num)))) ease.Den)).bind fun y12 => some (decide (y12 ≤ 0))) : Option Bool).bind fun p9 => some p9)
theorem c_frames_sides_binds (n : Nat) (H : Hp) (x_ : frames_sides) (d : Int) (ease : Frac) (y : Bool) (hF : F_frames_sides_binds n x_ d ease = some y) : SC Try.prog 134 [.agg [.int .i64 x_.arm, .int .i64 x_.stretch].toArray, .int .i64 d, .agg [.int .i64 ease.Num, .int .i64 ease.Den].toArray] (.bool y) H := by
 rw [F_frames_sides_binds] at hF
 refine SC.of (N := 37) Try.func134 rfl rfl rfl fun w => ?_
 refine JC.seq (JC.region (by rfl) ?_)
 intro hQ
 refine JL.box (cs := [.int .i64 x_.arm, .int .i64 x_.stretch]) rfl .none rfl ?_
 intro b1
 refine JL.box (cs := [.int .i64 ease.Num, .int .i64 ease.Den]) rfl .none rfl ?_
 intro b2
 refine JL.assign .none rfl ?_
 refine JL.done hQ (JQ.go (JC.seq (JC.seq (JC.region (by rfl) ?_))))
 intro hQ
 refine JL.move .none rfl ?_
 refine JL.bin rfl rfl rfl .none rfl ?_
 refine JL.done hQ (JQ.go ?_)
 rcases ite_some hF with ⟨hc3, hF⟩ | ⟨hc3, hF⟩
 ·refine JC.cond_t (b := (d == 0)) rfl hc3 ?_
  refine JC.seq (JC.region (by rfl) ?_)
  intro hQ
  refine JL.assign .none rfl ?_
  refine JL.done hQ (JQ.go (JC.ret (JQ.ret_then ?_)))
  obtain rfl := Option.some.inj hF
  exact JQ.outS rfl (.tmp .nil) rfl
 ·refine JC.cond_f (b := (d == 0)) rfl hc3 ?_
  refine JC.skip (JQ.go (JC.seq (JC.region (by rfl) ?_)))
  intro hQ
  refine JL.loadOwn 1 az_147 rfl rfl rfl .none rfl ?_
  refine JL.move .none rfl ?_
  obtain ⟨y4, hy4, hF⟩ := bind_some hF
  refine JL.callS (c_frames_sides_cosine n H x_ d y4 hy4) rfl en_76 .none rfl ?_
  refine JL.alloc ze_51 .none rfl ?_
  intro b5
  refine JL.storeOwn 0 (cs := [.int .i64 y4.Num, .int .i64 y4.Den]) az_51 rfl rfl rfl (one_cons rfl (one_cons rfl one_nil)) rfl rfl .none ?_
  refine JL.done hQ (JQ.go (JC.seq (JC.region (by rfl) ?_)))
  intro hQ
  refine JL.fieldAddr fo_51_1 rfl .none rfl ?_
  refine JL.loadOwn 1 az_3 rfl rfl rfl .none rfl ?_
  refine JL.fieldAddr fo_51_0 rfl .none rfl ?_
  refine JL.loadOwn 1 az_3 rfl rfl rfl .none rfl ?_
  refine JL.bin rfl rfl rfl .none rfl ?_
  refine JL.fieldAddr fo_51_1 rfl .none rfl ?_
  refine JL.loadOwn 1 az_3 rfl rfl rfl .none rfl ?_
  refine JL.build (l := [.int .i64 (w64 (ease.Den - ease.Num)), .int .i64 ease.Den]) (by kernel_rfl) .none rfl ?_
  refine JL.alloc ze_51 .none rfl ?_
  intro b6
  refine JL.storeOwn 0 (cs := [.int .i64 (w64 (ease.Den - ease.Num)), .int .i64 ease.Den]) az_51 rfl rfl rfl (one_cons rfl (one_cons rfl one_nil)) rfl rfl .none ?_
  refine JL.done hQ (JQ.go (JC.fresh (fun f => f 6 = .bool false ∧ f 7 = .pointer (some ⟨b5, 0, none⟩) ∧ f 8 = .pointer (some ⟨b6, 0, none⟩)) ⟨rfl, rfl, rfl⟩ ?_))
  rintro f ⟨hf6, hf7, hf8⟩
  refine (JC.norm (i := 6) hf6 (JC.norm (i := 7) hf7 (JC.norm (i := 8) hf8 ?_)))
  refine JC.seq (JC.region (by rfl) ?_)
  intro hQ
  refine JL.loadOwn 1 az_51 rfl rfl rfl .none rfl ?_
  refine JL.loadOwn 0 az_51 rfl rfl rfl .none rfl ?_
  obtain ⟨y7, hy7, hF⟩ := bind_some hF
  refine JL.callS (c_frames_compare n H y4 (Frac.mk (w64 (ease.Den - ease.Num)) ease.Den) y7 hy7) rfl en_77 .none rfl ?_
  refine JL.bin rfl rfl rfl .none rfl ?_
  refine JL.move .none rfl ?_
  obtain ⟨p9, hp9, hF⟩ := bind_some hF
  refine JL.cut 10 (fun f => f 36 = .bool p9) ?_ ?_
  ·intro hJ10
   rcases ite_some hp9 with ⟨hc11, hF⟩ | ⟨hc11, hF⟩
   ·skip
    refine JL.skip (.bool rfl rfl rfl hc11) rfl ?_
    refine JL.skip (.bool rfl rfl rfl hc11) rfl ?_
    refine JL.skip (.bool rfl rfl rfl hc11) rfl ?_
    refine JL.skip (.bool rfl rfl rfl hc11) rfl ?_
    refine JL.skip (.bool rfl rfl rfl hc11) rfl ?_
    refine JL.skip (.bool rfl rfl rfl hc11) rfl ?_
    refine JL.skip (.bool rfl rfl rfl hc11) rfl ?_
    refine JL.skip (.bool rfl rfl rfl hc11) rfl ?_
    refine JL.skip (.bool rfl rfl rfl hc11) rfl ?_
    refine JL.pick_t (b := decide (0 ≤ y7)) rfl hc11 .none rfl ?_
    obtain rfl := Option.some.inj hF
    exact hJ10 _ (rfl)
   ·skip
    refine JL.loadOwn 1 az_51 rfl rfl rfl (.some rfl rfl rfl hc11) rfl ?_
    refine JL.fieldAddr fo_51_0 rfl (.some rfl rfl rfl hc11) rfl ?_
    refine JL.loadOwn 0 az_3 rfl rfl rfl (.some rfl rfl rfl hc11) rfl ?_
    refine JL.neg rfl (.some rfl rfl rfl hc11) rfl ?_
    refine JL.fieldAddr fo_51_1 rfl (.some rfl rfl rfl hc11) rfl ?_
    refine JL.loadOwn 0 az_3 rfl rfl rfl (.some rfl rfl rfl hc11) rfl ?_
    refine JL.build (l := [.int .i64 (w64 (-(w64 (ease.Den - ease.Num)))), .int .i64 ease.Den]) (by kernel_rfl) (.some rfl rfl rfl hc11) rfl ?_
    obtain ⟨y12, hy12, hF⟩ := bind_some hF
    refine JL.callS (c_frames_compare n H y4 (Frac.mk (w64 (-(w64 (ease.Den - ease.Num)))) ease.Den) y12 hy12) rfl en_77 (.some rfl rfl rfl hc11) rfl ?_
    refine JL.bin rfl rfl rfl (.some rfl rfl rfl hc11) rfl ?_
    refine JL.pick_f (b := decide (0 ≤ y7)) rfl hc11 .none rfl ?_
    obtain rfl := Option.some.inj hF
    exact hJ10 _ (rfl)
  ·rintro f hf36
   refine (JL.norm (i := 36) hf36 ?_)
   refine JL.assign .none rfl ?_
   refine JL.done hQ (JQ.go (JC.ret ?_))
   obtain rfl := Option.some.inj hF
   exact JQ.outS rfl (.tmp .nil) rfl
-- 132 ferrule/frames.stuck$1
def F_frames_stuck_1_s1 (n : Nat) (x_ : frames_sides) (c_0 : Frame) (c_1 : Int) : Unit → Int → Option (Unit ⊕ Bool)
 | _, x6 => (F_frames_distance n c_0 c_1 x6).bind fun y29 => (F_frames_sides_binds n x_ y29 c_0.Ease).bind fun y30 => if y30 = true then (some (Sum.inr true)) else (some (Sum.inl ()))
def F_frames_stuck_1 (n : Nat) (x_ : frames_sides) (c_0 : Frame) (c_1 : Int) : Option Bool :=
 (F_frames_positions n c_0).bind fun y3 => (I_frames_positions_1 n y3 (F_frames_stuck_1_s1 n x_ c_0 c_1) ()).bind fun r24 => match r24 with | .inl _ => some false | .inr z_22 => some z_22
theorem c_frames_stuck_1 (n : Nat) (H : Hp) (x_ : frames_sides) (c_0 : Frame) (c_0_v0 : Value) (hc_0_0 : SL H 7 R_Section c_0_v0 c_0.Sections) (c_0_b : Nat) (c_0_c : Cells H c_0_b 0 [c_0_v0, .int .i64 c_0.Low, .int .i64 c_0.High, .int .i64 c_0.Ease.Num, .int .i64 c_0.Ease.Den, .int .i64 c_0.Rod, .int .i64 c_0.Case]) (c_1 : Int) (c_1_b : Nat) (c_1_c : Cells H c_1_b 0 [.int .i64 c_1]) (y : Bool) (hF : F_frames_stuck_1 n x_ c_0 c_1 = some y) : SC Try.prog 132 [.agg [.int .i64 x_.arm, .int .i64 x_.stretch].toArray, .pointer (some ⟨c_0_b, 0, none⟩), .pointer (some ⟨c_1_b, 0, none⟩)] (.bool y) H := by
 rw [F_frames_stuck_1] at hF
 refine SC.ofM (N := 17) Try.func132 rfl rfl rfl fun w => ?_
 refine JC.seq (JC.region (by rfl) ?_)
 intro hQ
 refine JL.box (cs := [.int .i64 x_.arm, .int .i64 x_.stretch]) rfl .none rfl ?_
 intro b1
 refine JL.alloc ze_4 .none rfl ?_
 intro b2
 refine JL.done hQ (JQ.go (JC.seq (JC.seq (JC.region (by rfl) ?_))))
 intro hQ
 refine JL.loadH 0 az_53 rfl c_0_c rfl .none rfl ?_
 obtain ⟨y3, hy3, hF⟩ := bind_some hF
 refine JL.callH (c_frames_positions n H c_0 c_0_v0 hc_0_0 y3 hy3) rfl en_133 .none rfl ?_
 rintro H4 vv5 hs4 ⟨y3_b0, y3_0_v0, rfl, hy3_b0, hy3_0_0⟩
 refine JL.done hQ (JQ.go (JC.block ?_))
 obtain ⟨r24, hl25, hF⟩ := bind_some hF
 refine JC.rangeFunc (ρ := Bool) (V := (VPlain fun (x : Int) => .int .i64 x)) (F := fun _ _ step s => I_frames_positions_1 n y3 step s) rfl en_176 (it_frames_positions_1 n H4 y3 y3_0_v0 hy3_0_0 y3_b0 hy3_b0) rfl hl25 (fun (_ : Unit) H21 fr gs => fr = [(b2, .cells [.bool false].toArray 4), (b1, .cells [.int .i64 x_.arm, .int .i64 x_.stretch].toArray 147)] ∧ gs = [] ∧ HSub H4 H21) (fun (z_22 : Bool) (c : Code) H23 fr gs => c = .ret ∧ fr = [(b2, .cells [.bool z_22].toArray 4), (b1, .cells [.int .i64 x_.arm, .int .i64 x_.stretch].toArray 147)] ∧ gs = [] ∧ HSub H4 H23) ⟨rfl, rfl, (HSub.refl _)⟩ ?_ ?_ ?_
 ·rintro l7 _ x6 y26 v8 own T9 H21 fr gs ⟨rfl, rfl, hs21⟩ hF ⟨rfl, rfl⟩ -
  rw [F_frames_stuck_1_s1] at hF
  refine JC.region (by rfl) ?_
  intro hQ
  refine JL.assign .none rfl ?_
  refine JL.done hQ (JQ.assigned [(b2, .cells [.bool false].toArray 4), (b1, .cells [.int .i64 x_.arm, .int .i64 x_.stretch].toArray 147)] (fun T10 => ?_))
  refine JC.block (JC.seq (JC.draw (by rfl) mo_ (by kernel_rfl) ?_))
  intro hQ
  refine JL.loadOwn 1 az_147 rfl rfl rfl .none rfl ?_
  refine JL.loadH 0 az_53 rfl (Cells.mono (HSub.trans hs4 hs21) c_0_c) rfl .none rfl ?_
  refine JL.loadH 0 az_3 rfl (Cells.mono (HSub.trans hs4 hs21) c_1_c) rfl .none rfl ?_
  refine JL.move .none rfl ?_
  obtain ⟨y29, hy29, hF⟩ := bind_some hF
  refine JL.callS (c_frames_distance n H21 c_0 c_0_v0 (SL.mono R_Section_mono (HSub.trans hs4 hs21) hc_0_0) c_1 x6 y29 hy29) rfl en_74 .none rfl ?_
  refine JL.fieldAddr fo_53_3 rfl .none rfl ?_
  refine JL.loadH 3 az_51 rfl (Cells.mono (HSub.trans hs4 hs21) c_0_c) rfl .none rfl ?_
  obtain ⟨y30, hy30, hF⟩ := bind_some hF
  refine JL.callS (c_frames_sides_binds n H21 x_ y29 c_0.Ease y30 hy30) rfl en_134 .none rfl ?_
  refine JL.doneQ hQ ?_
  refine JQ.go (JC.fresh (fun f => f 4 = .pointer (some ⟨b2, 0, none⟩) ∧ f 16 = .bool y30) ⟨rfl, rfl⟩ ?_)
  rintro f ⟨hf4, hf16⟩
  refine (JC.norm (i := 4) hf4 (JC.norm (i := 16) hf16 ?_))
  rcases ite_some hF with ⟨hc31, hF⟩ | ⟨hc31, hF⟩
  ·refine JC.cond_t (b := y30) rfl hc31 ?_
   refine JC.seq (JC.region (by rfl) ?_)
   intro hQ
   refine JL.storeOwn 0 (cs := [.bool true]) az_4 rfl rfl rfl (one_cons rfl one_nil) rfl rfl .none ?_
   refine JL.done hQ (JQ.go (JC.ret (JQ.ret_block ?_)))
   obtain rfl := Option.some.inj hF
   refine JQ.roundRet rfl [(b2, .cells [.bool true].toArray 4), (b1, .cells [.int .i64 x_.arm, .int .i64 x_.stretch].toArray 147)] (HSub.refl _) ?_
   exact ⟨rfl, rfl, rfl, hs21⟩
  ·refine JC.cond_f (b := y30) rfl hc31 ?_
   refine JC.skip (JQ.normal_block ?_)
   obtain rfl := Option.some.inj hF
   refine JQ.round rfl [(b2, .cells [.bool false].toArray 4), (b1, .cells [.int .i64 x_.arm, .int .i64 x_.stretch].toArray 147)] (HSub.refl _) ?_
   exact ⟨rfl, rfl, hs21⟩
 ·rintro D32 _ H21 fr gs rfl ⟨rfl, rfl, hs21⟩ -
  try dsimp only at hF
  refine JQ.normal_block (JQ.go (JC.seq (JC.region (by rfl) ?_)))
  intro hQ
  refine JL.storeOwn 0 (cs := [.bool false]) az_4 rfl rfl rfl (one_cons rfl one_nil) rfl rfl .none ?_
  refine JL.done hQ (JQ.go (JC.ret ?_))
  obtain rfl := Option.some.inj hF
  exact JQ.outSM rfl (.cons 2 rfl .nil) (.cell 0 az_4 rfl rfl rfl .nil) rfl
 ·rintro D33 z_22 _ H23 fr gs rfl ⟨rfl, rfl, rfl, hs23⟩ -
  try dsimp only at hF
  refine JC.ret (JQ.ret_block (JQ.ret_then ?_))
  obtain rfl := Option.some.inj hF
  exact JQ.outSM rfl (.cons 2 rfl .nil) (.cell 0 az_4 rfl rfl rfl .nil) rfl
-- 131 ferrule/frames.known
def F_frames_known_s1 (n : Nat) (is : frames_sides → Option Bool) : (Int × Int) → frames_sides → Option ((Int × Int) ⊕ Unit)
 | (z_35, z_36), x8 => (is x8).bind fun y42 => (if y42 = true then (some (w64 (z_36 + 1))) else (some z_36)).bind fun z_44 => some (Sum.inl ((w64 (z_35 + 1)), z_44))
def F_frames_known (n : Nat) (s : Section) (is : frames_sides → Option Bool) : Option Int :=
 (F_frames_truths n s).bind fun y5 => (I_frames_truths_1 n y5 (F_frames_known_s1 n is) (0, 0)).bind fun r38 => match r38 with | .inl (z_35, z_36) => if (z_36 == z_35) = true then (some 1) else (if (z_36 == 0) = true then (some 2) else (some 3)) | .inr _ => none
theorem c_frames_known (n : Nat) (H : Hp) (s : Section) (is : frames_sides → Option Bool) (is_k : Nat) (is_c : List Value) (is_e : Ent Try.prog is_k) (is_h : ∀ H', HSub H H' → ∀ (a0_ : frames_sides) (y : Bool), is a0_ = some y → SC Try.prog is_k ([.agg [.int .i64 a0_.arm, .int .i64 a0_.stretch].toArray] ++ is_c) (.bool y) H') (y : Int) (hF : F_frames_known n s is = some y) : SC Try.prog 131 [.agg [.int .i64 s.Arm.Low, .int .i64 s.Arm.High, .int .i64 s.Stretch.Low, .int .i64 s.Stretch.High, .int .i64 s.Base, .int .i64 s.Gear.Num, .int .i64 s.Gear.Den].toArray, .func (.func is_k) #[] is_c.toArray] (.int .i64 y) H := by
 rw [F_frames_known] at hF
 refine SC.ofM (N := 24) Try.func131 rfl rfl rfl fun w => ?_
 refine JC.seq (JC.region (by rfl) ?_)
 intro hQ
 refine JL.box (cs := [.int .i64 s.Arm.Low, .int .i64 s.Arm.High, .int .i64 s.Stretch.Low, .int .i64 s.Stretch.High, .int .i64 s.Base, .int .i64 s.Gear.Num, .int .i64 s.Gear.Den]) rfl .none rfl ?_
 intro b1
 refine JL.box (cs := [.func (.func is_k) #[] is_c.toArray]) rfl .none rfl ?_
 intro b2
 refine JL.assign .none rfl ?_
 refine JL.done hQ (JQ.go (JC.seq (JC.region (by rfl) ?_)))
 intro hQ
 refine JL.alloc ze_3 .none rfl ?_
 intro b3
 refine JL.alloc ze_3 .none rfl ?_
 intro b4
 refine JL.storeOwn 1 (cs := [.int .i64 0]) az_3 rfl rfl rfl (one_cons rfl one_nil) rfl rfl .none ?_
 refine JL.storeOwn 0 (cs := [.int .i64 0]) az_3 rfl rfl rfl (one_cons rfl one_nil) rfl rfl .none ?_
 refine JL.done hQ (JQ.go (JC.seq (JC.seq (JC.region (by rfl) ?_))))
 intro hQ
 refine JL.loadOwn 3 az_68 rfl rfl rfl .none rfl ?_
 obtain ⟨y5, hy5, hF⟩ := bind_some hF
 refine JL.callH (c_frames_truths n H s y5 hy5) rfl en_75 .none rfl ?_
 rintro H6 vv7 hs6 ⟨y5_b0, rfl, hy5_b0⟩
 refine JL.done hQ (JQ.go (JC.block ?_))
 obtain ⟨r38, hl39, hF⟩ := bind_some hF
 refine JC.mask [true, true, true, false] [] ?_
 refine JC.rangeFunc (ρ := Unit) (V := (VPlain fun (x : frames_sides) => .agg [.int .i64 x.arm, .int .i64 x.stretch].toArray)) (F := fun _ _ step s => I_frames_truths_1 n y5 step s) rfl en_125 (it_frames_truths_1 n H6 y5 y5_b0 hy5_b0) rfl hl39 (fun (z : Int × Int) H37 fr gs => match z with | (z_35, z_36) => fr = [(b4, .cells [.int .i64 z_35].toArray 3), (b3, .cells [.int .i64 z_36].toArray 3), (b2, .cells [.func (.func is_k) #[] is_c.toArray].toArray 193)] ∧ gs = [] ∧ HSub H6 H37) (fun _ _ _ _ _ => False) ⟨rfl, rfl, (HSub.refl _)⟩ ?_ ?_ ?_
 ·rintro l9 ⟨z_35, z_36⟩ x8 y40 v10 own T11 H37 fr gs ⟨rfl, rfl, hs37⟩ hF ⟨rfl, rfl⟩ -
  rw [F_frames_known_s1] at hF
  refine JC.region (by rfl) ?_
  intro hQ
  refine JL.alloc ze_147 .none rfl ?_
  intro b41
  refine JL.storeOwn 0 (cs := [.int .i64 x8.arm, .int .i64 x8.stretch]) az_147 rfl rfl rfl (one_cons rfl (one_cons rfl one_nil)) rfl rfl .none ?_
  refine JL.done hQ (JQ.assigned [(b41, .cells [.int .i64 x8.arm, .int .i64 x8.stretch].toArray 147), (b4, .cells [.int .i64 z_35].toArray 3), (b3, .cells [.int .i64 z_36].toArray 3), (b2, .cells [.func (.func is_k) #[] is_c.toArray].toArray 193)] (fun T12 => ?_))
  refine JC.block (JC.seq (JC.region (by rfl) ?_))
  intro hQ
  refine JL.loadOwn 1 az_3 rfl rfl rfl .none rfl ?_
  refine JL.bin rfl rfl rfl .none rfl ?_
  refine JL.storeOwn 1 (cs := [.int .i64 (w64 (z_35 + 1))]) az_3 rfl rfl rfl (one_cons rfl one_nil) rfl rfl .none ?_
  refine JL.done hQ (JQ.go (JC.seq (JC.region (by rfl) ?_)))
  intro hQ
  refine JL.loadOwn 3 az_193 rfl rfl rfl .none rfl ?_
  refine JL.loadOwn 0 az_147 rfl rfl rfl .none rfl ?_
  obtain ⟨y42, hy42, hF⟩ := bind_some hF
  refine JL.callV rfl (is_h H37 (HSub.trans hs6 hs37) x8 y42 hy42) rfl is_e .none rfl ?_
  refine JL.done hQ (JQ.go ?_)
  obtain ⟨r46, hlr46, hKr46⟩ := bind_some hF
  refine JC.join (fun (z_44 : Int) H45 f bs gs => bs = ((b4, .cells [.int .i64 (w64 (z_35 + 1))].toArray 3) :: (b3, .cells [.int .i64 z_44].toArray 3) :: (b2, .cells [.func (.func is_k) #[] is_c.toArray].toArray 193) :: T12) ∧ gs = [] ∧ HSub H37 H45 ∧ z_44 = r46) ?_ ?_
  ·have hF := hlr46
   rcases ite_some hF with ⟨hc47, hF⟩ | ⟨hc47, hF⟩
   ·refine JC.cond_t (b := y42) rfl hc47 ?_
    refine JC.region (by rfl) ?_
    intro hQ
    refine JL.loadOwn 2 az_3 rfl rfl rfl .none rfl ?_
    refine JL.bin rfl rfl rfl .none rfl ?_
    refine JL.storeOwn 2 (cs := [.int .i64 (w64 (z_36 + 1))]) az_3 rfl rfl rfl (one_cons rfl one_nil) rfl rfl .none ?_
    refine JL.done hQ ?_
    obtain rfl := Option.some.inj hF
    refine JQ.mask [false, true, true, true] [] ?_
    exact JQ.join (w64 (z_36 + 1)) ⟨rfl, rfl, (HSub.refl _), rfl⟩
   ·refine JC.cond_f (b := y42) rfl hc47 ?_
    refine JC.skip ?_
    obtain rfl := Option.some.inj hF
    refine JQ.mask [false, true, true, true] [] ?_
    exact JQ.join z_36 ⟨rfl, rfl, (HSub.refl _), rfl⟩
  ·rintro z_44 H45 f bs gs ⟨rfl, rfl, hs45, rfl⟩
   have hF := hKr46
   try dsimp only at hF
   refine JQ.normal_block ?_
   obtain rfl := Option.some.inj hF
   refine JQ.round rfl [(b4, .cells [.int .i64 (w64 (z_35 + 1))].toArray 3), (b3, .cells [.int .i64 z_44].toArray 3), (b2, .cells [.func (.func is_k) #[] is_c.toArray].toArray 193)] hs45 ?_
   exact ⟨rfl, rfl, (HSub.trans hs37 hs45)⟩
 ·rintro D48 ⟨z_35, z_36⟩ H37 fr gs rfl ⟨rfl, rfl, hs37⟩ -
  try dsimp only at hF
  refine JQ.normal_block (JQ.go (JC.seq (JC.seq (JC.region (by rfl) ?_))))
  intro hQ
  refine JL.loadOwn 1 az_3 rfl rfl rfl .none rfl ?_
  refine JL.done hQ (JQ.go (JC.block (JC.seq (JC.region (by rfl) ?_))))
  intro hQ
  refine JL.loadOwn 0 az_3 rfl rfl rfl .none rfl ?_
  refine JL.bin rfl rfl rfl .none rfl ?_
  refine JL.assign .none rfl ?_
  refine JL.done hQ (JQ.go ?_)
  rcases ite_some hF with ⟨hc49, hF⟩ | ⟨hc49, hF⟩
  ·refine JC.cond_t (b := (z_36 == z_35)) rfl hc49 ?_
   refine JC.seq (JC.region (by rfl) ?_)
   intro hQ
   refine JL.assign .none rfl ?_
   refine JL.done hQ (JQ.go (JC.ret (JQ.ret_block (JQ.ret_then ?_))))
   obtain rfl := Option.some.inj hF
   exact JQ.outSM rfl (.cons 3 rfl .nil) (.tmp .nil) rfl
  ·refine JC.cond_f (b := (z_36 == z_35)) rfl hc49 ?_
   refine JC.seq (JC.region (by rfl) ?_)
   intro hQ
   refine JL.bin rfl rfl rfl .none rfl ?_
   refine JL.assign .none rfl ?_
   refine JL.done hQ (JQ.go (JC.fresh (fun f => f 4 = .int .i64 0 ∧ f 22 = .bool (z_36 == 0)) ⟨rfl, rfl⟩ ?_))
   rintro f ⟨hf4, hf22⟩
   refine (JC.norm (i := 4) hf4 (JC.norm (i := 22) hf22 ?_))
   rcases ite_some hF with ⟨hc50, hF⟩ | ⟨hc50, hF⟩
   ·refine JC.cond_t (b := (z_36 == 0)) rfl hc50 ?_
    refine JC.seq (JC.region (by rfl) ?_)
    intro hQ
    refine JL.assign .none rfl ?_
    refine JL.done hQ (JQ.go (JC.ret (JQ.ret_block (JQ.ret_then ?_))))
    obtain rfl := Option.some.inj hF
    exact JQ.outSM rfl (.cons 3 rfl .nil) (.tmp .nil) rfl
   ·refine JC.cond_f (b := (z_36 == 0)) rfl hc50 ?_
    refine JC.skip (JQ.normal_block (JQ.go (JC.seq (JC.region (by rfl) ?_))))
    intro hQ
    refine JL.assign .none rfl ?_
    refine JL.done hQ (JQ.go (JC.ret ?_))
    obtain rfl := Option.some.inj hF
    exact JQ.outSM rfl (.cons 3 rfl .nil) (.tmp .nil) rfl
 ·rintro _ _ _ _ _ _ _ h; exact h.elim
-- 80 ferrule/frames.stuck
def F_frames_stuck (n : Nat) (f_ : Frame) (section_ : Int) : Option Int :=
 (geti f_.Sections section_).bind fun y3 => (F_frames_known n y3 (fun a0_ => F_frames_stuck_1 n a0_ f_ section_)).bind fun y12 => some y12
theorem c_frames_stuck (n : Nat) (H : Hp) (f_ : Frame) (f__v0 : Value) (hf__0 : SL H 7 R_Section f__v0 f_.Sections) (section_ : Int) (y : Int) (hF : F_frames_stuck n f_ section_ = some y) : SC Try.prog 80 [.agg [f__v0, .int .i64 f_.Low, .int .i64 f_.High, .int .i64 f_.Ease.Num, .int .i64 f_.Ease.Den, .int .i64 f_.Rod, .int .i64 f_.Case].toArray, .int .i64 section_] (.int .i64 y) H := by
 rw [F_frames_stuck] at hF
 refine SC.of (N := 12) Try.func80 rfl rfl rfl fun w => ?_
 refine JC.seq (JC.region (by rfl) ?_)
 intro hQ
 refine JL.box (cs := [f__v0, .int .i64 f_.Low, .int .i64 f_.High, .int .i64 f_.Ease.Num, .int .i64 f_.Ease.Den, .int .i64 f_.Rod, .int .i64 f_.Case]) rfl .none rfl ?_
 intro b1
 refine JL.box (cs := [.int .i64 section_]) rfl .none rfl ?_
 intro b2
 refine JL.assign .none rfl ?_
 refine JL.done hQ (JQ.go (JC.seq (JC.region (by rfl) ?_)))
 intro hQ
 refine JL.fieldAddr fo_53_0 rfl .none rfl ?_
 refine JL.loadOwn 1 az_49 rfl rfl rfl .none rfl ?_
 refine JL.loadOwn 0 az_3 rfl rfl rfl .none rfl ?_
 obtain ⟨y3, hy3, hF⟩ := bind_some hF
 refine JL.indexSL (R := R_Section) sl_49 hf__0 rfl hy3 .none rfl ?_
 rintro b4 o5 cs6 hc7 - rfl
 refine JL.loadH 0 az_68 rfl hc7 rfl .none rfl ?_
 refine JL.makeFunc .none rfl ?_
 refine JL.freezeC 1 (l := [f__v0, .int .i64 f_.Low, .int .i64 f_.High, .int .i64 f_.Ease.Num, .int .i64 f_.Ease.Den, .int .i64 f_.Rod, .int .i64 f_.Case]) rfl ?_
 intro H8 hs8 hc9
 refine JL.freezeC 0 (l := [.int .i64 section_]) rfl ?_
 intro H10 hs10 hc11
 obtain ⟨y12, hy12, hF⟩ := bind_some hF
 refine JL.callS (c_frames_known n H10 y3 (fun a0_ => F_frames_stuck_1 n a0_ f_ section_) 132 [.pointer (some ⟨b1, 0, none⟩), .pointer (some ⟨b2, 0, none⟩)] en_132 (fun H' hs' a0_ y' hy' => c_frames_stuck_1 n H' a0_ f_ f__v0 (SL.mono R_Section_mono hs' (SL.mono R_Section_mono (HSub.trans hs8 hs10) hf__0)) b1 (Cells.mono hs' (Cells.mono hs10 hc9)) section_ b2 (Cells.mono hs' hc11) y' hy') y12 hy12) rfl en_131 .none rfl ?_
 refine JL.assign .none rfl ?_
 refine JL.done hQ (JQ.go (JC.ret ?_))
 obtain rfl := Option.some.inj hF
 exact JQ.outS rfl (.tmp .nil) rfl
end Go.Proofs.Yteihdclpiekmaaa
end
