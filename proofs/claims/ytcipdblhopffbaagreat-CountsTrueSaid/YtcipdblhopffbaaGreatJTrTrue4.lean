/-
  A part of the proof of TrTrue: the texts TrGenK2, TrGenK3.
-/
import Derived.Test.YtcipdblhopffbaaGreatJTrTrue3
section
namespace Go.Proofs.YtcipdblhopffbaaGreat
open Go Go.RowKit Go.Dec
set_option linter.unusedVariables false
-- 16 ferrule/ferrulelaw13.ready
def F_law13_ready (n : Nat) (r : Run) : Option Bool :=
 (F_law13_Far n r).bind fun y2 => (if (!y2) = true then ((F_ref13_Check n r).bind fun y7 => some (y7 == 0)) else (some false) : Option Bool).bind fun p4 => some p4
set_option maxRecDepth 100000 in
set_option maxHeartbeats 40000000 in
theorem c_law13_ready (n : Nat) (H : Hp) (r : Run) (r_v0 : Value) (hr_0 : SL H 7 R_Section r_v0 r.Canopy.Frame.Sections) (r_v7 : Value) (hr_7 : SL H 2 R_Span r_v7 r.Canopy.Ribs) (r_v8 : Value) (hr_8 : SL H 1 RInt r_v8 r.Canopy.Shares) (r_v9 : Value) (hr_9 : SL H 3 R_Blow r_v9 r.Blows) (r_v10 : Value) (hr_10 : SL H 2 R_Meter r_v10 r.Meters) (y : Bool) (hF : F_law13_ready n r = some y) : SC Tryz.prog 16 [.agg [r_v0, .int .i64 r.Canopy.Frame.Low, .int .i64 r.Canopy.Frame.High, .int .i64 r.Canopy.Frame.Ease.Num, .int .i64 r.Canopy.Frame.Ease.Den, .int .i64 r.Canopy.Frame.Rod, .int .i64 r.Canopy.Frame.Case, r_v7, r_v8, r_v9, r_v10, .int .i64 r.Wrong].toArray] (.bool y) H := by
 rw [F_law13_ready] at hF
 refine SC.of (N := 11) Tryz.func16 rfl rfl rfl fun w => ?_
 refine JC.seq ?_
 refine JC.region (by rfl) ?_
 intro hQ
 refine JL.box (cs := [r_v0, .int .i64 r.Canopy.Frame.Low, .int .i64 r.Canopy.Frame.High, .int .i64 r.Canopy.Frame.Ease.Num, .int .i64 r.Canopy.Frame.Ease.Den, .int .i64 r.Canopy.Frame.Rod, .int .i64 r.Canopy.Frame.Case, r_v7, r_v8, r_v9, r_v10, .int .i64 r.Wrong]) rfl .none rfl ?_
 intro b1
 refine JL.assign .none rfl ?_
 refine JL.done hQ ?_
 refine JQ.go ?_
 refine JC.seq ?_
 refine JC.region (by rfl) ?_
 intro hQ
 refine JL.loadOwn 0 az_34 rfl rfl rfl .none rfl ?_
 obtain ⟨y2, hy2, hF⟩ := bind_some hF
 refine JL.callS (c_law13_Far n H r r_v0 hr_0 r_v7 hr_7 r_v8 hr_8 r_v9 hr_9 r_v10 hr_10 y2 hy2) rfl en_6 .none rfl ?_
 refine JL.not rfl .none rfl ?_
 refine JL.move .none rfl ?_
 obtain ⟨p4, hp4, hF⟩ := bind_some hF
 refine JL.cut 4 (fun f => f 10 = .bool p4) ?_ ?_
 ·intro hJ5
  rcases ite_some hp4 with ⟨hc6, hF⟩ | ⟨hc6, hF⟩
  ·skip
   refine JL.loadOwn 0 az_34 rfl rfl rfl (.some rfl rfl rfl hc6) rfl ?_
   obtain ⟨y7, hy7, hF⟩ := bind_some hF
   refine JL.callS (c_ref13_Check n H r r_v0 hr_0 r_v7 hr_7 r_v8 hr_8 r_v9 hr_9 r_v10 hr_10 y7 hy7) rfl en_28 (.some rfl rfl rfl hc6) rfl ?_
   refine JL.bin rfl rfl rfl (.some rfl rfl rfl hc6) rfl ?_
   refine JL.pick_t (b := (!y2)) rfl hc6 .none rfl ?_
   obtain rfl := Option.some.inj hF
   exact hJ5 _ (rfl)
  ·skip
   refine JL.skip (.bool rfl rfl rfl hc6) rfl ?_
   refine JL.skip (.bool rfl rfl rfl hc6) rfl ?_
   refine JL.skip (.bool rfl rfl rfl hc6) rfl ?_
   refine JL.pick_f (b := (!y2)) rfl hc6 .none rfl ?_
   obtain rfl := Option.some.inj hF
   exact hJ5 _ (rfl)
 ·rintro f hf10
  refine (JL.norm (i := 10) hf10 ?_)
  refine JL.assign .none rfl ?_
  refine JL.done hQ ?_
  refine JQ.go ?_
  refine JC.ret ?_
  obtain rfl := Option.some.inj hF
  exact JQ.outS rfl (.tmp .nil) rfl
-- 50 ferrule/ferruleref13.IsCase
def F_ref13_IsCase_s1 (n : Nat) (r : Run) (forces : List Int) : Int → Option (Int ⊕ (Bool ⊕ Unit))
 | i_196 => if ((decide (i_196 < (forces.length : Int))) && (decide (i_196 < (r.Blows.length : Int)))) = true then ((geti forces i_196).bind fun y219 => (geti r.Blows i_196).bind fun y224 => (geti r.Blows i_196).bind fun y229 => (F_ref13_within n y219 y224.Force.Low y229.Force.High).bind fun y234 => if (!y234) = true then (some (Sum.inr (Sum.inl false))) else (some (Sum.inl (w64 (i_196 + 1))))) else (some (Sum.inr (Sum.inr ())))
def F_ref13_IsCase (n : Nat) (r : Run) (forces : List Int) : Option Bool :=
 (loopO n (F_ref13_IsCase_s1 n r forces) 0).bind fun r119 => match r119 with | .inl o => some o | .inr _ => some ((forces.length : Int) == (r.Blows.length : Int))
set_option maxRecDepth 100000 in
set_option maxHeartbeats 40000000 in
theorem c_ref13_IsCase (n : Nat) (H : Hp) (r : Run) (r_v0 : Value) (hr_0 : SL H 7 R_Section r_v0 r.Canopy.Frame.Sections) (r_v7 : Value) (hr_7 : SL H 2 R_Span r_v7 r.Canopy.Ribs) (r_v8 : Value) (hr_8 : SL H 1 RInt r_v8 r.Canopy.Shares) (r_v9 : Value) (hr_9 : SL H 3 R_Blow r_v9 r.Blows) (r_v10 : Value) (hr_10 : SL H 2 R_Meter r_v10 r.Meters) (forces : List Int) (forces_v0 : Value) (hforces_0 : SL H 1 RInt forces_v0 forces) (y : Bool) (hF : F_ref13_IsCase n r forces = some y) : SC Tryz.prog 50 [.agg [r_v0, .int .i64 r.Canopy.Frame.Low, .int .i64 r.Canopy.Frame.High, .int .i64 r.Canopy.Frame.Ease.Num, .int .i64 r.Canopy.Frame.Ease.Den, .int .i64 r.Canopy.Frame.Rod, .int .i64 r.Canopy.Frame.Case, r_v7, r_v8, r_v9, r_v10, .int .i64 r.Wrong].toArray, forces_v0] (.bool y) H := by
 rw [F_ref13_IsCase] at hF
 refine SC.of (N := 45) Tryz.func50 rfl rfl rfl fun w => ?_
 refine JC.seq ?_
 refine JC.region (by rfl) ?_
 intro hQ
 refine JL.box (cs := [r_v0, .int .i64 r.Canopy.Frame.Low, .int .i64 r.Canopy.Frame.High, .int .i64 r.Canopy.Frame.Ease.Num, .int .i64 r.Canopy.Frame.Ease.Den, .int .i64 r.Canopy.Frame.Rod, .int .i64 r.Canopy.Frame.Case, r_v7, r_v8, r_v9, r_v10, .int .i64 r.Wrong]) rfl .none rfl ?_
 intro b1
 refine JL.assign .none rfl ?_
 refine JL.done hQ ?_
 refine JQ.go ?_
 refine JC.seq ?_
 refine JC.seq ?_
 refine JC.region (by rfl) ?_
 intro hQ
 refine JL.assign .none rfl ?_
 refine JL.done hQ ?_
 refine JQ.go ?_
 obtain ⟨r119, hlr119, hKr119⟩ := bind_some hF
 refine JC.join (fun (_ : Unit) H118 f bs gs => f 1 = forces_v0 ∧ f 2 = .pointer (some ⟨b1, 0, none⟩) ∧ bs = [(b1, .cells [r_v0, .int .i64 r.Canopy.Frame.Low, .int .i64 r.Canopy.Frame.High, .int .i64 r.Canopy.Frame.Ease.Num, .int .i64 r.Canopy.Frame.Ease.Den, .int .i64 r.Canopy.Frame.Rod, .int .i64 r.Canopy.Frame.Case, r_v7, r_v8, r_v9, r_v10, .int .i64 r.Wrong].toArray 34)] ∧ gs = [] ∧ HSub H H118 ∧ Sum.inr () = r119) ?_ ?_
 ·skip
  refine JC.block ?_
  refine JC.loop hlr119 (fun (i_196 : Int) H197 f bs gs => f 1 = forces_v0 ∧ f 2 = .pointer (some ⟨b1, 0, none⟩) ∧ f 5 = .int .i64 i_196 ∧ bs = [(b1, .cells [r_v0, .int .i64 r.Canopy.Frame.Low, .int .i64 r.Canopy.Frame.High, .int .i64 r.Canopy.Frame.Ease.Num, .int .i64 r.Canopy.Frame.Ease.Den, .int .i64 r.Canopy.Frame.Rod, .int .i64 r.Canopy.Frame.Case, r_v7, r_v8, r_v9, r_v10, .int .i64 r.Wrong].toArray 34)] ∧ gs = [] ∧ HSub H H197) ⟨rfl, rfl, rfl, rfl, rfl, (HSub.refl _)⟩ ?_
  rintro i_196 x199 H197 f bs gs ⟨hf1, hf2, hf5, rfl, rfl, hs197⟩ hF hr198
  rw [F_ref13_IsCase_s1] at hF
  refine (JC.norm (i := 1) hf1 (JC.norm (i := 2) hf2 (JC.norm (i := 5) hf5 ?_)))
  refine JC.seq ?_
  refine JC.seq ?_
  refine JC.region (by rfl) ?_
  intro hQ
  refine JL.move .none rfl ?_
  refine JL.move .none rfl ?_
  refine JL.lenSL (R := RInt) ul_28 (SL.mono RInt.mono hs197 hforces_0) .none rfl ?_
  refine JL.bin rfl rfl rfl .none rfl ?_
  refine JL.move .none rfl ?_
  refine JL.cut 6 (fun f => f 1 = forces_v0 ∧ f 2 = .pointer (some ⟨b1, 0, none⟩) ∧ f 5 = .int .i64 i_196 ∧ f 16 = .bool ((decide (i_196 < (forces.length : Int))) && (decide (i_196 < (r.Blows.length : Int))))) ?_ ?_
  ·intro hJ200
   rcases bcases (decide (i_196 < (forces.length : Int))) with hc201 | hc201
   ·skip
    refine JL.move (.some rfl rfl rfl hc201) rfl ?_
    refine JL.fieldAddr fo_34_1 rfl (.some rfl rfl rfl hc201) rfl ?_
    refine JL.loadOwn 0 az_31 rfl rfl rfl (.some rfl rfl rfl hc201) rfl ?_
    refine JL.lenSL (R := R_Blow) ul_31 (SL.mono R_Blow_mono hs197 hr_9) (.some rfl rfl rfl hc201) rfl ?_
    refine JL.bin rfl rfl rfl (.some rfl rfl rfl hc201) rfl ?_
    refine JL.pick_t (b := decide (i_196 < (forces.length : Int))) rfl hc201 .none rfl ?_
    exact hJ200 _ ⟨rfl, rfl, rfl, and_t hc201 rfl⟩
   ·skip
    refine JL.skip (.bool rfl rfl rfl hc201) rfl ?_
    refine JL.skip (.bool rfl rfl rfl hc201) rfl ?_
    refine JL.skip (.bool rfl rfl rfl hc201) rfl ?_
    refine JL.skip (.bool rfl rfl rfl hc201) rfl ?_
    refine JL.skip (.bool rfl rfl rfl hc201) rfl ?_
    refine JL.pick_f (b := decide (i_196 < (forces.length : Int))) rfl hc201 .none rfl ?_
    exact hJ200 _ ⟨rfl, rfl, rfl, and_f hc201 rfl⟩
  ·rintro f ⟨hf1, hf2, hf5, hf16⟩
   refine (JL.norm (i := 1) hf1 (JL.norm (i := 2) hf2 (JL.norm (i := 5) hf5 (JL.norm (i := 16) hf16 ?_))))
   refine JL.done hQ ?_
   refine JQ.go ?_
   rcases ite_some hF with ⟨hc202, hF⟩ | ⟨hc202, hF⟩
   ·refine JC.cond_t (b := ((decide (i_196 < (forces.length : Int))) && (decide (i_196 < (r.Blows.length : Int))))) rfl hc202 ?_
    refine JC.skip ?_
    refine JQ.go ?_
    refine JC.seq ?_
    refine JC.block ?_
    refine JC.seq ?_
    refine JC.draw (by rfl) mo_ (by kernel_rfl) ?_
    intro hQ
    refine JL.move .none rfl ?_
    refine JL.move .none rfl ?_
    obtain ⟨y219, hy219, hF⟩ := bind_some hF
    refine JL.indexSL (R := RInt) sl_28 (SL.mono RInt.mono hs197 hforces_0) rfl hy219 .none rfl ?_
    rintro b220 o221 cs222 hc223 - rfl
    refine JL.loadH 0 az_3 rfl hc223 rfl .none rfl ?_
    refine JL.fieldAddr fo_34_1 rfl .none rfl ?_
    refine JL.loadOwn 0 az_31 rfl rfl rfl .none rfl ?_
    refine JL.move .none rfl ?_
    obtain ⟨y224, hy224, hF⟩ := bind_some hF
    refine JL.indexSL (R := R_Blow) sl_31 (SL.mono R_Blow_mono hs197 hr_9) rfl hy224 .none rfl ?_
    rintro b225 o226 cs227 hc228 - rfl
    refine JL.fieldAddr fo_62_1 rfl .none rfl ?_
    refine JL.fieldAddr fo_42_0 rfl .none rfl ?_
    refine JL.loadH 1 az_3 rfl hc228 rfl .none rfl ?_
    refine JL.fieldAddr fo_34_1 rfl .none rfl ?_
    refine JL.loadOwn 0 az_31 rfl rfl rfl .none rfl ?_
    refine JL.move .none rfl ?_
    obtain ⟨y229, hy229, hF⟩ := bind_some hF
    refine JL.indexSL (R := R_Blow) sl_31 (SL.mono R_Blow_mono hs197 hr_9) rfl hy229 .none rfl ?_
    rintro b230 o231 cs232 hc233 - rfl
    refine JL.fieldAddr fo_62_1 rfl .none rfl ?_
    refine JL.fieldAddr fo_42_1 rfl .none rfl ?_
    refine JL.loadH 2 az_3 rfl hc233 rfl .none rfl ?_
    obtain ⟨y234, hy234, hF⟩ := bind_some hF
    refine JL.callS (c_ref13_within n H197 y219 y224.Force.Low y229.Force.High y234 hy234) rfl en_66 .none rfl ?_
    refine JL.not rfl .none rfl ?_
    refine JL.doneQ hQ ?_
    refine JQ.go ?_
    refine JC.fresh (fun f => f 1 = forces_v0 ∧ f 2 = .pointer (some ⟨b1, 0, none⟩) ∧ f 5 = .int .i64 i_196 ∧ f 38 = .bool (!y234)) ⟨rfl, rfl, rfl, rfl⟩ ?_
    rintro f ⟨hf1, hf2, hf5, hf38⟩
    refine (JC.norm (i := 1) hf1 (JC.norm (i := 2) hf2 (JC.norm (i := 5) hf5 (JC.norm (i := 38) hf38 ?_))))
    rcases ite_some hF with ⟨hc235, hF⟩ | ⟨hc235, hF⟩
    ·refine JC.cond_t (b := (!y234)) rfl hc235 ?_
     refine JC.seq ?_
     refine JC.region (by rfl) ?_
     intro hQ
     refine JL.assign .none rfl ?_
     refine JL.done hQ ?_
     refine JQ.go ?_
     refine JC.ret ?_
     refine JQ.ret_block ?_
     refine JQ.ret_then ?_
     refine JQ.ret_then ?_
     refine JQ.ret_block ?_
     refine JQ.ret_join ?_
     refine JQ.ret_then ?_
     obtain rfl := Option.some.inj hF
     have ehr198 := hr198 _ rfl
     subst ehr198
     have hF := hKr119
     try dsimp only at hF
     obtain rfl := Option.some.inj hF
     exact JQ.outS rfl (.tmp .nil) rfl
    ·refine JC.cond_f (b := (!y234)) rfl hc235 ?_
     refine JC.skip ?_
     refine JQ.normal_block ?_
     refine JQ.go ?_
     refine JC.region (by rfl) ?_
     intro hQ
     refine JL.move .none rfl ?_
     refine JL.bin rfl rfl rfl .none rfl ?_
     refine JL.assign .none rfl ?_
     refine JL.done hQ ?_
     obtain rfl := Option.some.inj hF
     exact JQ.next rfl ⟨rfl, rfl, rfl, rfl, rfl, hs197⟩
   ·refine JC.cond_f (b := ((decide (i_196 < (forces.length : Int))) && (decide (i_196 < (r.Blows.length : Int))))) rfl hc202 ?_
    refine JC.exit ?_
    refine JQ.exit_then ?_
    refine JQ.exit_then ?_
    refine JQ.exit_block ?_
    obtain rfl := Option.some.inj hF
    have ehr198 := hr198 _ rfl
    subst ehr198
    exact JQ.join () ⟨rfl, rfl, rfl, rfl, hs197, rfl⟩
 ·rintro _ H118 f bs gs ⟨hf1, hf2, rfl, rfl, hs118, rfl⟩
  have hF := hKr119
  try dsimp only at hF
  refine (JQ.norm (i := 1) hf1 (JQ.norm (i := 2) hf2 ?_))
  refine JQ.go ?_
  refine JC.seq ?_
  refine JC.region (by rfl) ?_
  intro hQ
  refine JL.move .none rfl ?_
  refine JL.lenSL (R := RInt) ul_28 (SL.mono RInt.mono hs118 hforces_0) .none rfl ?_
  refine JL.fieldAddr fo_34_1 rfl .none rfl ?_
  refine JL.loadOwn 0 az_31 rfl rfl rfl .none rfl ?_
  refine JL.lenSL (R := R_Blow) ul_31 (SL.mono R_Blow_mono hs118 hr_9) .none rfl ?_
  refine JL.bin rfl rfl rfl .none rfl ?_
  refine JL.assign .none rfl ?_
  refine JL.done hQ ?_
  refine JQ.go ?_
  refine JC.ret ?_
  obtain rfl := Option.some.inj hF
  exact JQ.outS rfl (.tmp .nil) rfl
-- 21 ferrule/ferruleref13.Above
def F_ref13_Above_s1 (n : Nat) (forces : List Int) (limit : Int) : Int × Int → Option ((Int × Int) ⊕ Int)
 | (n_76, i_77) => if decide (i_77 < (forces.length : Int)) = true then ((geti forces i_77).bind fun y82 => (if decide (limit ≤ y82) = true then (some (w64 (n_76 + 1))) else (some n_76)).bind fun n_88 => some (Sum.inl (n_88, (w64 (i_77 + 1))))) else (some (Sum.inr n_76))
def F_ref13_Above (n : Nat) (forces : List Int) (limit : Int) : Option Int :=
 (loopO n (F_ref13_Above_s1 n forces limit) (0, 0)).bind fun n_45 => some n_45
set_option maxRecDepth 100000 in
set_option maxHeartbeats 40000000 in
theorem c_ref13_Above (n : Nat) (H : Hp) (forces : List Int) (forces_v0 : Value) (hforces_0 : SL H 1 RInt forces_v0 forces) (limit : Int) (y : Int) (hF : F_ref13_Above n forces limit = some y) : SC Tryz.prog 21 [forces_v0, .int .i64 limit] (.int .i64 y) H := by
 rw [F_ref13_Above] at hF
 refine SC.of (N := 22) Tryz.func21 rfl rfl rfl fun w => ?_
 refine JC.seq ?_
 refine JC.region (by rfl) ?_
 intro hQ
 refine JL.assign .none rfl ?_
 refine JL.done hQ ?_
 refine JQ.go ?_
 refine JC.seq ?_
 refine JC.region (by rfl) ?_
 intro hQ
 refine JL.assign .none rfl ?_
 refine JL.done hQ ?_
 refine JQ.go ?_
 refine JC.seq ?_
 refine JC.seq ?_
 refine JC.region (by rfl) ?_
 intro hQ
 refine JL.assign .none rfl ?_
 refine JL.done hQ ?_
 refine JQ.go ?_
 obtain ⟨r47, hlr47, hKr47⟩ := bind_some hF
 refine JC.join (fun (n_45 : Int) H46 f bs gs => f 5 = .int .i64 n_45 ∧ bs = [] ∧ gs = [] ∧ HSub H H46 ∧ n_45 = r47) ?_ ?_
 ·skip
  refine JC.block ?_
  refine JC.loop hlr47 (fun (x : Int × Int) H78 f bs gs => match x with | (n_76, i_77) => f 0 = forces_v0 ∧ f 1 = .int .i64 limit ∧ f 5 = .int .i64 n_76 ∧ f 6 = .int .i64 i_77 ∧ bs = [] ∧ gs = [] ∧ HSub H H78) ⟨rfl, rfl, rfl, rfl, rfl, rfl, (HSub.refl _)⟩ ?_
  rintro ⟨n_76, i_77⟩ x80 H78 f bs gs ⟨hf0, hf1, hf5, hf6, rfl, rfl, hs78⟩ hF hr79
  rw [F_ref13_Above_s1] at hF
  refine (JC.norm (i := 0) hf0 (JC.norm (i := 1) hf1 (JC.norm (i := 5) hf5 (JC.norm (i := 6) hf6 ?_))))
  refine JC.seq ?_
  refine JC.seq ?_
  refine JC.region (by rfl) ?_
  intro hQ
  refine JL.move .none rfl ?_
  refine JL.move .none rfl ?_
  refine JL.lenSL (R := RInt) ul_28 (SL.mono RInt.mono hs78 hforces_0) .none rfl ?_
  refine JL.bin rfl rfl rfl .none rfl ?_
  refine JL.done hQ ?_
  refine JQ.go ?_
  rcases ite_some hF with ⟨hc81, hF⟩ | ⟨hc81, hF⟩
  ·refine JC.cond_t (b := decide (i_77 < (forces.length : Int))) rfl hc81 ?_
   refine JC.skip ?_
   refine JQ.go ?_
   refine JC.seq ?_
   refine JC.block ?_
   refine JC.seq ?_
   refine JC.region (by rfl) ?_
   intro hQ
   refine JL.move .none rfl ?_
   refine JL.move .none rfl ?_
   obtain ⟨y82, hy82, hF⟩ := bind_some hF
   refine JL.indexSL (R := RInt) sl_28 (SL.mono RInt.mono hs78 hforces_0) rfl hy82 .none rfl ?_
   rintro b83 o84 cs85 hc86 - rfl
   refine JL.loadH 0 az_3 rfl hc86 rfl .none rfl ?_
   refine JL.move .none rfl ?_
   refine JL.bin rfl rfl rfl .none rfl ?_
   refine JL.done hQ ?_
   refine JQ.go ?_
   refine JC.fresh (fun f => f 0 = forces_v0 ∧ f 1 = .int .i64 limit ∧ f 5 = .int .i64 n_76 ∧ f 6 = .int .i64 i_77 ∧ f 18 = .bool (decide (limit ≤ y82))) ⟨rfl, rfl, rfl, rfl, rfl⟩ ?_
   rintro f ⟨hf0, hf1, hf5, hf6, hf18⟩
   refine (JC.norm (i := 0) hf0 (JC.norm (i := 1) hf1 (JC.norm (i := 5) hf5 (JC.norm (i := 6) hf6 (JC.norm (i := 18) hf18 ?_)))))
   obtain ⟨r90, hlr90, hKr90⟩ := bind_some hF
   refine JC.join (fun (n_88 : Int) H89 f bs gs => f 0 = forces_v0 ∧ f 1 = .int .i64 limit ∧ f 5 = .int .i64 n_88 ∧ f 6 = .int .i64 i_77 ∧ bs = [] ∧ gs = [] ∧ HSub H78 H89 ∧ n_88 = r90) ?_ ?_
   ·have hF := hlr90
    rcases ite_some hF with ⟨hc91, hF⟩ | ⟨hc91, hF⟩
    ·refine JC.cond_t (b := decide (limit ≤ y82)) rfl hc91 ?_
     refine JC.region (by rfl) ?_
     intro hQ
     refine JL.move .none rfl ?_
     refine JL.bin rfl rfl rfl .none rfl ?_
     refine JL.assign .none rfl ?_
     refine JL.done hQ ?_
     obtain rfl := Option.some.inj hF
     exact JQ.join (w64 (n_76 + 1)) ⟨rfl, rfl, rfl, rfl, rfl, rfl, (HSub.refl _), rfl⟩
    ·refine JC.cond_f (b := decide (limit ≤ y82)) rfl hc91 ?_
     refine JC.skip ?_
     obtain rfl := Option.some.inj hF
     exact JQ.join n_76 ⟨rfl, rfl, rfl, rfl, rfl, rfl, (HSub.refl _), rfl⟩
   ·rintro n_88 H89 f bs gs ⟨hf0, hf1, hf5, hf6, rfl, rfl, hs89, rfl⟩
    have hF := hKr90
    try dsimp only at hF
    refine (JQ.norm (i := 0) hf0 (JQ.norm (i := 1) hf1 (JQ.norm (i := 5) hf5 (JQ.norm (i := 6) hf6 ?_))))
    refine JQ.normal_block ?_
    refine JQ.go ?_
    refine JC.region (by rfl) ?_
    intro hQ
    refine JL.move .none rfl ?_
    refine JL.bin rfl rfl rfl .none rfl ?_
    refine JL.assign .none rfl ?_
    refine JL.done hQ ?_
    obtain rfl := Option.some.inj hF
    exact JQ.next rfl ⟨rfl, rfl, rfl, rfl, rfl, rfl, (HSub.trans hs78 hs89)⟩
  ·refine JC.cond_f (b := decide (i_77 < (forces.length : Int))) rfl hc81 ?_
   refine JC.exit ?_
   refine JQ.exit_then ?_
   refine JQ.exit_then ?_
   refine JQ.exit_block ?_
   obtain rfl := Option.some.inj hF
   have ehr79 := hr79 _ rfl
   subst ehr79
   exact JQ.join n_76 ⟨rfl, rfl, rfl, hs78, rfl⟩
 ·rintro n_45 H46 f bs gs ⟨hf5, rfl, rfl, hs46, rfl⟩
  have hF := hKr47
  try dsimp only at hF
  refine (JQ.norm (i := 5) hf5 ?_)
  refine JQ.go ?_
  refine JC.seq ?_
  refine JC.region (by rfl) ?_
  intro hQ
  refine JL.move .none rfl ?_
  refine JL.assign .none rfl ?_
  refine JL.done hQ ?_
  refine JQ.go ?_
  refine JC.ret ?_
  obtain rfl := Option.some.inj hF
  exact JQ.outS rfl (.tmp .nil) rfl
-- 26 ferrule/ferruleref13.IsRight
def F_ref13_IsRight (n : Nat) (m : Meter) (forces : List Int) : Option Bool :=
 (F_ref13_Above n forces m.Limit).bind fun y3 => some (y3 == m.Count)
set_option maxRecDepth 100000 in
set_option maxHeartbeats 40000000 in
theorem c_ref13_IsRight (n : Nat) (H : Hp) (m : Meter) (forces : List Int) (forces_v0 : Value) (hforces_0 : SL H 1 RInt forces_v0 forces) (y : Bool) (hF : F_ref13_IsRight n m forces = some y) : SC Tryz.prog 26 [.agg [.int .i64 m.Limit, .int .i64 m.Count].toArray, forces_v0] (.bool y) H := by
 rw [F_ref13_IsRight] at hF
 refine SC.of (N := 12) Tryz.func26 rfl rfl rfl fun w => ?_
 refine JC.seq ?_
 refine JC.region (by rfl) ?_
 intro hQ
 refine JL.box (cs := [.int .i64 m.Limit, .int .i64 m.Count]) rfl .none rfl ?_
 intro b1
 refine JL.assign .none rfl ?_
 refine JL.done hQ ?_
 refine JQ.go ?_
 refine JC.seq ?_
 refine JC.draw (by rfl) mo_ (by kernel_rfl) ?_
 intro hQ
 refine JL.move .none rfl ?_
 refine JL.fieldAddr fo_73_0 rfl .none rfl ?_
 refine JL.loadOwn 0 az_3 rfl rfl rfl .none rfl ?_
 obtain ⟨y3, hy3, hF⟩ := bind_some hF
 refine JL.callS (c_ref13_Above n H forces forces_v0 hforces_0 m.Limit y3 hy3) rfl en_21 .none rfl ?_
 refine JL.fieldAddr fo_73_1 rfl .none rfl ?_
 refine JL.loadOwn 0 az_3 rfl rfl rfl .none rfl ?_
 refine JL.bin rfl rfl rfl .none rfl ?_
 refine JL.assign .none rfl ?_
 refine JL.doneQ hQ ?_
 refine JQ.go ?_
 refine JC.ret ?_
 obtain rfl := Option.some.inj hF
 exact JQ.outS rfl (.tmp .nil) rfl
-- 51 ferrule/ferruleref13.Wrongs
def F_ref13_Wrongs_s1 (n : Nat) (r : Run) (forces : List Int) : Int × Int → Option ((Int × Int) ⊕ Int)
 | (n_82, i_83) => if decide (i_83 < (r.Meters.length : Int)) = true then ((geti r.Meters i_83).bind fun y88 => (F_ref13_IsRight n y88 forces).bind fun y93 => (if (!y93) = true then (some (w64 (n_82 + 1))) else (some n_82)).bind fun n_95 => some (Sum.inl (n_95, (w64 (i_83 + 1))))) else (some (Sum.inr n_82))
def F_ref13_Wrongs (n : Nat) (r : Run) (forces : List Int) : Option Int :=
 (loopO n (F_ref13_Wrongs_s1 n r forces) (0, 0)).bind fun n_49 => some n_49
set_option maxRecDepth 100000 in
set_option maxHeartbeats 40000000 in
theorem c_ref13_Wrongs (n : Nat) (H : Hp) (r : Run) (r_v0 : Value) (hr_0 : SL H 7 R_Section r_v0 r.Canopy.Frame.Sections) (r_v7 : Value) (hr_7 : SL H 2 R_Span r_v7 r.Canopy.Ribs) (r_v8 : Value) (hr_8 : SL H 1 RInt r_v8 r.Canopy.Shares) (r_v9 : Value) (hr_9 : SL H 3 R_Blow r_v9 r.Blows) (r_v10 : Value) (hr_10 : SL H 2 R_Meter r_v10 r.Meters) (forces : List Int) (forces_v0 : Value) (hforces_0 : SL H 1 RInt forces_v0 forces) (y : Int) (hF : F_ref13_Wrongs n r forces = some y) : SC Tryz.prog 51 [.agg [r_v0, .int .i64 r.Canopy.Frame.Low, .int .i64 r.Canopy.Frame.High, .int .i64 r.Canopy.Frame.Ease.Num, .int .i64 r.Canopy.Frame.Ease.Den, .int .i64 r.Canopy.Frame.Rod, .int .i64 r.Canopy.Frame.Case, r_v7, r_v8, r_v9, r_v10, .int .i64 r.Wrong].toArray, forces_v0] (.int .i64 y) H := by
 rw [F_ref13_Wrongs] at hF
 refine SC.of (N := 25) Tryz.func51 rfl rfl rfl fun w => ?_
 refine JC.seq ?_
 refine JC.region (by rfl) ?_
 intro hQ
 refine JL.box (cs := [r_v0, .int .i64 r.Canopy.Frame.Low, .int .i64 r.Canopy.Frame.High, .int .i64 r.Canopy.Frame.Ease.Num, .int .i64 r.Canopy.Frame.Ease.Den, .int .i64 r.Canopy.Frame.Rod, .int .i64 r.Canopy.Frame.Case, r_v7, r_v8, r_v9, r_v10, .int .i64 r.Wrong]) rfl .none rfl ?_
 intro b1
 refine JL.assign .none rfl ?_
 refine JL.done hQ ?_
 refine JQ.go ?_
 refine JC.seq ?_
 refine JC.region (by rfl) ?_
 intro hQ
 refine JL.assign .none rfl ?_
 refine JL.done hQ ?_
 refine JQ.go ?_
 refine JC.seq ?_
 refine JC.seq ?_
 refine JC.region (by rfl) ?_
 intro hQ
 refine JL.assign .none rfl ?_
 refine JL.done hQ ?_
 refine JQ.go ?_
 obtain ⟨r51, hlr51, hKr51⟩ := bind_some hF
 refine JC.join (fun (n_49 : Int) H50 f bs gs => f 5 = .int .i64 n_49 ∧ bs = [] ∧ gs = [] ∧ HSub H H50 ∧ n_49 = r51) ?_ ?_
 ·skip
  refine JC.block ?_
  refine JC.loop hlr51 (fun (x : Int × Int) H84 f bs gs => match x with | (n_82, i_83) => f 1 = forces_v0 ∧ f 2 = .pointer (some ⟨b1, 0, none⟩) ∧ f 5 = .int .i64 n_82 ∧ f 6 = .int .i64 i_83 ∧ bs = [(b1, .cells [r_v0, .int .i64 r.Canopy.Frame.Low, .int .i64 r.Canopy.Frame.High, .int .i64 r.Canopy.Frame.Ease.Num, .int .i64 r.Canopy.Frame.Ease.Den, .int .i64 r.Canopy.Frame.Rod, .int .i64 r.Canopy.Frame.Case, r_v7, r_v8, r_v9, r_v10, .int .i64 r.Wrong].toArray 34)] ∧ gs = [] ∧ HSub H H84) ⟨rfl, rfl, rfl, rfl, rfl, rfl, (HSub.refl _)⟩ ?_
  rintro ⟨n_82, i_83⟩ x86 H84 f bs gs ⟨hf1, hf2, hf5, hf6, rfl, rfl, hs84⟩ hF hr85
  rw [F_ref13_Wrongs_s1] at hF
  refine (JC.norm (i := 1) hf1 (JC.norm (i := 2) hf2 (JC.norm (i := 5) hf5 (JC.norm (i := 6) hf6 ?_))))
  refine JC.seq ?_
  refine JC.seq ?_
  refine JC.region (by rfl) ?_
  intro hQ
  refine JL.move .none rfl ?_
  refine JL.fieldAddr fo_34_2 rfl .none rfl ?_
  refine JL.loadOwn 0 az_32 rfl rfl rfl .none rfl ?_
  refine JL.lenSL (R := R_Meter) ul_32 (SL.mono R_Meter_mono hs84 hr_10) .none rfl ?_
  refine JL.bin rfl rfl rfl .none rfl ?_
  refine JL.done hQ ?_
  refine JQ.go ?_
  rcases ite_some hF with ⟨hc87, hF⟩ | ⟨hc87, hF⟩
  ·refine JC.cond_t (b := decide (i_83 < (r.Meters.length : Int))) rfl hc87 ?_
   refine JC.skip ?_
   refine JQ.go ?_
   refine JC.seq ?_
   refine JC.block ?_
   refine JC.seq ?_
   refine JC.region (by rfl) ?_
   intro hQ
   refine JL.fieldAddr fo_34_2 rfl .none rfl ?_
   refine JL.loadOwn 0 az_32 rfl rfl rfl .none rfl ?_
   refine JL.move .none rfl ?_
   obtain ⟨y88, hy88, hF⟩ := bind_some hF
   refine JL.indexSL (R := R_Meter) sl_32 (SL.mono R_Meter_mono hs84 hr_10) rfl hy88 .none rfl ?_
   rintro b89 o90 cs91 hc92 - rfl
   refine JL.loadH 0 az_73 rfl hc92 rfl .none rfl ?_
   refine JL.move .none rfl ?_
   obtain ⟨y93, hy93, hF⟩ := bind_some hF
   refine JL.callS (c_ref13_IsRight n H84 y88 forces forces_v0 (SL.mono RInt.mono hs84 hforces_0) y93 hy93) rfl en_26 .none rfl ?_
   refine JL.not rfl .none rfl ?_
   refine JL.done hQ ?_
   refine JQ.go ?_
   refine JC.fresh (fun f => f 1 = forces_v0 ∧ f 2 = .pointer (some ⟨b1, 0, none⟩) ∧ f 5 = .int .i64 n_82 ∧ f 6 = .int .i64 i_83 ∧ f 21 = .bool (!y93)) ⟨rfl, rfl, rfl, rfl, rfl⟩ ?_
   rintro f ⟨hf1, hf2, hf5, hf6, hf21⟩
   refine (JC.norm (i := 1) hf1 (JC.norm (i := 2) hf2 (JC.norm (i := 5) hf5 (JC.norm (i := 6) hf6 (JC.norm (i := 21) hf21 ?_)))))
   obtain ⟨r97, hlr97, hKr97⟩ := bind_some hF
   refine JC.join (fun (n_95 : Int) H96 f bs gs => f 1 = forces_v0 ∧ f 2 = .pointer (some ⟨b1, 0, none⟩) ∧ f 5 = .int .i64 n_95 ∧ f 6 = .int .i64 i_83 ∧ bs = [(b1, .cells [r_v0, .int .i64 r.Canopy.Frame.Low, .int .i64 r.Canopy.Frame.High, .int .i64 r.Canopy.Frame.Ease.Num, .int .i64 r.Canopy.Frame.Ease.Den, .int .i64 r.Canopy.Frame.Rod, .int .i64 r.Canopy.Frame.Case, r_v7, r_v8, r_v9, r_v10, .int .i64 r.Wrong].toArray 34)] ∧ gs = [] ∧ HSub H84 H96 ∧ n_95 = r97) ?_ ?_
   ·have hF := hlr97
    rcases ite_some hF with ⟨hc98, hF⟩ | ⟨hc98, hF⟩
    ·refine JC.cond_t (b := (!y93)) rfl hc98 ?_
     refine JC.region (by rfl) ?_
     intro hQ
     refine JL.move .none rfl ?_
     refine JL.bin rfl rfl rfl .none rfl ?_
     refine JL.assign .none rfl ?_
     refine JL.done hQ ?_
     obtain rfl := Option.some.inj hF
     exact JQ.join (w64 (n_82 + 1)) ⟨rfl, rfl, rfl, rfl, rfl, rfl, (HSub.refl _), rfl⟩
    ·refine JC.cond_f (b := (!y93)) rfl hc98 ?_
     refine JC.skip ?_
     obtain rfl := Option.some.inj hF
     exact JQ.join n_82 ⟨rfl, rfl, rfl, rfl, rfl, rfl, (HSub.refl _), rfl⟩
   ·rintro n_95 H96 f bs gs ⟨hf1, hf2, hf5, hf6, rfl, rfl, hs96, rfl⟩
    have hF := hKr97
    try dsimp only at hF
    refine (JQ.norm (i := 1) hf1 (JQ.norm (i := 2) hf2 (JQ.norm (i := 5) hf5 (JQ.norm (i := 6) hf6 ?_))))
    refine JQ.normal_block ?_
    refine JQ.go ?_
    refine JC.region (by rfl) ?_
    intro hQ
    refine JL.move .none rfl ?_
    refine JL.bin rfl rfl rfl .none rfl ?_
    refine JL.assign .none rfl ?_
    refine JL.done hQ ?_
    obtain rfl := Option.some.inj hF
    exact JQ.next rfl ⟨rfl, rfl, rfl, rfl, rfl, rfl, (HSub.trans hs84 hs96)⟩
  ·refine JC.cond_f (b := decide (i_83 < (r.Meters.length : Int))) rfl hc87 ?_
   refine JC.exit ?_
   refine JQ.exit_then ?_
   refine JQ.exit_then ?_
   refine JQ.exit_block ?_
   obtain rfl := Option.some.inj hF
   have ehr85 := hr85 _ rfl
   subst ehr85
   refine JQ.mask [false] [] ?_
   exact JQ.join n_82 ⟨rfl, rfl, rfl, hs84, rfl⟩
 ·rintro n_49 H50 f bs gs ⟨hf5, rfl, rfl, hs50, rfl⟩
  have hF := hKr51
  try dsimp only at hF
  refine (JQ.norm (i := 5) hf5 ?_)
  refine JQ.go ?_
  refine JC.seq ?_
  refine JC.region (by rfl) ?_
  intro hQ
  refine JL.move .none rfl ?_
  refine JL.assign .none rfl ?_
  refine JL.done hQ ?_
  refine JQ.go ?_
  refine JC.ret ?_
  obtain rfl := Option.some.inj hF
  exact JQ.outS rfl (.tmp .nil) rfl
-- 15 ferrule/ferruleref13.IsTruth
def F_ref13_IsTruth (n : Nat) (r : Run) (forces : List Int) : Option Bool :=
 (F_ref13_IsCase n r forces).bind fun y8 => (if y8 = true then ((F_ref13_Wrongs n r forces).bind fun y13 => some (decide (y13 ≤ r.Wrong))) else (some false) : Option Bool).bind fun p10 => some p10
set_option maxRecDepth 100000 in
set_option maxHeartbeats 40000000 in
theorem c_ref13_IsTruth (n : Nat) (H : Hp) (r : Run) (r_v0 : Value) (hr_0 : SL H 7 R_Section r_v0 r.Canopy.Frame.Sections) (r_v7 : Value) (hr_7 : SL H 2 R_Span r_v7 r.Canopy.Ribs) (r_v8 : Value) (hr_8 : SL H 1 RInt r_v8 r.Canopy.Shares) (r_v9 : Value) (hr_9 : SL H 3 R_Blow r_v9 r.Blows) (r_v10 : Value) (hr_10 : SL H 2 R_Meter r_v10 r.Meters) (forces : List Int) (forces_v0 : Value) (hforces_0 : SL H 1 RInt forces_v0 forces) (y : Bool) (hF : F_ref13_IsTruth n r forces = some y) : SC Tryz.prog 15 [.agg [r_v0, .int .i64 r.Canopy.Frame.Low, .int .i64 r.Canopy.Frame.High, .int .i64 r.Canopy.Frame.Ease.Num, .int .i64 r.Canopy.Frame.Ease.Den, .int .i64 r.Canopy.Frame.Rod, .int .i64 r.Canopy.Frame.Case, r_v7, r_v8, r_v9, r_v10, .int .i64 r.Wrong].toArray, forces_v0] (.bool y) H := by
 rw [F_ref13_IsTruth] at hF
 refine SC.of (N := 16) Tryz.func15 rfl rfl rfl fun w => ?_
 refine JC.seq ?_
 refine JC.region (by rfl) ?_
 intro hQ
 refine JL.box (cs := [r_v0, .int .i64 r.Canopy.Frame.Low, .int .i64 r.Canopy.Frame.High, .int .i64 r.Canopy.Frame.Ease.Num, .int .i64 r.Canopy.Frame.Ease.Den, .int .i64 r.Canopy.Frame.Rod, .int .i64 r.Canopy.Frame.Case, r_v7, r_v8, r_v9, r_v10, .int .i64 r.Wrong]) rfl .none rfl ?_
 intro b1
 refine JL.assign .none rfl ?_
 refine JL.done hQ ?_
 refine JQ.go ?_
 refine JC.seq ?_
 refine JC.draw (by rfl) mo_ (by kernel_rfl) ?_
 intro hQ
 refine JL.loadOwn 0 az_34 rfl rfl rfl .none rfl ?_
 refine JL.move .none rfl ?_
 obtain ⟨y8, hy8, hF⟩ := bind_some hF
 refine JL.callS (c_ref13_IsCase n H r r_v0 hr_0 r_v7 hr_7 r_v8 hr_8 r_v9 hr_9 r_v10 hr_10 forces forces_v0 hforces_0 y8 hy8) rfl en_50 .none rfl ?_
 refine JL.move .none rfl ?_
 obtain ⟨p10, hp10, hF⟩ := bind_some hF
 refine JL.cut 7 (fun f => f 15 = .bool p10) ?_ ?_
 ·intro hJ11
  rcases ite_some hp10 with ⟨hc12, hF⟩ | ⟨hc12, hF⟩
  ·skip
   refine JL.loadOwn 0 az_34 rfl rfl rfl (.some rfl rfl rfl hc12) rfl ?_
   refine JL.move (.some rfl rfl rfl hc12) rfl ?_
   obtain ⟨y13, hy13, hF⟩ := bind_some hF
   refine JL.callS (c_ref13_Wrongs n H r r_v0 hr_0 r_v7 hr_7 r_v8 hr_8 r_v9 hr_9 r_v10 hr_10 forces forces_v0 hforces_0 y13 hy13) rfl en_51 (.some rfl rfl rfl hc12) rfl ?_
   refine JL.fieldAddr fo_34_3 rfl (.some rfl rfl rfl hc12) rfl ?_
   refine JL.loadOwn 0 az_3 rfl rfl rfl (.some rfl rfl rfl hc12) rfl ?_
   refine JL.bin rfl rfl rfl (.some rfl rfl rfl hc12) rfl ?_
   refine JL.pick_t (b := y8) rfl hc12 .none rfl ?_
   obtain rfl := Option.some.inj hF
   exact hJ11 _ (rfl)
  ·skip
   refine JL.skip (.bool rfl rfl rfl hc12) rfl ?_
   refine JL.skip (.bool rfl rfl rfl hc12) rfl ?_
   refine JL.skip (.bool rfl rfl rfl hc12) rfl ?_
   refine JL.skip (.bool rfl rfl rfl hc12) rfl ?_
   refine JL.skip (.bool rfl rfl rfl hc12) rfl ?_
   refine JL.skip (.bool rfl rfl rfl hc12) rfl ?_
   refine JL.pick_f (b := y8) rfl hc12 .none rfl ?_
   obtain rfl := Option.some.inj hF
   exact hJ11 _ (rfl)
 ·rintro f hf15
  refine (JL.norm (i := 15) hf15 ?_)
  refine JL.assign .none rfl ?_
  refine JL.doneQ hQ ?_
  refine JQ.go ?_
  refine JC.ret ?_
  obtain rfl := Option.some.inj hF
  exact JQ.outS rfl (.tmp .nil) rfl
-- 53 ferrule/ferruleref01.IsPair
def F_ref01_IsPair (n : Nat) (f_ : Frame) (section_ : Int) (p : ref01_Pair) : Option Bool :=
 (geti f_.Sections section_).bind fun y3 => (F_ref01_Within n p.Arm y3.Arm.Low y3.Arm.High).bind fun y9 => (if y9 = true then ((F_ref01_Within n p.Stretch y3.Stretch.Low y3.Stretch.High).bind fun y14 => some y14) else (some false) : Option Bool).bind fun p11 => some p11
set_option maxRecDepth 100000 in
set_option maxHeartbeats 40000000 in
theorem c_ref01_IsPair (n : Nat) (H : Hp) (f_ : Frame) (f__v0 : Value) (hf__0 : SL H 7 R_Section f__v0 f_.Sections) (section_ : Int) (p : ref01_Pair) (y : Bool) (hF : F_ref01_IsPair n f_ section_ p = some y) : SC Tryz.prog 53 [.agg [f__v0, .int .i64 f_.Low, .int .i64 f_.High, .int .i64 f_.Ease.Num, .int .i64 f_.Ease.Den, .int .i64 f_.Rod, .int .i64 f_.Case].toArray, .int .i64 section_, .agg [.int .i64 p.Arm, .int .i64 p.Stretch].toArray] (.bool y) H := by
 rw [F_ref01_IsPair] at hF
 refine SC.of (N := 33) Tryz.func53 rfl rfl rfl fun w => ?_
 refine JC.seq ?_
 refine JC.region (by rfl) ?_
 intro hQ
 refine JL.box (cs := [f__v0, .int .i64 f_.Low, .int .i64 f_.High, .int .i64 f_.Ease.Num, .int .i64 f_.Ease.Den, .int .i64 f_.Rod, .int .i64 f_.Case]) rfl .none rfl ?_
 intro b1
 refine JL.box (cs := [.int .i64 p.Arm, .int .i64 p.Stretch]) rfl .none rfl ?_
 intro b2
 refine JL.assign .none rfl ?_
 refine JL.done hQ ?_
 refine JQ.go ?_
 refine JC.seq ?_
 refine JC.region (by rfl) ?_
 intro hQ
 refine JL.fieldAddr fo_26_0 rfl .none rfl ?_
 refine JL.loadOwn 1 az_22 rfl rfl rfl .none rfl ?_
 refine JL.move .none rfl ?_
 obtain ⟨y3, hy3, hF⟩ := bind_some hF
 refine JL.indexSL (R := R_Section) sl_22 hf__0 rfl hy3 .none rfl ?_
 rintro b4 o5 cs6 hc7 - rfl
 refine JL.loadH 0 az_124 rfl hc7 rfl .none rfl ?_
 refine JL.alloc ze_124 .none rfl ?_
 intro b8
 refine JL.storeOwn 0 (cs := [.int .i64 y3.Arm.Low, .int .i64 y3.Arm.High, .int .i64 y3.Stretch.Low, .int .i64 y3.Stretch.High, .int .i64 y3.Base, .int .i64 y3.Gear.Num, .int .i64 y3.Gear.Den]) az_124 rfl rfl rfl (one_cons rfl (one_cons rfl (one_cons rfl (one_cons rfl (one_cons rfl (one_cons rfl (one_cons rfl one_nil))))))) rfl rfl .none ?_
 refine JL.done hQ ?_
 refine JQ.go ?_
 refine JC.seq ?_
 refine JC.region (by rfl) ?_
 intro hQ
 refine JL.fieldAddr fo_50_0 rfl .none rfl ?_
 refine JL.loadOwn 1 az_3 rfl rfl rfl .none rfl ?_
 refine JL.fieldAddr fo_124_0 rfl .none rfl ?_
 refine JL.fieldAddr fo_42_0 rfl .none rfl ?_
 refine JL.loadOwn 0 az_3 rfl rfl rfl .none rfl ?_
 refine JL.fieldAddr fo_124_0 rfl .none rfl ?_
 refine JL.fieldAddr fo_42_1 rfl .none rfl ?_
 refine JL.loadOwn 0 az_3 rfl rfl rfl .none rfl ?_
 obtain ⟨y9, hy9, hF⟩ := bind_some hF
 refine JL.callS (c_ref01_Within n H p.Arm y3.Arm.Low y3.Arm.High y9 hy9) rfl en_80 .none rfl ?_
 refine JL.move .none rfl ?_
 obtain ⟨p11, hp11, hF⟩ := bind_some hF
 refine JL.cut 10 (fun f => f 32 = .bool p11) ?_ ?_
 ·intro hJ12
  rcases ite_some hp11 with ⟨hc13, hF⟩ | ⟨hc13, hF⟩
  ·skip
   refine JL.fieldAddr fo_50_1 rfl (.some rfl rfl rfl hc13) rfl ?_
   refine JL.loadOwn 1 az_3 rfl rfl rfl (.some rfl rfl rfl hc13) rfl ?_
   refine JL.fieldAddr fo_124_1 rfl (.some rfl rfl rfl hc13) rfl ?_
   refine JL.fieldAddr fo_42_0 rfl (.some rfl rfl rfl hc13) rfl ?_
   refine JL.loadOwn 0 az_3 rfl rfl rfl (.some rfl rfl rfl hc13) rfl ?_
   refine JL.fieldAddr fo_124_1 rfl (.some rfl rfl rfl hc13) rfl ?_
   refine JL.fieldAddr fo_42_1 rfl (.some rfl rfl rfl hc13) rfl ?_
   refine JL.loadOwn 0 az_3 rfl rfl rfl (.some rfl rfl rfl hc13) rfl ?_
   obtain ⟨y14, hy14, hF⟩ := bind_some hF
   refine JL.callS (c_ref01_Within n H p.Stretch y3.Stretch.Low y3.Stretch.High y14 hy14) rfl en_80 (.some rfl rfl rfl hc13) rfl ?_
   refine JL.pick_t (b := y9) rfl hc13 .none rfl ?_
   obtain rfl := Option.some.inj hF
   exact hJ12 _ (rfl)
  ·skip
   refine JL.skip (.bool rfl rfl rfl hc13) rfl ?_
   refine JL.skip (.bool rfl rfl rfl hc13) rfl ?_
   refine JL.skip (.bool rfl rfl rfl hc13) rfl ?_
   refine JL.skip (.bool rfl rfl rfl hc13) rfl ?_
   refine JL.skip (.bool rfl rfl rfl hc13) rfl ?_
   refine JL.skip (.bool rfl rfl rfl hc13) rfl ?_
   refine JL.skip (.bool rfl rfl rfl hc13) rfl ?_
   refine JL.skip (.bool rfl rfl rfl hc13) rfl ?_
   refine JL.skip (.bool rfl rfl rfl hc13) rfl ?_
   refine JL.pick_f (b := y9) rfl hc13 .none rfl ?_
   obtain rfl := Option.some.inj hF
   exact hJ12 _ (rfl)
 ·rintro f hf32
  refine (JL.norm (i := 32) hf32 ?_)
  refine JL.assign .none rfl ?_
  refine JL.done hQ ?_
  refine JQ.go ?_
  refine JC.ret ?_
  obtain rfl := Option.some.inj hF
  exact JQ.outS rfl (.tmp .nil) rfl
-- 17 ferrule/ferruleref05.IsTruth
def F_ref05_IsTruth_s1 (n : Nat) (d : Canopy) (strengths : List Int) : Int → Option (Int ⊕ (Bool ⊕ Unit))
 | i_197 => if ((decide (i_197 < (strengths.length : Int))) && (decide (i_197 < (d.Ribs.length : Int)))) = true then ((geti strengths i_197).bind fun y220 => (geti d.Ribs i_197).bind fun y225 => (geti d.Ribs i_197).bind fun y230 => (F_ref05_within n y220 y225.Low y230.High).bind fun y235 => if (!y235) = true then (some (Sum.inr (Sum.inl false))) else (some (Sum.inl (w64 (i_197 + 1))))) else (some (Sum.inr (Sum.inr ())))
def F_ref05_IsTruth (n : Nat) (d : Canopy) (p : ref01_Pair) (strengths : List Int) : Option Bool :=
 (loopO n (F_ref05_IsTruth_s1 n d strengths) 0).bind fun r120 => match r120 with | .inl o => some o | .inr _ => (if ((strengths.length : Int) == (d.Ribs.length : Int)) = true then ((F_ref01_IsPair n d.Frame 0 p).bind fun y241 => some y241) else (some false) : Option Bool).bind fun p238 => some p238
set_option maxRecDepth 100000 in
set_option maxHeartbeats 40000000 in
theorem c_ref05_IsTruth (n : Nat) (H : Hp) (d : Canopy) (d_v0 : Value) (hd_0 : SL H 7 R_Section d_v0 d.Frame.Sections) (d_v7 : Value) (hd_7 : SL H 2 R_Span d_v7 d.Ribs) (d_v8 : Value) (hd_8 : SL H 1 RInt d_v8 d.Shares) (p : ref01_Pair) (strengths : List Int) (strengths_v0 : Value) (hstrengths_0 : SL H 1 RInt strengths_v0 strengths) (y : Bool) (hF : F_ref05_IsTruth n d p strengths = some y) : SC Tryz.prog 17 [.agg [d_v0, .int .i64 d.Frame.Low, .int .i64 d.Frame.High, .int .i64 d.Frame.Ease.Num, .int .i64 d.Frame.Ease.Den, .int .i64 d.Frame.Rod, .int .i64 d.Frame.Case, d_v7, d_v8].toArray, .agg [.int .i64 p.Arm, .int .i64 p.Stretch].toArray, strengths_v0] (.bool y) H := by
 rw [F_ref05_IsTruth] at hF
 refine SC.of (N := 51) Tryz.func17 rfl rfl rfl fun w => ?_
 refine JC.seq ?_
 refine JC.region (by rfl) ?_
 intro hQ
 refine JL.box (cs := [d_v0, .int .i64 d.Frame.Low, .int .i64 d.Frame.High, .int .i64 d.Frame.Ease.Num, .int .i64 d.Frame.Ease.Den, .int .i64 d.Frame.Rod, .int .i64 d.Frame.Case, d_v7, d_v8]) rfl .none rfl ?_
 intro b1
 refine JL.box (cs := [.int .i64 p.Arm, .int .i64 p.Stretch]) rfl .none rfl ?_
 intro b2
 refine JL.assign .none rfl ?_
 refine JL.done hQ ?_
 refine JQ.go ?_
 refine JC.seq ?_
 refine JC.seq ?_
 refine JC.region (by rfl) ?_
 intro hQ
 refine JL.assign .none rfl ?_
 refine JL.done hQ ?_
 refine JQ.go ?_
 obtain ⟨r120, hlr120, hKr120⟩ := bind_some hF
 refine JC.join (fun (_ : Unit) H119 f bs gs => f 2 = strengths_v0 ∧ f 3 = .pointer (some ⟨b1, 0, none⟩) ∧ f 4 = .pointer (some ⟨b2, 0, none⟩) ∧ bs = [(b2, .cells [.int .i64 p.Arm, .int .i64 p.Stretch].toArray 50), (b1, .cells [d_v0, .int .i64 d.Frame.Low, .int .i64 d.Frame.High, .int .i64 d.Frame.Ease.Num, .int .i64 d.Frame.Ease.Den, .int .i64 d.Frame.Rod, .int .i64 d.Frame.Case, d_v7, d_v8].toArray 30)] ∧ gs = [] ∧ HSub H H119 ∧ Sum.inr () = r120) ?_ ?_
 ·skip
  refine JC.block ?_
  refine JC.loop hlr120 (fun (i_197 : Int) H198 f bs gs => f 2 = strengths_v0 ∧ f 3 = .pointer (some ⟨b1, 0, none⟩) ∧ f 4 = .pointer (some ⟨b2, 0, none⟩) ∧ f 7 = .int .i64 i_197 ∧ bs = [(b2, .cells [.int .i64 p.Arm, .int .i64 p.Stretch].toArray 50), (b1, .cells [d_v0, .int .i64 d.Frame.Low, .int .i64 d.Frame.High, .int .i64 d.Frame.Ease.Num, .int .i64 d.Frame.Ease.Den, .int .i64 d.Frame.Rod, .int .i64 d.Frame.Case, d_v7, d_v8].toArray 30)] ∧ gs = [] ∧ HSub H H198) ⟨rfl, rfl, rfl, rfl, rfl, rfl, (HSub.refl _)⟩ ?_
  rintro i_197 x200 H198 f bs gs ⟨hf2, hf3, hf4, hf7, rfl, rfl, hs198⟩ hF hr199
  rw [F_ref05_IsTruth_s1] at hF
  refine (JC.norm (i := 2) hf2 (JC.norm (i := 3) hf3 (JC.norm (i := 4) hf4 (JC.norm (i := 7) hf7 ?_))))
  refine JC.seq ?_
  refine JC.seq ?_
  refine JC.region (by rfl) ?_
  intro hQ
  refine JL.move .none rfl ?_
  refine JL.move .none rfl ?_
  refine JL.lenSL (R := RInt) ul_28 (SL.mono RInt.mono hs198 hstrengths_0) .none rfl ?_
  refine JL.bin rfl rfl rfl .none rfl ?_
  refine JL.move .none rfl ?_
  refine JL.cut 6 (fun f => f 2 = strengths_v0 ∧ f 3 = .pointer (some ⟨b1, 0, none⟩) ∧ f 4 = .pointer (some ⟨b2, 0, none⟩) ∧ f 7 = .int .i64 i_197 ∧ f 18 = .bool ((decide (i_197 < (strengths.length : Int))) && (decide (i_197 < (d.Ribs.length : Int))))) ?_ ?_
  ·intro hJ201
   rcases bcases (decide (i_197 < (strengths.length : Int))) with hc202 | hc202
   ·skip
    refine JL.move (.some rfl rfl rfl hc202) rfl ?_
    refine JL.fieldAddr fo_30_1 rfl (.some rfl rfl rfl hc202) rfl ?_
    refine JL.loadOwn 1 az_27 rfl rfl rfl (.some rfl rfl rfl hc202) rfl ?_
    refine JL.lenSL (R := R_Span) ul_27 (SL.mono R_Span_mono hs198 hd_7) (.some rfl rfl rfl hc202) rfl ?_
    refine JL.bin rfl rfl rfl (.some rfl rfl rfl hc202) rfl ?_
    refine JL.pick_t (b := decide (i_197 < (strengths.length : Int))) rfl hc202 .none rfl ?_
    exact hJ201 _ ⟨rfl, rfl, rfl, rfl, and_t hc202 rfl⟩
   ·skip
    refine JL.skip (.bool rfl rfl rfl hc202) rfl ?_
    refine JL.skip (.bool rfl rfl rfl hc202) rfl ?_
    refine JL.skip (.bool rfl rfl rfl hc202) rfl ?_
    refine JL.skip (.bool rfl rfl rfl hc202) rfl ?_
    refine JL.skip (.bool rfl rfl rfl hc202) rfl ?_
    refine JL.pick_f (b := decide (i_197 < (strengths.length : Int))) rfl hc202 .none rfl ?_
    exact hJ201 _ ⟨rfl, rfl, rfl, rfl, and_f hc202 rfl⟩
  ·rintro f ⟨hf2, hf3, hf4, hf7, hf18⟩
   refine (JL.norm (i := 2) hf2 (JL.norm (i := 3) hf3 (JL.norm (i := 4) hf4 (JL.norm (i := 7) hf7 (JL.norm (i := 18) hf18 ?_)))))
   refine JL.done hQ ?_
   refine JQ.go ?_
   rcases ite_some hF with ⟨hc203, hF⟩ | ⟨hc203, hF⟩
   ·refine JC.cond_t (b := ((decide (i_197 < (strengths.length : Int))) && (decide (i_197 < (d.Ribs.length : Int))))) rfl hc203 ?_
    refine JC.skip ?_
    refine JQ.go ?_
    refine JC.seq ?_
    refine JC.block ?_
    refine JC.seq ?_
    refine JC.draw (by rfl) mo_ (by kernel_rfl) ?_
    intro hQ
    refine JL.move .none rfl ?_
    refine JL.move .none rfl ?_
    obtain ⟨y220, hy220, hF⟩ := bind_some hF
    refine JL.indexSL (R := RInt) sl_28 (SL.mono RInt.mono hs198 hstrengths_0) rfl hy220 .none rfl ?_
    rintro b221 o222 cs223 hc224 - rfl
    refine JL.loadH 0 az_3 rfl hc224 rfl .none rfl ?_
    refine JL.fieldAddr fo_30_1 rfl .none rfl ?_
    refine JL.loadOwn 1 az_27 rfl rfl rfl .none rfl ?_
    refine JL.move .none rfl ?_
    obtain ⟨y225, hy225, hF⟩ := bind_some hF
    refine JL.indexSL (R := R_Span) sl_27 (SL.mono R_Span_mono hs198 hd_7) rfl hy225 .none rfl ?_
    rintro b226 o227 cs228 hc229 - rfl
    refine JL.fieldAddr fo_42_0 rfl .none rfl ?_
    refine JL.loadH 0 az_3 rfl hc229 rfl .none rfl ?_
    refine JL.fieldAddr fo_30_1 rfl .none rfl ?_
    refine JL.loadOwn 1 az_27 rfl rfl rfl .none rfl ?_
    refine JL.move .none rfl ?_
    obtain ⟨y230, hy230, hF⟩ := bind_some hF
    refine JL.indexSL (R := R_Span) sl_27 (SL.mono R_Span_mono hs198 hd_7) rfl hy230 .none rfl ?_
    rintro b231 o232 cs233 hc234 - rfl
    refine JL.fieldAddr fo_42_1 rfl .none rfl ?_
    refine JL.loadH 1 az_3 rfl hc234 rfl .none rfl ?_
    obtain ⟨y235, hy235, hF⟩ := bind_some hF
    refine JL.callS (c_ref05_within n H198 y220 y225.Low y230.High y235 hy235) rfl en_52 .none rfl ?_
    refine JL.not rfl .none rfl ?_
    refine JL.doneQ hQ ?_
    refine JQ.go ?_
    refine JC.fresh (fun f => f 2 = strengths_v0 ∧ f 3 = .pointer (some ⟨b1, 0, none⟩) ∧ f 4 = .pointer (some ⟨b2, 0, none⟩) ∧ f 7 = .int .i64 i_197 ∧ f 38 = .bool (!y235)) ⟨rfl, rfl, rfl, rfl, rfl⟩ ?_
    rintro f ⟨hf2, hf3, hf4, hf7, hf38⟩
    refine (JC.norm (i := 2) hf2 (JC.norm (i := 3) hf3 (JC.norm (i := 4) hf4 (JC.norm (i := 7) hf7 (JC.norm (i := 38) hf38 ?_)))))
    rcases ite_some hF with ⟨hc236, hF⟩ | ⟨hc236, hF⟩
    ·refine JC.cond_t (b := (!y235)) rfl hc236 ?_
     refine JC.seq ?_
     refine JC.region (by rfl) ?_
     intro hQ
     refine JL.assign .none rfl ?_
     refine JL.done hQ ?_
     refine JQ.go ?_
     refine JC.ret ?_
     refine JQ.ret_block ?_
     refine JQ.ret_then ?_
     refine JQ.ret_then ?_
     refine JQ.ret_block ?_
     refine JQ.ret_join ?_
     refine JQ.ret_then ?_
     obtain rfl := Option.some.inj hF
     have ehr199 := hr199 _ rfl
     subst ehr199
     have hF := hKr120
     try dsimp only at hF
     obtain rfl := Option.some.inj hF
     exact JQ.outS rfl (.tmp .nil) rfl
    ·refine JC.cond_f (b := (!y235)) rfl hc236 ?_
     refine JC.skip ?_
     refine JQ.normal_block ?_
     refine JQ.go ?_
     refine JC.region (by rfl) ?_
     intro hQ
     refine JL.move .none rfl ?_
     refine JL.bin rfl rfl rfl .none rfl ?_
     refine JL.assign .none rfl ?_
     refine JL.done hQ ?_
     obtain rfl := Option.some.inj hF
     exact JQ.next rfl ⟨rfl, rfl, rfl, rfl, rfl, rfl, hs198⟩
   ·refine JC.cond_f (b := ((decide (i_197 < (strengths.length : Int))) && (decide (i_197 < (d.Ribs.length : Int))))) rfl hc203 ?_
    refine JC.exit ?_
    refine JQ.exit_then ?_
    refine JQ.exit_then ?_
    refine JQ.exit_block ?_
    obtain rfl := Option.some.inj hF
    have ehr199 := hr199 _ rfl
    subst ehr199
    exact JQ.join () ⟨rfl, rfl, rfl, rfl, rfl, hs198, rfl⟩
 ·rintro _ H119 f bs gs ⟨hf2, hf3, hf4, rfl, rfl, hs119, rfl⟩
  have hF := hKr120
  try dsimp only at hF
  refine (JQ.norm (i := 2) hf2 (JQ.norm (i := 3) hf3 (JQ.norm (i := 4) hf4 ?_)))
  refine JQ.go ?_
  refine JC.seq ?_
  refine JC.region (by rfl) ?_
  intro hQ
  refine JL.move .none rfl ?_
  refine JL.lenSL (R := RInt) ul_28 (SL.mono RInt.mono hs119 hstrengths_0) .none rfl ?_
  refine JL.fieldAddr fo_30_1 rfl .none rfl ?_
  refine JL.loadOwn 1 az_27 rfl rfl rfl .none rfl ?_
  refine JL.lenSL (R := R_Span) ul_27 (SL.mono R_Span_mono hs119 hd_7) .none rfl ?_
  refine JL.bin rfl rfl rfl .none rfl ?_
  refine JL.move .none rfl ?_
  obtain ⟨p238, hp238, hF⟩ := bind_some hF
  refine JL.cut 5 (fun f => f 50 = .bool p238) ?_ ?_
  ·intro hJ239
   rcases ite_some hp238 with ⟨hc240, hF⟩ | ⟨hc240, hF⟩
   ·skip
    refine JL.fieldAddr fo_30_0 rfl (.some rfl rfl rfl hc240) rfl ?_
    refine JL.loadOwn 1 az_26 rfl rfl rfl (.some rfl rfl rfl hc240) rfl ?_
    refine JL.loadOwn 0 az_50 rfl rfl rfl (.some rfl rfl rfl hc240) rfl ?_
    obtain ⟨y241, hy241, hF⟩ := bind_some hF
    refine JL.callS (c_ref01_IsPair n H119 d.Frame d_v0 (SL.mono R_Section_mono hs119 hd_0) 0 p y241 hy241) rfl en_53 (.some rfl rfl rfl hc240) rfl ?_
    refine JL.pick_t (b := ((strengths.length : Int) == (d.Ribs.length : Int))) rfl hc240 .none rfl ?_
    obtain rfl := Option.some.inj hF
    exact hJ239 _ (rfl)
   ·skip
    refine JL.skip (.bool rfl rfl rfl hc240) rfl ?_
    refine JL.skip (.bool rfl rfl rfl hc240) rfl ?_
    refine JL.skip (.bool rfl rfl rfl hc240) rfl ?_
    refine JL.skip (.bool rfl rfl rfl hc240) rfl ?_
    refine JL.pick_f (b := ((strengths.length : Int) == (d.Ribs.length : Int))) rfl hc240 .none rfl ?_
    obtain rfl := Option.some.inj hF
    exact hJ239 _ (rfl)
  ·rintro f hf50
   refine (JL.norm (i := 50) hf50 ?_)
   refine JL.assign .none rfl ?_
   refine JL.done hQ ?_
   refine JQ.go ?_
   refine JC.ret ?_
   obtain rfl := Option.some.inj hF
   exact JQ.outS rfl (.tmp .nil) rfl
-- 94 ferrule/ferrulelaw01.Example
def F_law01_Example (n : Nat)  : Option Frame :=
 some (Frame.mk [(Section.mk (Span.mk 50 52) (Span.mk 60 60) 0 (Frac.mk 1 1)), (Section.mk (Span.mk 40 40) (Span.mk 45 46) 5 (Frac.mk 1 2))] 20 100 (Frac.mk 1 20) 300 351)
set_option maxRecDepth 100000 in
set_option maxHeartbeats 40000000 in
theorem c_law01_Example (n : Nat) (H : Hp)  (y : Frame) (hF : F_law01_Example n = some y) : HC Tryz.prog 94 [] H (fun H' v => ∃ ra_v0 : Value, v = .agg [ra_v0, .int .i64 y.Low, .int .i64 y.High, .int .i64 y.Ease.Num, .int .i64 y.Ease.Den, .int .i64 y.Rod, .int .i64 y.Case].toArray ∧ SL H' 7 R_Section ra_v0 y.Sections) := by
 rw [F_law01_Example] at hF
 refine HC.of (N := 12) Tryz.func94 rfl rfl rfl fun w => ?_
 refine JC.seq ?_
 refine JC.region (by rfl) ?_
 intro hQ
 refine JL.alloc ze_26 .none rfl ?_
 intro b1
 refine JL.done hQ ?_
 refine JQ.go ?_
 refine JC.seq ?_
 refine JC.region (by rfl) ?_
 intro hQ
 refine JL.build (l := [.int .i64 50, .int .i64 52]) (by kernel_rfl) .none rfl ?_
 refine JL.build (l := [.int .i64 60, .int .i64 60]) (by kernel_rfl) .none rfl ?_
 refine JL.build (l := [.int .i64 1, .int .i64 1]) (by kernel_rfl) .none rfl ?_
 refine JL.build (l := [.int .i64 50, .int .i64 52, .int .i64 60, .int .i64 60, .int .i64 0, .int .i64 1, .int .i64 1]) (by kernel_rfl) .none rfl ?_
 refine JL.build (l := [.int .i64 40, .int .i64 40]) (by kernel_rfl) .none rfl ?_
 refine JL.build (l := [.int .i64 45, .int .i64 46]) (by kernel_rfl) .none rfl ?_
 refine JL.build (l := [.int .i64 1, .int .i64 2]) (by kernel_rfl) .none rfl ?_
 refine JL.build (l := [.int .i64 40, .int .i64 40, .int .i64 45, .int .i64 46, .int .i64 5, .int .i64 1, .int .i64 2]) (by kernel_rfl) .none rfl ?_
 refine JL.buildSlice (e := 124) (l := [.int .i64 50, .int .i64 52, .int .i64 60, .int .i64 60, .int .i64 0, .int .i64 1, .int .i64 1, .int .i64 40, .int .i64 40, .int .i64 45, .int .i64 46, .int .i64 5, .int .i64 1, .int .i64 2]) (by kernel_rfl) .none rfl ?_
 intro b2
 refine JL.build (l := [.int .i64 1, .int .i64 20]) (by kernel_rfl) .none rfl ?_
 refine JL.build (l := [.slice (some ⟨b2, 0, none⟩) 2 2, .int .i64 20, .int .i64 100, .int .i64 1, .int .i64 20, .int .i64 300, .int .i64 351]) (by kernel_rfl) .none rfl ?_
 refine JL.storeOwn 1 (cs := [.slice (some ⟨b2, 0, none⟩) 2 2, .int .i64 20, .int .i64 100, .int .i64 1, .int .i64 20, .int .i64 300, .int .i64 351]) az_26 rfl rfl rfl (one_cons rfl (one_cons rfl (one_cons rfl (one_cons rfl (one_cons rfl (one_cons rfl (one_cons rfl one_nil))))))) rfl rfl .none ?_
 refine JL.done hQ ?_
 refine JQ.go ?_
 refine JC.ret ?_
 refine JQ.freezeC 0 (l := [.int .i64 50, .int .i64 52, .int .i64 60, .int .i64 60, .int .i64 0, .int .i64 1, .int .i64 1, .int .i64 40, .int .i64 40, .int .i64 45, .int .i64 46, .int .i64 5, .int .i64 1, .int .i64 2]) rfl ?_
 intro H3 hs3 hc4
 have hg5 : SL H3 7 R_Section (.slice (some ⟨b2, 0, none⟩) 2 2) [(Section.mk (Span.mk 50 52) (Span.mk 60 60) 0 (Frac.mk 1 1)), (Section.mk (Span.mk 40 40) (Span.mk 45 46) 5 (Frac.mk 1 2))] := CH.sl (l := [(Section.mk (Span.mk 50 52) (Span.mk 60 60) 0 (Frac.mk 1 1)), (Section.mk (Span.mk 40 40) (Span.mk 45 46) 5 (Frac.mk 1 2))]) (CH.cons (cs := [.int .i64 50, .int .i64 52, .int .i64 60, .int .i64 60, .int .i64 0, .int .i64 1, .int .i64 1]) rfl rfl (CH.cons (cs := [.int .i64 40, .int .i64 40, .int .i64 45, .int .i64 46, .int .i64 5, .int .i64 1, .int .i64 2]) rfl rfl CH.nil)) hc4 ⟨by simp, by simp⟩
 obtain rfl := Option.some.inj hF
 exact JQ.outH rfl (.cell 0 az_26 rfl rfl rfl .nil) ⟨(.slice (some ⟨b2, 0, none⟩) 2 2), rfl, hg5⟩
-- 72 ferrule/ferrulelaw05.Example
def F_law05_Example (n : Nat)  : Option Canopy :=
 (F_law01_Example n).bind fun y2 => some (Canopy.mk y2 [(Span.mk 100 110), (Span.mk 60 60), (Span.mk 50 55), (Span.mk 40 40), (Span.mk 50 50), (Span.mk 60 60)] [10, 6, 3, 1, 3, 6])
set_option maxRecDepth 100000 in
set_option maxHeartbeats 40000000 in
theorem c_law05_Example (n : Nat) (H : Hp)  (y : Canopy) (hF : F_law05_Example n = some y) : HC Tryz.prog 72 [] H (fun H' v => ∃ ra_v0 ra_v7 ra_v8 : Value, v = .agg [ra_v0, .int .i64 y.Frame.Low, .int .i64 y.Frame.High, .int .i64 y.Frame.Ease.Num, .int .i64 y.Frame.Ease.Den, .int .i64 y.Frame.Rod, .int .i64 y.Frame.Case, ra_v7, ra_v8].toArray ∧ SL H' 7 R_Section ra_v0 y.Frame.Sections ∧ SL H' 2 R_Span ra_v7 y.Ribs ∧ SL H' 1 RInt ra_v8 y.Shares) := by
 rw [F_law05_Example] at hF
 refine HC.of (N := 11) Tryz.func72 rfl rfl rfl fun w => ?_
 refine JC.seq ?_
 refine JC.region (by rfl) ?_
 intro hQ
 refine JL.alloc ze_30 .none rfl ?_
 intro b1
 refine JL.done hQ ?_
 refine JQ.go ?_
 refine JC.seq ?_
 refine JC.region (by rfl) ?_
 intro hQ
 obtain ⟨y2, hy2, hF⟩ := bind_some hF
 refine JL.callH (c_law01_Example n H y2 hy2) rfl en_94 .none rfl ?_
 rintro H3 vv4 hs3 ⟨y2a_v0, rfl, hy2a_0⟩
 refine JL.build (l := [.int .i64 100, .int .i64 110]) (by kernel_rfl) .none rfl ?_
 refine JL.build (l := [.int .i64 60, .int .i64 60]) (by kernel_rfl) .none rfl ?_
 refine JL.build (l := [.int .i64 50, .int .i64 55]) (by kernel_rfl) .none rfl ?_
 refine JL.build (l := [.int .i64 40, .int .i64 40]) (by kernel_rfl) .none rfl ?_
 refine JL.build (l := [.int .i64 50, .int .i64 50]) (by kernel_rfl) .none rfl ?_
 refine JL.build (l := [.int .i64 60, .int .i64 60]) (by kernel_rfl) .none rfl ?_
 refine JL.buildSlice (e := 42) (l := [.int .i64 100, .int .i64 110, .int .i64 60, .int .i64 60, .int .i64 50, .int .i64 55, .int .i64 40, .int .i64 40, .int .i64 50, .int .i64 50, .int .i64 60, .int .i64 60]) (by kernel_rfl) .none rfl ?_
 intro b5
 refine JL.buildSlice (e := 3) (l := [.int .i64 10, .int .i64 6, .int .i64 3, .int .i64 1, .int .i64 3, .int .i64 6]) (by kernel_rfl) .none rfl ?_
 intro b6
 obtain ⟨a7, c8, rfl, hh9⟩ := hy2a_0
 have hy2a_0 : SL H3 7 R_Section (.slice a7 y2.Sections.length c8) y2.Sections := ⟨a7, c8, rfl, hh9⟩
 refine JL.build (l := [(.slice a7 y2.Sections.length c8), .int .i64 y2.Low, .int .i64 y2.High, .int .i64 y2.Ease.Num, .int .i64 y2.Ease.Den, .int .i64 y2.Rod, .int .i64 y2.Case, .slice (some ⟨b5, 0, none⟩) 6 6, .slice (some ⟨b6, 0, none⟩) 6 6]) (by kernel_rfl) .none rfl ?_
 refine JL.storeOwn 2 (cs := [(.slice a7 y2.Sections.length c8), .int .i64 y2.Low, .int .i64 y2.High, .int .i64 y2.Ease.Num, .int .i64 y2.Ease.Den, .int .i64 y2.Rod, .int .i64 y2.Case, .slice (some ⟨b5, 0, none⟩) 6 6, .slice (some ⟨b6, 0, none⟩) 6 6]) az_30 rfl rfl rfl (one_cons (SL.one hy2a_0) (one_cons rfl (one_cons rfl (one_cons rfl (one_cons rfl (one_cons rfl (one_cons rfl (one_cons rfl (one_cons rfl one_nil))))))))) rfl rfl .none ?_
 refine JL.done hQ ?_
 refine JQ.go ?_
 refine JC.ret ?_
 refine JQ.freezeC 1 (l := [.int .i64 100, .int .i64 110, .int .i64 60, .int .i64 60, .int .i64 50, .int .i64 55, .int .i64 40, .int .i64 40, .int .i64 50, .int .i64 50, .int .i64 60, .int .i64 60]) rfl ?_
 intro H10 hs10 hc11
 have hg12 : SL H10 2 R_Span (.slice (some ⟨b5, 0, none⟩) 6 6) [(Span.mk 100 110), (Span.mk 60 60), (Span.mk 50 55), (Span.mk 40 40), (Span.mk 50 50), (Span.mk 60 60)] := CH.sl (l := [(Span.mk 100 110), (Span.mk 60 60), (Span.mk 50 55), (Span.mk 40 40), (Span.mk 50 50), (Span.mk 60 60)]) (CH.cons (cs := [.int .i64 100, .int .i64 110]) rfl rfl (CH.cons (cs := [.int .i64 60, .int .i64 60]) rfl rfl (CH.cons (cs := [.int .i64 50, .int .i64 55]) rfl rfl (CH.cons (cs := [.int .i64 40, .int .i64 40]) rfl rfl (CH.cons (cs := [.int .i64 50, .int .i64 50]) rfl rfl (CH.cons (cs := [.int .i64 60, .int .i64 60]) rfl rfl CH.nil)))))) hc11 ⟨by simp, by simp⟩
 refine JQ.freezeC 0 (l := [.int .i64 10, .int .i64 6, .int .i64 3, .int .i64 1, .int .i64 3, .int .i64 6]) rfl ?_
 intro H13 hs13 hc14
 have hg15 : SL H13 1 RInt (.slice (some ⟨b6, 0, none⟩) 6 6) [10, 6, 3, 1, 3, 6] := CH.sl (l := [10, 6, 3, 1, 3, 6]) (CH.cons (cs := [.int .i64 10]) rfl rfl (CH.cons (cs := [.int .i64 6]) rfl rfl (CH.cons (cs := [.int .i64 3]) rfl rfl (CH.cons (cs := [.int .i64 1]) rfl rfl (CH.cons (cs := [.int .i64 3]) rfl rfl (CH.cons (cs := [.int .i64 6]) rfl rfl CH.nil)))))) hc14 ⟨by simp, by simp⟩
 obtain rfl := Option.some.inj hF
 exact JQ.outH rfl (.cell 0 az_30 rfl rfl rfl .nil) ⟨(.slice a7 y2.Sections.length c8), (.slice (some ⟨b5, 0, none⟩) 6 6), (.slice (some ⟨b6, 0, none⟩) 6 6), rfl, (SL.mono R_Section_mono (HSub.trans hs10 hs13) hy2a_0), (SL.mono R_Span_mono hs13 hg12), hg15⟩
end Go.Proofs.YtcipdblhopffbaaGreat
end
section
namespace Go.Proofs.YtcipdblhopffbaaGreat
open Go Go.RowKit Go.Dec
set_option linter.unusedVariables false
-- 39 ferrule/ferrulelaw13.Example
def F_law13_Example (n : Nat)  : Option Run :=
 (F_law05_Example n).bind fun y2 => some (Run.mk y2 [(Blow.mk 0 (Span.mk 10 14)), (Blow.mk 0 (Span.mk 12 15)), (Blow.mk 3 (Span.mk 4 6))] [(Meter.mk 13 1), (Meter.mk 5 3)] 0)
set_option maxRecDepth 100000 in
set_option maxHeartbeats 40000000 in
theorem c_law13_Example (n : Nat) (H : Hp)  (y : Run) (hF : F_law13_Example n = some y) : HC Tryz.prog 39 [] H (fun H' v => ∃ ra_v0 ra_v7 ra_v8 ra_v9 ra_v10 : Value, v = .agg [ra_v0, .int .i64 y.Canopy.Frame.Low, .int .i64 y.Canopy.Frame.High, .int .i64 y.Canopy.Frame.Ease.Num, .int .i64 y.Canopy.Frame.Ease.Den, .int .i64 y.Canopy.Frame.Rod, .int .i64 y.Canopy.Frame.Case, ra_v7, ra_v8, ra_v9, ra_v10, .int .i64 y.Wrong].toArray ∧ SL H' 7 R_Section ra_v0 y.Canopy.Frame.Sections ∧ SL H' 2 R_Span ra_v7 y.Canopy.Ribs ∧ SL H' 1 RInt ra_v8 y.Canopy.Shares ∧ SL H' 3 R_Blow ra_v9 y.Blows ∧ SL H' 2 R_Meter ra_v10 y.Meters) := by
 rw [F_law13_Example] at hF
 refine HC.of (N := 13) Tryz.func39 rfl rfl rfl fun w => ?_
 refine JC.seq ?_
 refine JC.region (by rfl) ?_
 intro hQ
 refine JL.alloc ze_34 .none rfl ?_
 intro b1
 refine JL.done hQ ?_
 refine JQ.go ?_
 refine JC.seq ?_
 refine JC.region (by rfl) ?_
 intro hQ
 obtain ⟨y2, hy2, hF⟩ := bind_some hF
 refine JL.callH (c_law05_Example n H y2 hy2) rfl en_72 .none rfl ?_
 rintro H3 vv4 hs3 ⟨y2a_v0, y2a_v7, y2a_v8, rfl, hy2a_0, hy2a_7, hy2a_8⟩
 refine JL.build (l := [.int .i64 10, .int .i64 14]) (by kernel_rfl) .none rfl ?_
 refine JL.build (l := [.int .i64 0, .int .i64 10, .int .i64 14]) (by kernel_rfl) .none rfl ?_
 refine JL.build (l := [.int .i64 12, .int .i64 15]) (by kernel_rfl) .none rfl ?_
 refine JL.build (l := [.int .i64 0, .int .i64 12, .int .i64 15]) (by kernel_rfl) .none rfl ?_
 refine JL.build (l := [.int .i64 4, .int .i64 6]) (by kernel_rfl) .none rfl ?_
 refine JL.build (l := [.int .i64 3, .int .i64 4, .int .i64 6]) (by kernel_rfl) .none rfl ?_
 refine JL.buildSlice (e := 62) (l := [.int .i64 0, .int .i64 10, .int .i64 14, .int .i64 0, .int .i64 12, .int .i64 15, .int .i64 3, .int .i64 4, .int .i64 6]) (by kernel_rfl) .none rfl ?_
 intro b5
 refine JL.build (l := [.int .i64 13, .int .i64 1]) (by kernel_rfl) .none rfl ?_
 refine JL.build (l := [.int .i64 5, .int .i64 3]) (by kernel_rfl) .none rfl ?_
 refine JL.buildSlice (e := 73) (l := [.int .i64 13, .int .i64 1, .int .i64 5, .int .i64 3]) (by kernel_rfl) .none rfl ?_
 intro b6
 obtain ⟨a7, c8, rfl, hh9⟩ := hy2a_0
 have hy2a_0 : SL H3 7 R_Section (.slice a7 y2.Frame.Sections.length c8) y2.Frame.Sections := ⟨a7, c8, rfl, hh9⟩
 obtain ⟨a10, c11, rfl, hh12⟩ := hy2a_7
 have hy2a_7 : SL H3 2 R_Span (.slice a10 y2.Ribs.length c11) y2.Ribs := ⟨a10, c11, rfl, hh12⟩
 obtain ⟨a13, c14, rfl, hh15⟩ := hy2a_8
 have hy2a_8 : SL H3 1 RInt (.slice a13 y2.Shares.length c14) y2.Shares := ⟨a13, c14, rfl, hh15⟩
 refine JL.build (l := [(.slice a7 y2.Frame.Sections.length c8), .int .i64 y2.Frame.Low, .int .i64 y2.Frame.High, .int .i64 y2.Frame.Ease.Num, .int .i64 y2.Frame.Ease.Den, .int .i64 y2.Frame.Rod, .int .i64 y2.Frame.Case, (.slice a10 y2.Ribs.length c11), (.slice a13 y2.Shares.length c14), .slice (some ⟨b5, 0, none⟩) 3 3, .slice (some ⟨b6, 0, none⟩) 2 2, .int .i64 0]) (by kernel_rfl) .none rfl ?_
 refine JL.storeOwn 2 (cs := [(.slice a7 y2.Frame.Sections.length c8), .int .i64 y2.Frame.Low, .int .i64 y2.Frame.High, .int .i64 y2.Frame.Ease.Num, .int .i64 y2.Frame.Ease.Den, .int .i64 y2.Frame.Rod, .int .i64 y2.Frame.Case, (.slice a10 y2.Ribs.length c11), (.slice a13 y2.Shares.length c14), .slice (some ⟨b5, 0, none⟩) 3 3, .slice (some ⟨b6, 0, none⟩) 2 2, .int .i64 0]) az_34 rfl rfl rfl (one_cons (SL.one hy2a_0) (one_cons rfl (one_cons rfl (one_cons rfl (one_cons rfl (one_cons rfl (one_cons rfl (one_cons (SL.one hy2a_7) (one_cons (SL.one hy2a_8) (one_cons rfl (one_cons rfl (one_cons rfl one_nil)))))))))))) rfl rfl .none ?_
 refine JL.done hQ ?_
 refine JQ.go ?_
 refine JC.ret ?_
 refine JQ.freezeC 1 (l := [.int .i64 0, .int .i64 10, .int .i64 14, .int .i64 0, .int .i64 12, .int .i64 15, .int .i64 3, .int .i64 4, .int .i64 6]) rfl ?_
 intro H16 hs16 hc17
 have hg18 : SL H16 3 R_Blow (.slice (some ⟨b5, 0, none⟩) 3 3) [(Blow.mk 0 (Span.mk 10 14)), (Blow.mk 0 (Span.mk 12 15)), (Blow.mk 3 (Span.mk 4 6))] := CH.sl (l := [(Blow.mk 0 (Span.mk 10 14)), (Blow.mk 0 (Span.mk 12 15)), (Blow.mk 3 (Span.mk 4 6))]) (CH.cons (cs := [.int .i64 0, .int .i64 10, .int .i64 14]) rfl rfl (CH.cons (cs := [.int .i64 0, .int .i64 12, .int .i64 15]) rfl rfl (CH.cons (cs := [.int .i64 3, .int .i64 4, .int .i64 6]) rfl rfl CH.nil))) hc17 ⟨by simp, by simp⟩
 refine JQ.freezeC 0 (l := [.int .i64 13, .int .i64 1, .int .i64 5, .int .i64 3]) rfl ?_
 intro H19 hs19 hc20
 have hg21 : SL H19 2 R_Meter (.slice (some ⟨b6, 0, none⟩) 2 2) [(Meter.mk 13 1), (Meter.mk 5 3)] := CH.sl (l := [(Meter.mk 13 1), (Meter.mk 5 3)]) (CH.cons (cs := [.int .i64 13, .int .i64 1]) rfl rfl (CH.cons (cs := [.int .i64 5, .int .i64 3]) rfl rfl CH.nil)) hc20 ⟨by simp, by simp⟩
 obtain rfl := Option.some.inj hF
 exact JQ.outH rfl (.cell 0 az_34 rfl rfl rfl .nil) ⟨(.slice a7 y2.Frame.Sections.length c8), (.slice a10 y2.Ribs.length c11), (.slice a13 y2.Shares.length c14), (.slice (some ⟨b5, 0, none⟩) 3 3), (.slice (some ⟨b6, 0, none⟩) 2 2), rfl, (SL.mono R_Section_mono (HSub.trans hs16 hs19) hy2a_0), (SL.mono R_Span_mono (HSub.trans hs16 hs19) hy2a_7), (SL.mono RInt.mono (HSub.trans hs16 hs19) hy2a_8), (SL.mono R_Blow_mono hs19 hg18), hg21⟩
-- 54 ferrule/counts.within
def F_counts_within (n : Nat) (n_ : Int) (low : Int) (high : Int) : Option Bool :=
 some ((decide (low ≤ n_)) && (decide (n_ ≤ high)))
set_option maxRecDepth 100000 in
set_option maxHeartbeats 40000000 in
theorem c_counts_within (n : Nat) (H : Hp) (n_ : Int) (low : Int) (high : Int) (y : Bool) (hF : F_counts_within n n_ low high = some y) : SC Tryz.prog 54 [.int .i64 n_, .int .i64 low, .int .i64 high] (.bool y) H := by
 rw [F_counts_within] at hF
 refine SC.of (N := 15) Tryz.func54 rfl rfl rfl fun w => ?_
 refine JC.seq ?_
 refine JC.region (by rfl) ?_
 intro hQ
 refine JL.assign .none rfl ?_
 refine JL.done hQ ?_
 refine JQ.go ?_
 refine JC.seq ?_
 refine JC.region (by rfl) ?_
 intro hQ
 refine JL.move .none rfl ?_
 refine JL.move .none rfl ?_
 refine JL.bin rfl rfl rfl .none rfl ?_
 refine JL.move .none rfl ?_
 refine JL.cut 4 (fun f => f 14 = .bool ((decide (low ≤ n_)) && (decide (n_ ≤ high)))) ?_ ?_
 ·intro hJ1
  rcases bcases (decide (low ≤ n_)) with hc2 | hc2
  ·skip
   refine JL.move (.some rfl rfl rfl hc2) rfl ?_
   refine JL.move (.some rfl rfl rfl hc2) rfl ?_
   refine JL.bin rfl rfl rfl (.some rfl rfl rfl hc2) rfl ?_
   refine JL.pick_t (b := decide (low ≤ n_)) rfl hc2 .none rfl ?_
   exact hJ1 _ (and_t hc2 rfl)
  ·skip
   refine JL.skip (.bool rfl rfl rfl hc2) rfl ?_
   refine JL.skip (.bool rfl rfl rfl hc2) rfl ?_
   refine JL.skip (.bool rfl rfl rfl hc2) rfl ?_
   refine JL.pick_f (b := decide (low ≤ n_)) rfl hc2 .none rfl ?_
   exact hJ1 _ (and_f hc2 rfl)
 ·rintro f hf14
  refine (JL.norm (i := 14) hf14 ?_)
  refine JL.assign .none rfl ?_
  refine JL.done hQ ?_
  refine JQ.go ?_
  refine JC.ret ?_
  obtain rfl := Option.some.inj hF
  exact JQ.outS rfl (.tmp .nil) rfl
-- 60 ferrule/counts.Check$1
def F_counts_Check_1 (n : Nat) (b : Blow) (c_0 : Run) : Option Bool :=
 (F_counts_within n b.At 0 (w64 ((c_0.Canopy.Ribs.length : Int) - 1))).bind fun y2 => (if (!y2) = true then (some true) else ((F_counts_within n b.Force.Low 0 b.Force.High).bind fun y7 => some (!y7)) : Option Bool).bind fun p4 => some ((p4 || (decide (99 < b.Force.High))) || (decide (9 < (w64 (b.Force.High - b.Force.Low)))))
set_option maxRecDepth 100000 in
set_option maxHeartbeats 40000000 in
theorem c_counts_Check_1 (n : Nat) (H : Hp) (b : Blow) (c_0 : Run) (c_0_v0 : Value) (hc_0_0 : SL H 7 R_Section c_0_v0 c_0.Canopy.Frame.Sections) (c_0_v7 : Value) (hc_0_7 : SL H 2 R_Span c_0_v7 c_0.Canopy.Ribs) (c_0_v8 : Value) (hc_0_8 : SL H 1 RInt c_0_v8 c_0.Canopy.Shares) (c_0_v9 : Value) (hc_0_9 : SL H 3 R_Blow c_0_v9 c_0.Blows) (c_0_v10 : Value) (hc_0_10 : SL H 2 R_Meter c_0_v10 c_0.Meters) (c_0_b : Nat) (c_0_c : Cells H c_0_b 0 [c_0_v0, .int .i64 c_0.Canopy.Frame.Low, .int .i64 c_0.Canopy.Frame.High, .int .i64 c_0.Canopy.Frame.Ease.Num, .int .i64 c_0.Canopy.Frame.Ease.Den, .int .i64 c_0.Canopy.Frame.Rod, .int .i64 c_0.Canopy.Frame.Case, c_0_v7, c_0_v8, c_0_v9, c_0_v10, .int .i64 c_0.Wrong]) (y : Bool) (hF : F_counts_Check_1 n b c_0 = some y) : SC Tryz.prog 60 [.agg [.int .i64 b.At, .int .i64 b.Force.Low, .int .i64 b.Force.High].toArray, .pointer (some ⟨c_0_b, 0, none⟩)] (.bool y) H := by
 rw [F_counts_Check_1] at hF
 refine SC.of (N := 39) Tryz.func60 rfl rfl rfl fun w => ?_
 refine JC.seq ?_
 refine JC.region (by rfl) ?_
 intro hQ
 refine JL.box (cs := [.int .i64 b.At, .int .i64 b.Force.Low, .int .i64 b.Force.High]) rfl .none rfl ?_
 intro b1
 refine JL.assign .none rfl ?_
 refine JL.done hQ ?_
 refine JQ.go ?_
 refine JC.seq ?_
 refine JC.region (by rfl) ?_
 intro hQ
 refine JL.fieldAddr fo_62_0 rfl .none rfl ?_
 refine JL.loadOwn 0 az_3 rfl rfl rfl .none rfl ?_
 refine JL.fieldAddr fo_34_0 rfl .none rfl ?_
 refine JL.fieldAddr fo_30_1 rfl .none rfl ?_
 refine JL.loadH 7 az_27 rfl c_0_c rfl .none rfl ?_
 refine JL.lenSL (R := R_Span) ul_27 hc_0_7 .none rfl ?_
 refine JL.bin rfl rfl rfl .none rfl ?_
 obtain ⟨y2, hy2, hF⟩ := bind_some hF
 refine JL.callS (c_counts_within n H b.At 0 (w64 ((c_0.Canopy.Ribs.length : Int) - 1)) y2 hy2) rfl en_54 .none rfl ?_
 refine JL.not rfl .none rfl ?_
 refine JL.move .none rfl ?_
 obtain ⟨p4, hp4, hF⟩ := bind_some hF
 refine JL.cut 9 (fun f => f 2 = .pointer (some ⟨b1, 0, none⟩) ∧ f 22 = .bool p4) ?_ ?_
 ·intro hJ5
  rcases ite_some hp4 with ⟨hc6, hF⟩ | ⟨hc6, hF⟩
  ·skip
   refine JL.skip (.bool rfl rfl rfl hc6) rfl ?_
   refine JL.skip (.bool rfl rfl rfl hc6) rfl ?_
   refine JL.skip (.bool rfl rfl rfl hc6) rfl ?_
   refine JL.skip (.bool rfl rfl rfl hc6) rfl ?_
   refine JL.skip (.bool rfl rfl rfl hc6) rfl ?_
   refine JL.skip (.bool rfl rfl rfl hc6) rfl ?_
   refine JL.skip (.bool rfl rfl rfl hc6) rfl ?_
   refine JL.skip (.bool rfl rfl rfl hc6) rfl ?_
   refine JL.pick_t (b := (!y2)) rfl hc6 .none rfl ?_
   obtain rfl := Option.some.inj hF
   exact hJ5 _ ⟨rfl, rfl⟩
  ·skip
   refine JL.fieldAddr fo_62_1 rfl (.some rfl rfl rfl hc6) rfl ?_
   refine JL.fieldAddr fo_42_0 rfl (.some rfl rfl rfl hc6) rfl ?_
   refine JL.loadOwn 0 az_3 rfl rfl rfl (.some rfl rfl rfl hc6) rfl ?_
   refine JL.fieldAddr fo_62_1 rfl (.some rfl rfl rfl hc6) rfl ?_
   refine JL.fieldAddr fo_42_1 rfl (.some rfl rfl rfl hc6) rfl ?_
   refine JL.loadOwn 0 az_3 rfl rfl rfl (.some rfl rfl rfl hc6) rfl ?_
   obtain ⟨y7, hy7, hF⟩ := bind_some hF
   refine JL.callS (c_counts_within n H b.Force.Low 0 b.Force.High y7 hy7) rfl en_54 (.some rfl rfl rfl hc6) rfl ?_
   refine JL.not rfl (.some rfl rfl rfl hc6) rfl ?_
   refine JL.pick_f (b := (!y2)) rfl hc6 .none rfl ?_
   obtain rfl := Option.some.inj hF
   exact hJ5 _ ⟨rfl, rfl⟩
 ·rintro f ⟨hf2, hf22⟩
  refine (JL.norm (i := 2) hf2 (JL.norm (i := 22) hf22 ?_))
  refine JL.move .none rfl ?_
  refine JL.cut 5 (fun f => f 2 = .pointer (some ⟨b1, 0, none⟩) ∧ f 28 = .bool (p4 || (decide (99 < b.Force.High)))) ?_ ?_
  ·intro hJ8
   rcases bcases p4 with hc9 | hc9
   ·skip
    refine JL.skip (.bool rfl rfl rfl hc9) rfl ?_
    refine JL.skip (.bool rfl rfl rfl hc9) rfl ?_
    refine JL.skip (.bool rfl rfl rfl hc9) rfl ?_
    refine JL.skip (.bool rfl rfl rfl hc9) rfl ?_
    refine JL.pick_t (b := p4) rfl hc9 .none rfl ?_
    exact hJ8 _ ⟨rfl, or_t hc9 rfl⟩
   ·skip
    refine JL.fieldAddr fo_62_1 rfl (.some rfl rfl rfl hc9) rfl ?_
    refine JL.fieldAddr fo_42_1 rfl (.some rfl rfl rfl hc9) rfl ?_
    refine JL.loadOwn 0 az_3 rfl rfl rfl (.some rfl rfl rfl hc9) rfl ?_
    refine JL.bin rfl rfl rfl (.some rfl rfl rfl hc9) rfl ?_
    refine JL.pick_f (b := p4) rfl hc9 .none rfl ?_
    exact hJ8 _ ⟨rfl, or_f hc9 rfl⟩
  ·rintro f ⟨hf2, hf28⟩
   refine (JL.norm (i := 2) hf2 (JL.norm (i := 28) hf28 ?_))
   refine JL.move .none rfl ?_
   refine JL.cut 9 (fun f => f 38 = .bool ((p4 || (decide (99 < b.Force.High))) || (decide (9 < (w64 (b.Force.High - b.Force.Low)))))) ?_ ?_
   ·intro hJ10
    rcases bcases (p4 || (decide (99 < b.Force.High))) with hc11 | hc11
    ·skip
     refine JL.skip (.bool rfl rfl rfl hc11) rfl ?_
     refine JL.skip (.bool rfl rfl rfl hc11) rfl ?_
     refine JL.skip (.bool rfl rfl rfl hc11) rfl ?_
     refine JL.skip (.bool rfl rfl rfl hc11) rfl ?_
     refine JL.skip (.bool rfl rfl rfl hc11) rfl ?_
     refine JL.skip (.bool rfl rfl rfl hc11) rfl ?_
     refine JL.skip (.bool rfl rfl rfl hc11) rfl ?_
     refine JL.skip (.bool rfl rfl rfl hc11) rfl ?_
     refine JL.pick_t (b := (p4 || (decide (99 < b.Force.High)))) rfl hc11 .none rfl ?_
     exact hJ10 _ (or_t hc11 rfl)
    ·skip
     refine JL.fieldAddr fo_62_1 rfl (.some rfl rfl rfl hc11) rfl ?_
     refine JL.fieldAddr fo_42_1 rfl (.some rfl rfl rfl hc11) rfl ?_
     refine JL.loadOwn 0 az_3 rfl rfl rfl (.some rfl rfl rfl hc11) rfl ?_
     refine JL.fieldAddr fo_62_1 rfl (.some rfl rfl rfl hc11) rfl ?_
     refine JL.fieldAddr fo_42_0 rfl (.some rfl rfl rfl hc11) rfl ?_
     refine JL.loadOwn 0 az_3 rfl rfl rfl (.some rfl rfl rfl hc11) rfl ?_
     refine JL.bin rfl rfl rfl (.some rfl rfl rfl hc11) rfl ?_
     refine JL.bin rfl rfl rfl (.some rfl rfl rfl hc11) rfl ?_
     refine JL.pick_f (b := (p4 || (decide (99 < b.Force.High)))) rfl hc11 .none rfl ?_
     exact hJ10 _ (or_f hc11 rfl)
   ·rintro f hf38
    refine (JL.norm (i := 38) hf38 ?_)
    refine JL.assign .none rfl ?_
    refine JL.done hQ ?_
    refine JQ.go ?_
    refine JC.ret ?_
    obtain rfl := Option.some.inj hF
    exact JQ.outS rfl (.tmp .nil) rfl
-- 61 ferrule/counts.Check$2
def F_counts_Check_2 (n : Nat) (m : Meter) : Option Bool :=
 (F_counts_within n m.Limit 0 99).bind fun y2 => (if (!y2) = true then (some true) else ((F_counts_within n m.Count 0 8).bind fun y7 => some (!y7)) : Option Bool).bind fun p4 => some p4
set_option maxRecDepth 100000 in
set_option maxHeartbeats 40000000 in
theorem c_counts_Check_2 (n : Nat) (H : Hp) (m : Meter) (y : Bool) (hF : F_counts_Check_2 n m = some y) : SC Tryz.prog 61 [.agg [.int .i64 m.Limit, .int .i64 m.Count].toArray] (.bool y) H := by
 rw [F_counts_Check_2] at hF
 refine SC.of (N := 13) Tryz.func61 rfl rfl rfl fun w => ?_
 refine JC.seq ?_
 refine JC.region (by rfl) ?_
 intro hQ
 refine JL.box (cs := [.int .i64 m.Limit, .int .i64 m.Count]) rfl .none rfl ?_
 intro b1
 refine JL.assign .none rfl ?_
 refine JL.done hQ ?_
 refine JQ.go ?_
 refine JC.seq ?_
 refine JC.region (by rfl) ?_
 intro hQ
 refine JL.fieldAddr fo_73_0 rfl .none rfl ?_
 refine JL.loadOwn 0 az_3 rfl rfl rfl .none rfl ?_
 obtain ⟨y2, hy2, hF⟩ := bind_some hF
 refine JL.callS (c_counts_within n H m.Limit 0 99 y2 hy2) rfl en_54 .none rfl ?_
 refine JL.not rfl .none rfl ?_
 refine JL.move .none rfl ?_
 obtain ⟨p4, hp4, hF⟩ := bind_some hF
 refine JL.cut 5 (fun f => f 12 = .bool p4) ?_ ?_
 ·intro hJ5
  rcases ite_some hp4 with ⟨hc6, hF⟩ | ⟨hc6, hF⟩
  ·skip
   refine JL.skip (.bool rfl rfl rfl hc6) rfl ?_
   refine JL.skip (.bool rfl rfl rfl hc6) rfl ?_
   refine JL.skip (.bool rfl rfl rfl hc6) rfl ?_
   refine JL.skip (.bool rfl rfl rfl hc6) rfl ?_
   refine JL.pick_t (b := (!y2)) rfl hc6 .none rfl ?_
   obtain rfl := Option.some.inj hF
   exact hJ5 _ (rfl)
  ·skip
   refine JL.fieldAddr fo_73_1 rfl (.some rfl rfl rfl hc6) rfl ?_
   refine JL.loadOwn 0 az_3 rfl rfl rfl (.some rfl rfl rfl hc6) rfl ?_
   obtain ⟨y7, hy7, hF⟩ := bind_some hF
   refine JL.callS (c_counts_within n H m.Count 0 8 y7 hy7) rfl en_54 (.some rfl rfl rfl hc6) rfl ?_
   refine JL.not rfl (.some rfl rfl rfl hc6) rfl ?_
   refine JL.pick_f (b := (!y2)) rfl hc6 .none rfl ?_
   obtain rfl := Option.some.inj hF
   exact hJ5 _ (rfl)
 ·rintro f hf12
  refine (JL.norm (i := 12) hf12 ?_)
  refine JL.assign .none rfl ?_
  refine JL.done hQ ?_
  refine JQ.go ?_
  refine JC.ret ?_
  obtain rfl := Option.some.inj hF
  exact JQ.outS rfl (.tmp .nil) rfl
-- 85 ferrule/gusts.within
def F_gusts_within (n : Nat) (n_ : Int) (low : Int) (high : Int) : Option Bool :=
 some ((decide (low ≤ n_)) && (decide (n_ ≤ high)))
set_option maxRecDepth 100000 in
set_option maxHeartbeats 40000000 in
theorem c_gusts_within (n : Nat) (H : Hp) (n_ : Int) (low : Int) (high : Int) (y : Bool) (hF : F_gusts_within n n_ low high = some y) : SC Tryz.prog 85 [.int .i64 n_, .int .i64 low, .int .i64 high] (.bool y) H := by
 rw [F_gusts_within] at hF
 refine SC.of (N := 15) Tryz.func85 rfl rfl rfl fun w => ?_
 refine JC.seq ?_
 refine JC.region (by rfl) ?_
 intro hQ
 refine JL.assign .none rfl ?_
 refine JL.done hQ ?_
 refine JQ.go ?_
 refine JC.seq ?_
 refine JC.region (by rfl) ?_
 intro hQ
 refine JL.move .none rfl ?_
 refine JL.move .none rfl ?_
 refine JL.bin rfl rfl rfl .none rfl ?_
 refine JL.move .none rfl ?_
 refine JL.cut 4 (fun f => f 14 = .bool ((decide (low ≤ n_)) && (decide (n_ ≤ high)))) ?_ ?_
 ·intro hJ1
  rcases bcases (decide (low ≤ n_)) with hc2 | hc2
  ·skip
   refine JL.move (.some rfl rfl rfl hc2) rfl ?_
   refine JL.move (.some rfl rfl rfl hc2) rfl ?_
   refine JL.bin rfl rfl rfl (.some rfl rfl rfl hc2) rfl ?_
   refine JL.pick_t (b := decide (low ≤ n_)) rfl hc2 .none rfl ?_
   exact hJ1 _ (and_t hc2 rfl)
  ·skip
   refine JL.skip (.bool rfl rfl rfl hc2) rfl ?_
   refine JL.skip (.bool rfl rfl rfl hc2) rfl ?_
   refine JL.skip (.bool rfl rfl rfl hc2) rfl ?_
   refine JL.pick_f (b := decide (low ≤ n_)) rfl hc2 .none rfl ?_
   exact hJ1 _ (and_f hc2 rfl)
 ·rintro f hf14
  refine (JL.norm (i := 14) hf14 ?_)
  refine JL.assign .none rfl ?_
  refine JL.done hQ ?_
  refine JQ.go ?_
  refine JC.ret ?_
  obtain rfl := Option.some.inj hF
  exact JQ.outS rfl (.tmp .nil) rfl
-- 84 ferrule/gusts.Check$1
def F_gusts_Check_1 (n : Nat) (s : Span) : Option Bool :=
 (F_gusts_within n s.Low 0 s.High).bind fun y2 => some ((!y2) || (decide (99999 < s.High)))
set_option maxRecDepth 100000 in
set_option maxHeartbeats 40000000 in
theorem c_gusts_Check_1 (n : Nat) (H : Hp) (s : Span) (y : Bool) (hF : F_gusts_Check_1 n s = some y) : SC Tryz.prog 84 [.agg [.int .i64 s.Low, .int .i64 s.High].toArray] (.bool y) H := by
 rw [F_gusts_Check_1] at hF
 refine SC.of (N := 14) Tryz.func84 rfl rfl rfl fun w => ?_
 refine JC.seq ?_
 refine JC.region (by rfl) ?_
 intro hQ
 refine JL.box (cs := [.int .i64 s.Low, .int .i64 s.High]) rfl .none rfl ?_
 intro b1
 refine JL.assign .none rfl ?_
 refine JL.done hQ ?_
 refine JQ.go ?_
 refine JC.seq ?_
 refine JC.region (by rfl) ?_
 intro hQ
 refine JL.fieldAddr fo_42_0 rfl .none rfl ?_
 refine JL.loadOwn 0 az_3 rfl rfl rfl .none rfl ?_
 refine JL.fieldAddr fo_42_1 rfl .none rfl ?_
 refine JL.loadOwn 0 az_3 rfl rfl rfl .none rfl ?_
 obtain ⟨y2, hy2, hF⟩ := bind_some hF
 refine JL.callS (c_gusts_within n H s.Low 0 s.High y2 hy2) rfl en_85 .none rfl ?_
 refine JL.not rfl .none rfl ?_
 refine JL.move .none rfl ?_
 refine JL.cut 4 (fun f => f 13 = .bool ((!y2) || (decide (99999 < s.High)))) ?_ ?_
 ·intro hJ3
  rcases bcases (!y2) with hc4 | hc4
  ·skip
   refine JL.skip (.bool rfl rfl rfl hc4) rfl ?_
   refine JL.skip (.bool rfl rfl rfl hc4) rfl ?_
   refine JL.skip (.bool rfl rfl rfl hc4) rfl ?_
   refine JL.pick_t (b := (!y2)) rfl hc4 .none rfl ?_
   exact hJ3 _ (or_t hc4 rfl)
  ·skip
   refine JL.fieldAddr fo_42_1 rfl (.some rfl rfl rfl hc4) rfl ?_
   refine JL.loadOwn 0 az_3 rfl rfl rfl (.some rfl rfl rfl hc4) rfl ?_
   refine JL.bin rfl rfl rfl (.some rfl rfl rfl hc4) rfl ?_
   refine JL.pick_f (b := (!y2)) rfl hc4 .none rfl ?_
   exact hJ3 _ (or_f hc4 rfl)
 ·rintro f hf13
  refine (JL.norm (i := 13) hf13 ?_)
  refine JL.assign .none rfl ?_
  refine JL.done hQ ?_
  refine JQ.go ?_
  refine JC.ret ?_
  obtain rfl := Option.some.inj hF
  exact JQ.outS rfl (.tmp .nil) rfl
-- 86 ferrule/gusts.Check$2
def F_gusts_Check_2 (n : Nat) (n_ : Int) : Option Bool :=
 (F_gusts_within n n_ 0 99).bind fun y1 => some (!y1)
set_option maxRecDepth 100000 in
set_option maxHeartbeats 40000000 in
theorem c_gusts_Check_2 (n : Nat) (H : Hp) (n_ : Int) (y : Bool) (hF : F_gusts_Check_2 n n_ = some y) : SC Tryz.prog 86 [.int .i64 n_] (.bool y) H := by
 rw [F_gusts_Check_2] at hF
 refine SC.of (N := 6) Tryz.func86 rfl rfl rfl fun w => ?_
 refine JC.seq ?_
 refine JC.region (by rfl) ?_
 intro hQ
 refine JL.assign .none rfl ?_
 refine JL.done hQ ?_
 refine JQ.go ?_
 refine JC.seq ?_
 refine JC.region (by rfl) ?_
 intro hQ
 refine JL.move .none rfl ?_
 obtain ⟨y1, hy1, hF⟩ := bind_some hF
 refine JL.callS (c_gusts_within n H n_ 0 99 y1 hy1) rfl en_85 .none rfl ?_
 refine JL.not rfl .none rfl ?_
 refine JL.assign .none rfl ?_
 refine JL.done hQ ?_
 refine JQ.go ?_
 refine JC.ret ?_
 obtain rfl := Option.some.inj hF
 exact JQ.outS rfl (.tmp .nil) rfl
-- 102 ferrule/frames.within
def F_frames_within (n : Nat) (n_ : Int) (low : Int) (high : Int) : Option Bool :=
 some ((decide (low ≤ n_)) && (decide (n_ ≤ high)))
set_option maxRecDepth 100000 in
set_option maxHeartbeats 40000000 in
theorem c_frames_within (n : Nat) (H : Hp) (n_ : Int) (low : Int) (high : Int) (y : Bool) (hF : F_frames_within n n_ low high = some y) : SC Tryz.prog 102 [.int .i64 n_, .int .i64 low, .int .i64 high] (.bool y) H := by
 rw [F_frames_within] at hF
 refine SC.of (N := 15) Tryz.func102 rfl rfl rfl fun w => ?_
 refine JC.seq ?_
 refine JC.region (by rfl) ?_
 intro hQ
 refine JL.assign .none rfl ?_
 refine JL.done hQ ?_
 refine JQ.go ?_
 refine JC.seq ?_
 refine JC.region (by rfl) ?_
 intro hQ
 refine JL.move .none rfl ?_
 refine JL.move .none rfl ?_
 refine JL.bin rfl rfl rfl .none rfl ?_
 refine JL.move .none rfl ?_
 refine JL.cut 4 (fun f => f 14 = .bool ((decide (low ≤ n_)) && (decide (n_ ≤ high)))) ?_ ?_
 ·intro hJ1
  rcases bcases (decide (low ≤ n_)) with hc2 | hc2
  ·skip
   refine JL.move (.some rfl rfl rfl hc2) rfl ?_
   refine JL.move (.some rfl rfl rfl hc2) rfl ?_
   refine JL.bin rfl rfl rfl (.some rfl rfl rfl hc2) rfl ?_
   refine JL.pick_t (b := decide (low ≤ n_)) rfl hc2 .none rfl ?_
   exact hJ1 _ (and_t hc2 rfl)
  ·skip
   refine JL.skip (.bool rfl rfl rfl hc2) rfl ?_
   refine JL.skip (.bool rfl rfl rfl hc2) rfl ?_
   refine JL.skip (.bool rfl rfl rfl hc2) rfl ?_
   refine JL.pick_f (b := decide (low ≤ n_)) rfl hc2 .none rfl ?_
   exact hJ1 _ (and_f hc2 rfl)
 ·rintro f hf14
  refine (JL.norm (i := 14) hf14 ?_)
  refine JL.assign .none rfl ?_
  refine JL.done hQ ?_
  refine JQ.go ?_
  refine JC.ret ?_
  obtain rfl := Option.some.inj hF
  exact JQ.outS rfl (.tmp .nil) rfl
-- 101 ferrule/frames.isPart
def F_frames_isPart (n : Nat) (s : Span) : Option Bool :=
 (F_frames_within n s.Low 1 s.High).bind fun y2 => some ((y2 && (decide (s.High ≤ 2000))) && (decide ((w64 (s.High - s.Low)) ≤ 6)))
set_option maxRecDepth 100000 in
set_option maxHeartbeats 40000000 in
theorem c_frames_isPart (n : Nat) (H : Hp) (s : Span) (y : Bool) (hF : F_frames_isPart n s = some y) : SC Tryz.prog 101 [.agg [.int .i64 s.Low, .int .i64 s.High].toArray] (.bool y) H := by
 rw [F_frames_isPart] at hF
 refine SC.of (N := 21) Tryz.func101 rfl rfl rfl fun w => ?_
 refine JC.seq ?_
 refine JC.region (by rfl) ?_
 intro hQ
 refine JL.box (cs := [.int .i64 s.Low, .int .i64 s.High]) rfl .none rfl ?_
 intro b1
 refine JL.assign .none rfl ?_
 refine JL.done hQ ?_
 refine JQ.go ?_
 refine JC.seq ?_
 refine JC.region (by rfl) ?_
 intro hQ
 refine JL.fieldAddr fo_42_0 rfl .none rfl ?_
 refine JL.loadOwn 0 az_3 rfl rfl rfl .none rfl ?_
 refine JL.fieldAddr fo_42_1 rfl .none rfl ?_
 refine JL.loadOwn 0 az_3 rfl rfl rfl .none rfl ?_
 obtain ⟨y2, hy2, hF⟩ := bind_some hF
 refine JL.callS (c_frames_within n H s.Low 1 s.High y2 hy2) rfl en_102 .none rfl ?_
 refine JL.move .none rfl ?_
 refine JL.cut 4 (fun f => f 1 = .pointer (some ⟨b1, 0, none⟩) ∧ f 12 = .bool (y2 && (decide (s.High ≤ 2000)))) ?_ ?_
 ·intro hJ3
  rcases bcases y2 with hc4 | hc4
  ·skip
   refine JL.fieldAddr fo_42_1 rfl (.some rfl rfl rfl hc4) rfl ?_
   refine JL.loadOwn 0 az_3 rfl rfl rfl (.some rfl rfl rfl hc4) rfl ?_
   refine JL.bin rfl rfl rfl (.some rfl rfl rfl hc4) rfl ?_
   refine JL.pick_t (b := y2) rfl hc4 .none rfl ?_
   exact hJ3 _ ⟨rfl, and_t hc4 rfl⟩
  ·skip
   refine JL.skip (.bool rfl rfl rfl hc4) rfl ?_
   refine JL.skip (.bool rfl rfl rfl hc4) rfl ?_
   refine JL.skip (.bool rfl rfl rfl hc4) rfl ?_
   refine JL.pick_f (b := y2) rfl hc4 .none rfl ?_
   exact hJ3 _ ⟨rfl, and_f hc4 rfl⟩
 ·rintro f ⟨hf1, hf12⟩
  refine (JL.norm (i := 1) hf1 (JL.norm (i := 12) hf12 ?_))
  refine JL.move .none rfl ?_
  refine JL.cut 7 (fun f => f 20 = .bool ((y2 && (decide (s.High ≤ 2000))) && (decide ((w64 (s.High - s.Low)) ≤ 6)))) ?_ ?_
  ·intro hJ5
   rcases bcases (y2 && (decide (s.High ≤ 2000))) with hc6 | hc6
   ·skip
    refine JL.fieldAddr fo_42_1 rfl (.some rfl rfl rfl hc6) rfl ?_
    refine JL.loadOwn 0 az_3 rfl rfl rfl (.some rfl rfl rfl hc6) rfl ?_
    refine JL.fieldAddr fo_42_0 rfl (.some rfl rfl rfl hc6) rfl ?_
    refine JL.loadOwn 0 az_3 rfl rfl rfl (.some rfl rfl rfl hc6) rfl ?_
    refine JL.bin rfl rfl rfl (.some rfl rfl rfl hc6) rfl ?_
    refine JL.bin rfl rfl rfl (.some rfl rfl rfl hc6) rfl ?_
    refine JL.pick_t (b := (y2 && (decide (s.High ≤ 2000)))) rfl hc6 .none rfl ?_
    exact hJ5 _ (and_t hc6 rfl)
   ·skip
    refine JL.skip (.bool rfl rfl rfl hc6) rfl ?_
    refine JL.skip (.bool rfl rfl rfl hc6) rfl ?_
    refine JL.skip (.bool rfl rfl rfl hc6) rfl ?_
    refine JL.skip (.bool rfl rfl rfl hc6) rfl ?_
    refine JL.skip (.bool rfl rfl rfl hc6) rfl ?_
    refine JL.skip (.bool rfl rfl rfl hc6) rfl ?_
    refine JL.pick_f (b := (y2 && (decide (s.High ≤ 2000)))) rfl hc6 .none rfl ?_
    exact hJ5 _ (and_f hc6 rfl)
  ·rintro f hf20
   refine (JL.norm (i := 20) hf20 ?_)
   refine JL.assign .none rfl ?_
   refine JL.done hQ ?_
   refine JQ.go ?_
   refine JC.ret ?_
   obtain rfl := Option.some.inj hF
   exact JQ.outS rfl (.tmp .nil) rfl
-- 103 ferrule/frames.isShare
def F_frames_isShare (n : Nat) (f_ : Frac) : Option Bool :=
 (F_frames_within n f_.Den 1 20).bind fun y2 => (if y2 = true then ((F_frames_within n f_.Num 0 f_.Den).bind fun y7 => some y7) else (some false) : Option Bool).bind fun p4 => some p4
set_option maxRecDepth 100000 in
set_option maxHeartbeats 40000000 in
theorem c_frames_isShare (n : Nat) (H : Hp) (f_ : Frac) (y : Bool) (hF : F_frames_isShare n f_ = some y) : SC Tryz.prog 103 [.agg [.int .i64 f_.Num, .int .i64 f_.Den].toArray] (.bool y) H := by
 rw [F_frames_isShare] at hF
 refine SC.of (N := 13) Tryz.func103 rfl rfl rfl fun w => ?_
 refine JC.seq ?_
 refine JC.region (by rfl) ?_
 intro hQ
 refine JL.box (cs := [.int .i64 f_.Num, .int .i64 f_.Den]) rfl .none rfl ?_
 intro b1
 refine JL.assign .none rfl ?_
 refine JL.done hQ ?_
 refine JQ.go ?_
 refine JC.seq ?_
 refine JC.region (by rfl) ?_
 intro hQ
 refine JL.fieldAddr fo_24_1 rfl .none rfl ?_
 refine JL.loadOwn 0 az_3 rfl rfl rfl .none rfl ?_
 obtain ⟨y2, hy2, hF⟩ := bind_some hF
 refine JL.callS (c_frames_within n H f_.Den 1 20 y2 hy2) rfl en_102 .none rfl ?_
 refine JL.move .none rfl ?_
 obtain ⟨p4, hp4, hF⟩ := bind_some hF
 refine JL.cut 6 (fun f => f 12 = .bool p4) ?_ ?_
 ·intro hJ5
  rcases ite_some hp4 with ⟨hc6, hF⟩ | ⟨hc6, hF⟩
  ·skip
   refine JL.fieldAddr fo_24_0 rfl (.some rfl rfl rfl hc6) rfl ?_
   refine JL.loadOwn 0 az_3 rfl rfl rfl (.some rfl rfl rfl hc6) rfl ?_
   refine JL.fieldAddr fo_24_1 rfl (.some rfl rfl rfl hc6) rfl ?_
   refine JL.loadOwn 0 az_3 rfl rfl rfl (.some rfl rfl rfl hc6) rfl ?_
   obtain ⟨y7, hy7, hF⟩ := bind_some hF
   refine JL.callS (c_frames_within n H f_.Num 0 f_.Den y7 hy7) rfl en_102 (.some rfl rfl rfl hc6) rfl ?_
   refine JL.pick_t (b := y2) rfl hc6 .none rfl ?_
   obtain rfl := Option.some.inj hF
   exact hJ5 _ (rfl)
  ·skip
   refine JL.skip (.bool rfl rfl rfl hc6) rfl ?_
   refine JL.skip (.bool rfl rfl rfl hc6) rfl ?_
   refine JL.skip (.bool rfl rfl rfl hc6) rfl ?_
   refine JL.skip (.bool rfl rfl rfl hc6) rfl ?_
   refine JL.skip (.bool rfl rfl rfl hc6) rfl ?_
   refine JL.pick_f (b := y2) rfl hc6 .none rfl ?_
   obtain rfl := Option.some.inj hF
   exact hJ5 _ (rfl)
 ·rintro f hf12
  refine (JL.norm (i := 12) hf12 ?_)
  refine JL.assign .none rfl ?_
  refine JL.done hQ ?_
  refine JQ.go ?_
  refine JC.ret ?_
  obtain rfl := Option.some.inj hF
  exact JQ.outS rfl (.tmp .nil) rfl
-- 100 ferrule/frames.Check$1
def F_frames_Check_1 (n : Nat) (s : Section) : Option Bool :=
 (F_frames_isPart n s.Arm).bind fun y2 => (if (!y2) = true then (some true) else ((F_frames_isPart n s.Stretch).bind fun y7 => some (!y7)) : Option Bool).bind fun p4 => (if p4 = true then (some true) else ((F_frames_within n s.Base 0 2000).bind fun y12 => some (!y12)) : Option Bool).bind fun p9 => (if p9 = true then (some true) else ((F_frames_isShare n s.Gear).bind fun y17 => some (!y17)) : Option Bool).bind fun p14 => some p14
set_option maxRecDepth 100000 in
set_option maxHeartbeats 40000000 in
theorem c_frames_Check_1 (n : Nat) (H : Hp) (s : Section) (y : Bool) (hF : F_frames_Check_1 n s = some y) : SC Tryz.prog 100 [.agg [.int .i64 s.Arm.Low, .int .i64 s.Arm.High, .int .i64 s.Stretch.Low, .int .i64 s.Stretch.High, .int .i64 s.Base, .int .i64 s.Gear.Num, .int .i64 s.Gear.Den].toArray] (.bool y) H := by
 rw [F_frames_Check_1] at hF
 refine SC.of (N := 25) Tryz.func100 rfl rfl rfl fun w => ?_
 refine JC.seq ?_
 refine JC.region (by rfl) ?_
 intro hQ
 refine JL.box (cs := [.int .i64 s.Arm.Low, .int .i64 s.Arm.High, .int .i64 s.Stretch.Low, .int .i64 s.Stretch.High, .int .i64 s.Base, .int .i64 s.Gear.Num, .int .i64 s.Gear.Den]) rfl .none rfl ?_
 intro b1
 refine JL.assign .none rfl ?_
 refine JL.done hQ ?_
 refine JQ.go ?_
 refine JC.seq ?_
 refine JC.region (by rfl) ?_
 intro hQ
 refine JL.fieldAddr fo_124_0 rfl .none rfl ?_
 refine JL.loadOwn 0 az_42 rfl rfl rfl .none rfl ?_
 obtain ⟨y2, hy2, hF⟩ := bind_some hF
 refine JL.callS (c_frames_isPart n H s.Arm y2 hy2) rfl en_101 .none rfl ?_
 refine JL.not rfl .none rfl ?_
 refine JL.move .none rfl ?_
 obtain ⟨p4, hp4, hF⟩ := bind_some hF
 refine JL.cut 5 (fun f => f 1 = .pointer (some ⟨b1, 0, none⟩) ∧ f 12 = .bool p4) ?_ ?_
 ·intro hJ5
  rcases ite_some hp4 with ⟨hc6, hF⟩ | ⟨hc6, hF⟩
  ·skip
   refine JL.skip (.bool rfl rfl rfl hc6) rfl ?_
   refine JL.skip (.bool rfl rfl rfl hc6) rfl ?_
   refine JL.skip (.bool rfl rfl rfl hc6) rfl ?_
   refine JL.skip (.bool rfl rfl rfl hc6) rfl ?_
   refine JL.pick_t (b := (!y2)) rfl hc6 .none rfl ?_
   obtain rfl := Option.some.inj hF
   exact hJ5 _ ⟨rfl, rfl⟩
  ·skip
   refine JL.fieldAddr fo_124_1 rfl (.some rfl rfl rfl hc6) rfl ?_
   refine JL.loadOwn 0 az_42 rfl rfl rfl (.some rfl rfl rfl hc6) rfl ?_
   obtain ⟨y7, hy7, hF⟩ := bind_some hF
   refine JL.callS (c_frames_isPart n H s.Stretch y7 hy7) rfl en_101 (.some rfl rfl rfl hc6) rfl ?_
   refine JL.not rfl (.some rfl rfl rfl hc6) rfl ?_
   refine JL.pick_f (b := (!y2)) rfl hc6 .none rfl ?_
   obtain rfl := Option.some.inj hF
   exact hJ5 _ ⟨rfl, rfl⟩
 ·rintro f ⟨hf1, hf12⟩
  refine (JL.norm (i := 1) hf1 (JL.norm (i := 12) hf12 ?_))
  refine JL.move .none rfl ?_
  obtain ⟨p9, hp9, hF⟩ := bind_some hF
  refine JL.cut 5 (fun f => f 1 = .pointer (some ⟨b1, 0, none⟩) ∧ f 18 = .bool p9) ?_ ?_
  ·intro hJ10
   rcases ite_some hp9 with ⟨hc11, hF⟩ | ⟨hc11, hF⟩
   ·skip
    refine JL.skip (.bool rfl rfl rfl hc11) rfl ?_
    refine JL.skip (.bool rfl rfl rfl hc11) rfl ?_
    refine JL.skip (.bool rfl rfl rfl hc11) rfl ?_
    refine JL.skip (.bool rfl rfl rfl hc11) rfl ?_
    refine JL.pick_t (b := p4) rfl hc11 .none rfl ?_
    obtain rfl := Option.some.inj hF
    exact hJ10 _ ⟨rfl, rfl⟩
   ·skip
    refine JL.fieldAddr fo_124_2 rfl (.some rfl rfl rfl hc11) rfl ?_
    refine JL.loadOwn 0 az_3 rfl rfl rfl (.some rfl rfl rfl hc11) rfl ?_
    obtain ⟨y12, hy12, hF⟩ := bind_some hF
    refine JL.callS (c_frames_within n H s.Base 0 2000 y12 hy12) rfl en_102 (.some rfl rfl rfl hc11) rfl ?_
    refine JL.not rfl (.some rfl rfl rfl hc11) rfl ?_
    refine JL.pick_f (b := p4) rfl hc11 .none rfl ?_
    obtain rfl := Option.some.inj hF
    exact hJ10 _ ⟨rfl, rfl⟩
  ·rintro f ⟨hf1, hf18⟩
   refine (JL.norm (i := 1) hf1 (JL.norm (i := 18) hf18 ?_))
   refine JL.move .none rfl ?_
   obtain ⟨p14, hp14, hF⟩ := bind_some hF
   refine JL.cut 5 (fun f => f 24 = .bool p14) ?_ ?_
   ·intro hJ15
    rcases ite_some hp14 with ⟨hc16, hF⟩ | ⟨hc16, hF⟩
    ·skip
     refine JL.skip (.bool rfl rfl rfl hc16) rfl ?_
     refine JL.skip (.bool rfl rfl rfl hc16) rfl ?_
     refine JL.skip (.bool rfl rfl rfl hc16) rfl ?_
     refine JL.skip (.bool rfl rfl rfl hc16) rfl ?_
     refine JL.pick_t (b := p9) rfl hc16 .none rfl ?_
     obtain rfl := Option.some.inj hF
     exact hJ15 _ (rfl)
    ·skip
     refine JL.fieldAddr fo_124_3 rfl (.some rfl rfl rfl hc16) rfl ?_
     refine JL.loadOwn 0 az_24 rfl rfl rfl (.some rfl rfl rfl hc16) rfl ?_
     obtain ⟨y17, hy17, hF⟩ := bind_some hF
     refine JL.callS (c_frames_isShare n H s.Gear y17 hy17) rfl en_103 (.some rfl rfl rfl hc16) rfl ?_
     refine JL.not rfl (.some rfl rfl rfl hc16) rfl ?_
     refine JL.pick_f (b := p9) rfl hc16 .none rfl ?_
     obtain rfl := Option.some.inj hF
     exact hJ15 _ (rfl)
   ·rintro f hf24
    refine (JL.norm (i := 24) hf24 ?_)
    refine JL.assign .none rfl ?_
    refine JL.done hQ ?_
    refine JQ.go ?_
    refine JC.ret ?_
    obtain rfl := Option.some.inj hF
    exact JQ.outS rfl (.tmp .nil) rfl
-- 116 slices.IndexFunc[[]ferrule/api.Section,ferrule/api.Section]
def F_slices_IndexFunc___api_Section_api_Section__s1 (n : Nat) (s : List Section) (f_ : Section → Option Bool) : Int → Option (Int ⊕ (Int ⊕ Unit))
 | x_55 => if decide (x_55 < (s.length : Int)) = true then ((geti s x_55).bind fun y60 => (f_ y60).bind fun y65 => if y65 = true then (some (Sum.inr (Sum.inl x_55))) else (some (Sum.inl (w64 (x_55 + 1))))) else (some (Sum.inr (Sum.inr ())))
def F_slices_IndexFunc___api_Section_api_Section_ (n : Nat) (s : List Section) (f_ : Section → Option Bool) : Option Int :=
 (loopO n (F_slices_IndexFunc___api_Section_api_Section__s1 n s f_) 0).bind fun r34 => match r34 with | .inl o => some o | .inr _ => some (-1)
set_option maxRecDepth 100000 in
set_option maxHeartbeats 40000000 in
theorem c_slices_IndexFunc___api_Section_api_Section_ (n : Nat) (H : Hp) (s : List Section) (s_v0 : Value) (hs_0 : SL H 7 R_Section s_v0 s) (f_ : Section → Option Bool) (f__k : Nat) (f__c : List Value) (f__e : Ent Tryz.prog f__k) (f__h : ∀ H', HSub H H' → ∀ (a0_ : Section) (y : Bool), f_ a0_ = some y → SC Tryz.prog f__k ([.agg [.int .i64 a0_.Arm.Low, .int .i64 a0_.Arm.High, .int .i64 a0_.Stretch.Low, .int .i64 a0_.Stretch.High, .int .i64 a0_.Base, .int .i64 a0_.Gear.Num, .int .i64 a0_.Gear.Den].toArray] ++ f__c) (.bool y) H') (y : Int) (hF : F_slices_IndexFunc___api_Section_api_Section_ n s f_ = some y) : SC Tryz.prog 116 [s_v0, .func (.func f__k) #[] f__c.toArray] (.int .i64 y) H := by
 rw [F_slices_IndexFunc___api_Section_api_Section_] at hF
 refine SC.of (N := 19) Tryz.func116 rfl rfl rfl fun w => ?_
 refine JC.seq ?_
 refine JC.region (by rfl) ?_
 intro hQ
 refine JL.assign .none rfl ?_
 refine JL.done hQ ?_
 refine JQ.go ?_
 refine JC.seq ?_
 refine JC.seq ?_
 refine JC.region (by rfl) ?_
 intro hQ
 refine JL.move .none rfl ?_
 refine JL.lenSL (R := R_Section) ul_22 hs_0 .none rfl ?_
 refine JL.move .none rfl ?_
 refine JL.done hQ ?_
 refine JQ.go ?_
 obtain ⟨r34, hlr34, hKr34⟩ := bind_some hF
 refine JC.join (fun (_ : Unit) H33 f bs gs => bs = [] ∧ gs = [] ∧ HSub H H33 ∧ Sum.inr () = r34) ?_ ?_
 ·skip
  refine JC.block ?_
  refine JC.loop hlr34 (fun (x_55 : Int) H56 f bs gs => f 0 = s_v0 ∧ f 1 = .func (.func f__k) #[] f__c.toArray ∧ f 7 = .int .i64 (s.length : Int) ∧ f 8 = .int .i64 x_55 ∧ bs = [] ∧ gs = [] ∧ HSub H H56) ⟨rfl, rfl, rfl, rfl, rfl, rfl, (HSub.refl _)⟩ ?_
  rintro x_55 x58 H56 f bs gs ⟨hf0, hf1, hf7, hf8, rfl, rfl, hs56⟩ hF hr57
  rw [F_slices_IndexFunc___api_Section_api_Section__s1] at hF
  refine (JC.norm (i := 0) hf0 (JC.norm (i := 1) hf1 (JC.norm (i := 7) hf7 (JC.norm (i := 8) hf8 ?_))))
  refine JC.seq ?_
  refine JC.region (by rfl) ?_
  intro hQ
  refine JL.bin rfl rfl rfl .none rfl ?_
  refine JL.done hQ ?_
  refine JQ.go ?_
  refine JC.seq ?_
  rcases ite_some hF with ⟨hc59, hF⟩ | ⟨hc59, hF⟩
  ·refine JC.cond_t (b := decide (x_55 < (s.length : Int))) rfl hc59 ?_
   refine JC.skip ?_
   refine JQ.go ?_
   refine JC.seq ?_
   refine JC.block ?_
   refine JC.seq ?_
   refine JC.region (by rfl) ?_
   intro hQ
   refine JL.move .none rfl ?_
   refine JL.assign .none rfl ?_
   refine JL.done hQ ?_
   refine JQ.go ?_
   refine JC.seq ?_
   refine JC.region (by rfl) ?_
   intro hQ
   refine JL.move .none rfl ?_
   refine JL.move .none rfl ?_
   refine JL.move .none rfl ?_
   obtain ⟨y60, hy60, hF⟩ := bind_some hF
   refine JL.indexSL (R := R_Section) sl_22 (SL.mono R_Section_mono hs56 hs_0) rfl hy60 .none rfl ?_
   rintro b61 o62 cs63 hc64 - rfl
   refine JL.loadH 0 az_124 rfl hc64 rfl .none rfl ?_
   obtain ⟨y65, hy65, hF⟩ := bind_some hF
   refine JL.callV rfl (f__h H56 hs56 y60 y65 hy65) rfl f__e .none rfl ?_
   refine JL.done hQ ?_
   refine JQ.go ?_
   rcases ite_some hF with ⟨hc66, hF⟩ | ⟨hc66, hF⟩
   ·refine JC.cond_t (b := y65) rfl hc66 ?_
    refine JC.seq ?_
    refine JC.region (by rfl) ?_
    intro hQ
    refine JL.move .none rfl ?_
    refine JL.assign .none rfl ?_
    refine JL.done hQ ?_
    refine JQ.go ?_
    refine JC.fresh (fun f => f 4 = .int .i64 x_55) rfl ?_
    rintro f hf4
    refine (JC.norm (i := 4) hf4 ?_)
    refine JC.ret ?_
    refine JQ.ret_block ?_
    refine JQ.ret_then ?_
    refine JQ.ret_then ?_
    refine JQ.ret_block ?_
    refine JQ.ret_join ?_
    refine JQ.ret_then ?_
    obtain rfl := Option.some.inj hF
    have ehr57 := hr57 _ rfl
    subst ehr57
    have hF := hKr34
    try dsimp only at hF
    obtain rfl := Option.some.inj hF
    exact JQ.outS rfl (.tmp .nil) rfl
   ·refine JC.cond_f (b := y65) rfl hc66 ?_
    refine JC.skip ?_
    refine JQ.normal_block ?_
    refine JQ.go ?_
    refine JC.region (by rfl) ?_
    intro hQ
    refine JL.bin rfl rfl rfl .none rfl ?_
    refine JL.move .none rfl ?_
    refine JL.done hQ ?_
    obtain rfl := Option.some.inj hF
    exact JQ.next rfl ⟨rfl, rfl, rfl, rfl, rfl, rfl, hs56⟩
  ·refine JC.cond_f (b := decide (x_55 < (s.length : Int))) rfl hc59 ?_
   refine JC.exit ?_
   refine JQ.exit_then ?_
   refine JQ.exit_then ?_
   refine JQ.exit_block ?_
   obtain rfl := Option.some.inj hF
   have ehr57 := hr57 _ rfl
   subst ehr57
   exact JQ.join () ⟨rfl, rfl, hs56, rfl⟩
 ·rintro _ H33 f bs gs ⟨rfl, rfl, hs33, rfl⟩
  have hF := hKr34
  try dsimp only at hF
  refine JQ.go ?_
  refine JC.seq ?_
  refine JC.region (by rfl) ?_
  intro hQ
  refine JL.assign .none rfl ?_
  refine JL.done hQ ?_
  refine JQ.go ?_
  refine JC.ret ?_
  obtain rfl := Option.some.inj hF
  exact JQ.outS rfl (.tmp .nil) rfl
-- 104 slices.ContainsFunc[[]ferrule/api.Section,ferrule/api.Section]
def F_slices_ContainsFunc___api_Section_api_Section_ (n : Nat) (s : List Section) (f_ : Section → Option Bool) : Option Bool :=
 (F_slices_IndexFunc___api_Section_api_Section_ n s f_).bind fun y1 => some (decide (0 ≤ y1))
set_option maxRecDepth 100000 in
set_option maxHeartbeats 40000000 in
theorem c_slices_ContainsFunc___api_Section_api_Section_ (n : Nat) (H : Hp) (s : List Section) (s_v0 : Value) (hs_0 : SL H 7 R_Section s_v0 s) (f_ : Section → Option Bool) (f__k : Nat) (f__c : List Value) (f__e : Ent Tryz.prog f__k) (f__h : ∀ H', HSub H H' → ∀ (a0_ : Section) (y : Bool), f_ a0_ = some y → SC Tryz.prog f__k ([.agg [.int .i64 a0_.Arm.Low, .int .i64 a0_.Arm.High, .int .i64 a0_.Stretch.Low, .int .i64 a0_.Stretch.High, .int .i64 a0_.Base, .int .i64 a0_.Gear.Num, .int .i64 a0_.Gear.Den].toArray] ++ f__c) (.bool y) H') (y : Bool) (hF : F_slices_ContainsFunc___api_Section_api_Section_ n s f_ = some y) : SC Tryz.prog 104 [s_v0, .func (.func f__k) #[] f__c.toArray] (.bool y) H := by
 rw [F_slices_ContainsFunc___api_Section_api_Section_] at hF
 refine SC.of (N := 9) Tryz.func104 rfl rfl rfl fun w => ?_
 refine JC.seq ?_
 refine JC.region (by rfl) ?_
 intro hQ
 refine JL.assign .none rfl ?_
 refine JL.done hQ ?_
 refine JQ.go ?_
 refine JC.seq ?_
 refine JC.region (by rfl) ?_
 intro hQ
 refine JL.move .none rfl ?_
 refine JL.move .none rfl ?_
 obtain ⟨y1, hy1, hF⟩ := bind_some hF
 refine JL.callS (c_slices_IndexFunc___api_Section_api_Section_ n H s s_v0 hs_0 f_ f__k f__c f__e (fun H' hs' => f__h H' hs') y1 hy1) rfl en_116 .none rfl ?_
 refine JL.bin rfl rfl rfl .none rfl ?_
 refine JL.assign .none rfl ?_
 refine JL.done hQ ?_
 refine JQ.go ?_
 refine JC.ret ?_
 obtain rfl := Option.some.inj hF
 exact JQ.outS rfl (.tmp .nil) rfl
-- 87 ferrule/frames.Check
def F_frames_Check (n : Nat) (f_ : Frame) : Option Int :=
 (F_frames_within n f_.Low 1 f_.High).bind fun y2 => (F_frames_within n (f_.Sections.length : Int) 1 3).bind fun y7 => (if (!y7) = true then (some true) else ((F_slices_ContainsFunc___api_Section_api_Section_ n f_.Sections (fun a0_ => F_frames_Check_1 n a0_)).bind fun y12 => some y12) : Option Bool).bind fun p9 => (if (p9 || (!((y2 && (decide (f_.High ≤ 2000))) && (decide ((w64 (f_.High - f_.Low)) ≤ 200))))) = true then (some true) else ((F_frames_isShare n f_.Ease).bind fun y19 => some (!y19)) : Option Bool).bind fun p16 => (if p16 = true then (some true) else ((F_frames_within n f_.Rod 0 4000).bind fun y24 => some (!y24)) : Option Bool).bind fun p21 => (if p21 = true then (some true) else ((F_frames_within n f_.Case 0 4000).bind fun y29 => some (!y29)) : Option Bool).bind fun p26 => if p26 = true then (some 10) else (some 0)
set_option maxRecDepth 100000 in
set_option maxHeartbeats 40000000 in
theorem c_frames_Check (n : Nat) (H : Hp) (f_ : Frame) (f__v0 : Value) (hf__0 : SL H 7 R_Section f__v0 f_.Sections) (y : Int) (hF : F_frames_Check n f_ = some y) : SC Tryz.prog 87 [.agg [f__v0, .int .i64 f_.Low, .int .i64 f_.High, .int .i64 f_.Ease.Num, .int .i64 f_.Ease.Den, .int .i64 f_.Rod, .int .i64 f_.Case].toArray] (.int .i64 y) H := by
 rw [F_frames_Check] at hF
 refine SC.of (N := 56) Tryz.func87 rfl rfl rfl fun w => ?_
 refine JC.seq ?_
 refine JC.region (by rfl) ?_
 intro hQ
 refine JL.box (cs := [f__v0, .int .i64 f_.Low, .int .i64 f_.High, .int .i64 f_.Ease.Num, .int .i64 f_.Ease.Den, .int .i64 f_.Rod, .int .i64 f_.Case]) rfl .none rfl ?_
 intro b1
 refine JL.assign .none rfl ?_
 refine JL.done hQ ?_
 refine JQ.go ?_
 refine JC.seq ?_
 refine JC.region (by rfl) ?_
 intro hQ
 refine JL.assign .none rfl ?_
 refine JL.done hQ ?_
 refine JQ.go ?_
 refine JC.seq ?_
 refine JC.region (by rfl) ?_
 intro hQ
 refine JL.fieldAddr fo_26_1 rfl .none rfl ?_
 refine JL.loadOwn 0 az_3 rfl rfl rfl .none rfl ?_
 refine JL.fieldAddr fo_26_2 rfl .none rfl ?_
 refine JL.loadOwn 0 az_3 rfl rfl rfl .none rfl ?_
 obtain ⟨y2, hy2, hF⟩ := bind_some hF
 refine JL.callS (c_frames_within n H f_.Low 1 f_.High y2 hy2) rfl en_102 .none rfl ?_
 refine JL.move .none rfl ?_
 refine JL.cut 4 (fun f => f 1 = .pointer (some ⟨b1, 0, none⟩) ∧ f 3 = .func (.func 100) #[] [].toArray ∧ f 14 = .bool (y2 && (decide (f_.High ≤ 2000)))) ?_ ?_
 ·intro hJ3
  rcases bcases y2 with hc4 | hc4
  ·skip
   refine JL.fieldAddr fo_26_2 rfl (.some rfl rfl rfl hc4) rfl ?_
   refine JL.loadOwn 0 az_3 rfl rfl rfl (.some rfl rfl rfl hc4) rfl ?_
   refine JL.bin rfl rfl rfl (.some rfl rfl rfl hc4) rfl ?_
   refine JL.pick_t (b := y2) rfl hc4 .none rfl ?_
   exact hJ3 _ ⟨rfl, rfl, and_t hc4 rfl⟩
  ·skip
   refine JL.skip (.bool rfl rfl rfl hc4) rfl ?_
   refine JL.skip (.bool rfl rfl rfl hc4) rfl ?_
   refine JL.skip (.bool rfl rfl rfl hc4) rfl ?_
   refine JL.pick_f (b := y2) rfl hc4 .none rfl ?_
   exact hJ3 _ ⟨rfl, rfl, and_f hc4 rfl⟩
 ·rintro f ⟨hf1, hf3, hf14⟩
  refine (JL.norm (i := 1) hf1 (JL.norm (i := 3) hf3 (JL.norm (i := 14) hf14 ?_)))
  refine JL.move .none rfl ?_
  refine JL.cut 7 (fun f => f 1 = .pointer (some ⟨b1, 0, none⟩) ∧ f 3 = .func (.func 100) #[] [].toArray ∧ f 22 = .bool ((y2 && (decide (f_.High ≤ 2000))) && (decide ((w64 (f_.High - f_.Low)) ≤ 200)))) ?_ ?_
  ·intro hJ5
   rcases bcases (y2 && (decide (f_.High ≤ 2000))) with hc6 | hc6
   ·skip
    refine JL.fieldAddr fo_26_2 rfl (.some rfl rfl rfl hc6) rfl ?_
    refine JL.loadOwn 0 az_3 rfl rfl rfl (.some rfl rfl rfl hc6) rfl ?_
    refine JL.fieldAddr fo_26_1 rfl (.some rfl rfl rfl hc6) rfl ?_
    refine JL.loadOwn 0 az_3 rfl rfl rfl (.some rfl rfl rfl hc6) rfl ?_
    refine JL.bin rfl rfl rfl (.some rfl rfl rfl hc6) rfl ?_
    refine JL.bin rfl rfl rfl (.some rfl rfl rfl hc6) rfl ?_
    refine JL.pick_t (b := (y2 && (decide (f_.High ≤ 2000)))) rfl hc6 .none rfl ?_
    exact hJ5 _ ⟨rfl, rfl, and_t hc6 rfl⟩
   ·skip
    refine JL.skip (.bool rfl rfl rfl hc6) rfl ?_
    refine JL.skip (.bool rfl rfl rfl hc6) rfl ?_
    refine JL.skip (.bool rfl rfl rfl hc6) rfl ?_
    refine JL.skip (.bool rfl rfl rfl hc6) rfl ?_
    refine JL.skip (.bool rfl rfl rfl hc6) rfl ?_
    refine JL.skip (.bool rfl rfl rfl hc6) rfl ?_
    refine JL.pick_f (b := (y2 && (decide (f_.High ≤ 2000)))) rfl hc6 .none rfl ?_
    exact hJ5 _ ⟨rfl, rfl, and_f hc6 rfl⟩
  ·rintro f ⟨hf1, hf3, hf22⟩
   refine (JL.norm (i := 1) hf1 (JL.norm (i := 3) hf3 (JL.norm (i := 22) hf22 ?_)))
   refine JL.assign .none rfl ?_
   refine JL.done hQ ?_
   refine JQ.go ?_
   refine JC.seq ?_
   refine JC.seq ?_
   refine JC.region (by rfl) ?_
   intro hQ
   refine JL.fieldAddr fo_26_0 rfl .none rfl ?_
   refine JL.loadOwn 0 az_22 rfl rfl rfl .none rfl ?_
   refine JL.lenSL (R := R_Section) ul_22 hf__0 .none rfl ?_
   obtain ⟨y7, hy7, hF⟩ := bind_some hF
   refine JL.callS (c_frames_within n H (f_.Sections.length : Int) 1 3 y7 hy7) rfl en_102 .none rfl ?_
   refine JL.not rfl .none rfl ?_
   refine JL.move .none rfl ?_
   obtain ⟨p9, hp9, hF⟩ := bind_some hF
   refine JL.cut 5 (fun f => f 1 = .pointer (some ⟨b1, 0, none⟩) ∧ f 4 = .bool ((y2 && (decide (f_.High ≤ 2000))) && (decide ((w64 (f_.High - f_.Low)) ≤ 200))) ∧ f 33 = .bool p9) ?_ ?_
   ·intro hJ10
    rcases ite_some hp9 with ⟨hc11, hF⟩ | ⟨hc11, hF⟩
    ·skip
     refine JL.skip (.bool rfl rfl rfl hc11) rfl ?_
     refine JL.skip (.bool rfl rfl rfl hc11) rfl ?_
     refine JL.skip (.bool rfl rfl rfl hc11) rfl ?_
     refine JL.skip (.bool rfl rfl rfl hc11) rfl ?_
     refine JL.pick_t (b := (!y7)) rfl hc11 .none rfl ?_
     obtain rfl := Option.some.inj hF
     exact hJ10 _ ⟨rfl, rfl, rfl⟩
    ·skip
     refine JL.fieldAddr fo_26_0 rfl (.some rfl rfl rfl hc11) rfl ?_
     refine JL.loadOwn 0 az_22 rfl rfl rfl (.some rfl rfl rfl hc11) rfl ?_
     refine JL.move (.some rfl rfl rfl hc11) rfl ?_
     obtain ⟨y12, hy12, hF⟩ := bind_some hF
     refine JL.callS (c_slices_ContainsFunc___api_Section_api_Section_ n H f_.Sections f__v0 hf__0 (fun a0_ => F_frames_Check_1 n a0_) 100 [] en_100 (fun H' hs' a0_ y' hy' => c_frames_Check_1 n H' a0_ y' hy') y12 hy12) rfl en_104 (.some rfl rfl rfl hc11) rfl ?_
     refine JL.pick_f (b := (!y7)) rfl hc11 .none rfl ?_
     obtain rfl := Option.some.inj hF
     exact hJ10 _ ⟨rfl, rfl, rfl⟩
   ·rintro f ⟨hf1, hf4, hf33⟩
    refine (JL.norm (i := 1) hf1 (JL.norm (i := 4) hf4 (JL.norm (i := 33) hf33 ?_)))
    refine JL.move .none rfl ?_
    refine JL.cut 3 (fun f => f 1 = .pointer (some ⟨b1, 0, none⟩) ∧ f 37 = .bool (p9 || (!((y2 && (decide (f_.High ≤ 2000))) && (decide ((w64 (f_.High - f_.Low)) ≤ 200)))))) ?_ ?_
    ·intro hJ13
     rcases bcases p9 with hc14 | hc14
     ·skip
      refine JL.skip (.bool rfl rfl rfl hc14) rfl ?_
      refine JL.skip (.bool rfl rfl rfl hc14) rfl ?_
      refine JL.pick_t (b := p9) rfl hc14 .none rfl ?_
      exact hJ13 _ ⟨rfl, or_t hc14 rfl⟩
     ·skip
      refine JL.move (.some rfl rfl rfl hc14) rfl ?_
      refine JL.not rfl (.some rfl rfl rfl hc14) rfl ?_
      refine JL.pick_f (b := p9) rfl hc14 .none rfl ?_
      exact hJ13 _ ⟨rfl, or_f hc14 rfl⟩
    ·rintro f ⟨hf1, hf37⟩
     refine (JL.norm (i := 1) hf1 (JL.norm (i := 37) hf37 ?_))
     refine JL.move .none rfl ?_
     obtain ⟨p16, hp16, hF⟩ := bind_some hF
     refine JL.cut 5 (fun f => f 1 = .pointer (some ⟨b1, 0, none⟩) ∧ f 43 = .bool p16) ?_ ?_
     ·intro hJ17
      rcases ite_some hp16 with ⟨hc18, hF⟩ | ⟨hc18, hF⟩
      ·skip
       refine JL.skip (.bool rfl rfl rfl hc18) rfl ?_
       refine JL.skip (.bool rfl rfl rfl hc18) rfl ?_
       refine JL.skip (.bool rfl rfl rfl hc18) rfl ?_
       refine JL.skip (.bool rfl rfl rfl hc18) rfl ?_
       refine JL.pick_t (b := (p9 || (!((y2 && (decide (f_.High ≤ 2000))) && (decide ((w64 (f_.High - f_.Low)) ≤ 200)))))) rfl hc18 .none rfl ?_
       obtain rfl := Option.some.inj hF
       exact hJ17 _ ⟨rfl, rfl⟩
      ·skip
       refine JL.fieldAddr fo_26_3 rfl (.some rfl rfl rfl hc18) rfl ?_
       refine JL.loadOwn 0 az_24 rfl rfl rfl (.some rfl rfl rfl hc18) rfl ?_
       obtain ⟨y19, hy19, hF⟩ := bind_some hF
       refine JL.callS (c_frames_isShare n H f_.Ease y19 hy19) rfl en_103 (.some rfl rfl rfl hc18) rfl ?_
       refine JL.not rfl (.some rfl rfl rfl hc18) rfl ?_
       refine JL.pick_f (b := (p9 || (!((y2 && (decide (f_.High ≤ 2000))) && (decide ((w64 (f_.High - f_.Low)) ≤ 200)))))) rfl hc18 .none rfl ?_
       obtain rfl := Option.some.inj hF
       exact hJ17 _ ⟨rfl, rfl⟩
     ·rintro f ⟨hf1, hf43⟩
      refine (JL.norm (i := 1) hf1 (JL.norm (i := 43) hf43 ?_))
      refine JL.move .none rfl ?_
      obtain ⟨p21, hp21, hF⟩ := bind_some hF
      refine JL.cut 5 (fun f => f 1 = .pointer (some ⟨b1, 0, none⟩) ∧ f 49 = .bool p21) ?_ ?_
      ·intro hJ22
       rcases ite_some hp21 with ⟨hc23, hF⟩ | ⟨hc23, hF⟩
       ·skip
        refine JL.skip (.bool rfl rfl rfl hc23) rfl ?_
        refine JL.skip (.bool rfl rfl rfl hc23) rfl ?_
        refine JL.skip (.bool rfl rfl rfl hc23) rfl ?_
        refine JL.skip (.bool rfl rfl rfl hc23) rfl ?_
        refine JL.pick_t (b := p16) rfl hc23 .none rfl ?_
        obtain rfl := Option.some.inj hF
        exact hJ22 _ ⟨rfl, rfl⟩
       ·skip
        refine JL.fieldAddr fo_26_4 rfl (.some rfl rfl rfl hc23) rfl ?_
        refine JL.loadOwn 0 az_3 rfl rfl rfl (.some rfl rfl rfl hc23) rfl ?_
        obtain ⟨y24, hy24, hF⟩ := bind_some hF
        refine JL.callS (c_frames_within n H f_.Rod 0 4000 y24 hy24) rfl en_102 (.some rfl rfl rfl hc23) rfl ?_
        refine JL.not rfl (.some rfl rfl rfl hc23) rfl ?_
        refine JL.pick_f (b := p16) rfl hc23 .none rfl ?_
        obtain rfl := Option.some.inj hF
        exact hJ22 _ ⟨rfl, rfl⟩
      ·rintro f ⟨hf1, hf49⟩
       refine (JL.norm (i := 1) hf1 (JL.norm (i := 49) hf49 ?_))
       refine JL.move .none rfl ?_
       obtain ⟨p26, hp26, hF⟩ := bind_some hF
       refine JL.cut 5 (fun f => f 55 = .bool p26) ?_ ?_
       ·intro hJ27
        rcases ite_some hp26 with ⟨hc28, hF⟩ | ⟨hc28, hF⟩
        ·skip
         refine JL.skip (.bool rfl rfl rfl hc28) rfl ?_
         refine JL.skip (.bool rfl rfl rfl hc28) rfl ?_
         refine JL.skip (.bool rfl rfl rfl hc28) rfl ?_
         refine JL.skip (.bool rfl rfl rfl hc28) rfl ?_
         refine JL.pick_t (b := p21) rfl hc28 .none rfl ?_
         obtain rfl := Option.some.inj hF
         exact hJ27 _ (rfl)
        ·skip
         refine JL.fieldAddr fo_26_5 rfl (.some rfl rfl rfl hc28) rfl ?_
         refine JL.loadOwn 0 az_3 rfl rfl rfl (.some rfl rfl rfl hc28) rfl ?_
         obtain ⟨y29, hy29, hF⟩ := bind_some hF
         refine JL.callS (c_frames_within n H f_.Case 0 4000 y29 hy29) rfl en_102 (.some rfl rfl rfl hc28) rfl ?_
         refine JL.not rfl (.some rfl rfl rfl hc28) rfl ?_
         refine JL.pick_f (b := p21) rfl hc28 .none rfl ?_
         obtain rfl := Option.some.inj hF
         exact hJ27 _ (rfl)
       ·rintro f hf55
        refine (JL.norm (i := 55) hf55 ?_)
        refine JL.done hQ ?_
        refine JQ.go ?_
        rcases ite_some hF with ⟨hc30, hF⟩ | ⟨hc30, hF⟩
        ·refine JC.cond_t (b := p26) rfl hc30 ?_
         refine JC.seq ?_
         refine JC.region (by rfl) ?_
         intro hQ
         refine JL.assign .none rfl ?_
         refine JL.done hQ ?_
         refine JQ.go ?_
         refine JC.ret ?_
         refine JQ.ret_then ?_
         obtain rfl := Option.some.inj hF
         exact JQ.outS rfl (.tmp .nil) rfl
        ·refine JC.cond_f (b := p26) rfl hc30 ?_
         refine JC.skip ?_
         refine JQ.go ?_
         refine JC.seq ?_
         refine JC.region (by rfl) ?_
         intro hQ
         refine JL.assign .none rfl ?_
         refine JL.done hQ ?_
         refine JQ.go ?_
         refine JC.ret ?_
         obtain rfl := Option.some.inj hF
         exact JQ.outS rfl (.tmp .nil) rfl
end Go.Proofs.YtcipdblhopffbaaGreat
end
