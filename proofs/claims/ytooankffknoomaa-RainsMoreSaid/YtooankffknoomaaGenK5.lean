/-
  Printed by a program: functions of the translation as plain functions, and their contracts.
-/
import Derived.Test.YtooankffknoomaaGenK4
namespace Go.Proofs.Ytooankffknoomaa
open Go Go.RowKit Go.Dec
set_option linter.unusedVariables false
-- 68 ferrule/ferruleref11.rows
def F_ref11_rows_s1 (n : Nat) (rec : List Int → Int → Int → Int → Option (List (List Int))) (first : List Int) (many : Int) (most : Int) (step : Int) : Int × List (List Int) → Option ((Int × List (List Int)) ⊕ (List (List Int)))
  | (n_248, out_249) => if decide (n_248 ≤ most) = true then ((if decide (0 < (first.length : Int)) = true then ((geti first (w64 ((first.length : Int) - 1))).bind fun y263 => (F_ref11_within n (w64 (n_248 - y263)) (w64 (-step)) step).bind fun y268 => some (!y268)) else (some false) : Option Bool).bind fun p260 => if p260 = true then (some (Sum.inl ((w64 (n_248 + 1)), out_249))) else ((lim (([] : List Int) ++ first)).bind fun l272 => (lim (l272 ++ [n_248])).bind fun l277 => (rec l277 many most step).bind fun y283 => (lim (out_249 ++ y283)).bind fun l285 => some (Sum.inl ((w64 (n_248 + 1)), l285)))) else (some (Sum.inr out_249))
def F_ref11_rows : Nat → List Int → Int → Int → Int → Option (List (List Int))
  | 0, _, _, _, _ => none
  | n + 1, first, many, most, step => (fun rec => if ((first.length : Int) == many) = true then (some [first]) else ((loopO n (F_ref11_rows_s1 n rec first many most step) (0, ([] : List (List Int)))).bind fun out_167 => some out_167)) (F_ref11_rows n)
set_option maxRecDepth 100000 in
set_option maxHeartbeats 40000000 in
theorem c_ref11_rows (n : Nat) : ∀ (H : Hp) (first : List Int) (first_v0 : Value) (hfirst_0 : SL H 1 RInt first_v0 first) (many : Int) (most : Int) (step : Int) (y : (List (List Int))) (hF : F_ref11_rows n first many most step = some y), HC Try.prog 68 [first_v0, .int .i64 many, .int .i64 most, .int .i64 step] H (fun H' ra_v0 => SL H' 1 (RSl 1 RInt) ra_v0 y) := by
  induction n with
  | zero => intro H first first_v0 hfirst_0 many most step y hF; simp [F_ref11_rows] at hF
  | succ n ih =>
  intro H first first_v0 hfirst_0 many most step y hF
  rw [F_ref11_rows] at hF
  dsimp only at hF
  refine HC.of (N := 53) Try.func68 rfl rfl rfl fun w => ?_
  refine JC.seq ?_
  refine JC.region (by rfl) ?_
  intro hQ
  refine JL.assign .none rfl ?_
  refine JL.done hQ ?_
  refine JQ.go ?_
  refine JC.seq ?_
  refine JC.seq ?_
  refine JC.region (by rfl) ?_
  intro hQ
  refine JL.move .none rfl ?_
  refine JL.lenSL (R := RInt) ul_26 hfirst_0 .none rfl ?_
  refine JL.move .none rfl ?_
  refine JL.bin rfl rfl rfl .none rfl ?_
  refine JL.done hQ ?_
  refine JQ.go ?_
  rcases ite_some hF with ⟨hc1, hF⟩ | ⟨hc1, hF⟩
  · refine JC.cond_t (b := ((first.length : Int) == many)) rfl hc1 ?_
    refine JC.seq ?_
    refine JC.region (by rfl) ?_
    intro hQ
    refine JL.move .none rfl ?_
    obtain ⟨a2, c3, rfl, hh4⟩ := hfirst_0
    have hfirst_0 : SL H 1 RInt (.slice a2 first.length c3) first := ⟨a2, c3, rfl, hh4⟩
    refine JL.buildSlice (e := 26) (l := [(.slice a2 first.length c3)]) (by kernel_rfl) .none rfl ?_
    intro b5
    refine JL.assign .none rfl ?_
    refine JL.done hQ ?_
    refine JQ.go ?_
    refine JC.ret ?_
    refine JQ.ret_then ?_
    refine JQ.freezeC 0 (l := [(.slice a2 first.length c3)]) rfl ?_
    intro H6 hs6 hc7
    have hg8 : SL H6 1 (RSl 1 RInt) (.slice (some ⟨b5, 0, none⟩) 1 1) [first] := CH.sl (l := [first]) (CH.cons (cs := [(.slice a2 first.length c3)]) rfl ⟨_, rfl, (SL.mono RInt.mono hs6 hfirst_0)⟩ CH.nil) hc7 ⟨by simp, by simp⟩
    obtain rfl := Option.some.inj hF
    exact JQ.outH rfl (.tmp .nil) hg8
  · refine JC.cond_f (b := ((first.length : Int) == many)) rfl hc1 ?_
    refine JC.skip ?_
    refine JQ.go ?_
    refine JC.seq ?_
    refine JC.region (by rfl) ?_
    intro hQ
    refine JL.assign .none rfl ?_
    refine JL.done hQ ?_
    refine JQ.go ?_
    refine JC.seq ?_
    refine JC.seq ?_
    refine JC.region (by rfl) ?_
    intro hQ
    refine JL.assign .none rfl ?_
    refine JL.done hQ ?_
    refine JQ.go ?_
    refine JC.newNil (e := 26) (sz := 1) ?_
    obtain ⟨r169, hlr169, hKr169⟩ := bind_some hF
    refine JC.join (fun (out_167 : List (List Int)) H168 f bs gs => ∃ (vout_167 : Value) (xsout_167 : List Value), f 9 = vout_167 ∧ bs = [] ∧ gs = [⟨vout_167, 26, 1, out_167.length, xsout_167⟩] ∧ CH H168 1 (RSl 1 RInt) xsout_167 out_167 ∧ HSub H H168 ∧ out_167 = r169) ?_ ?_
    · skip
      refine JC.block ?_
      refine JC.loop hlr169 (fun (x : Int × List (List Int)) H250 f bs gs => match x with | (n_248, out_249) => ∃ (vout_249 : Value) (xsout_249 : List Value), f 0 = first_v0 ∧ f 1 = .int .i64 many ∧ f 2 = .int .i64 most ∧ f 3 = .int .i64 step ∧ f 9 = vout_249 ∧ f 10 = .int .i64 n_248 ∧ bs = [] ∧ gs = [⟨vout_249, 26, 1, out_249.length, xsout_249⟩] ∧ CH H250 1 (RSl 1 RInt) xsout_249 out_249 ∧ HSub H H250) ⟨(.slice none 0 0), [], rfl, rfl, rfl, rfl, rfl, rfl, rfl, rfl, CH.nil, (HSub.refl _)⟩ ?_
      rintro ⟨n_248, out_249⟩ x252 H250 f bs gs ⟨vout_249, xsout_249, hf0, hf1, hf2, hf3, hf9, hf10, rfl, rfl, hout_249, hs250⟩ hF hr251
      rw [F_ref11_rows_s1] at hF
      refine (JC.norm (i := 0) hf0 (JC.norm (i := 1) hf1 (JC.norm (i := 2) hf2 (JC.norm (i := 3) hf3 (JC.norm (i := 9) hf9 (JC.norm (i := 10) hf10 ?_))))))
      refine JC.seq ?_
      refine JC.seq ?_
      refine JC.region (by rfl) ?_
      intro hQ
      refine JL.move .none rfl ?_
      refine JL.move .none rfl ?_
      refine JL.bin rfl rfl rfl .none rfl ?_
      refine JL.done hQ ?_
      refine JQ.go ?_
      rcases ite_some hF with ⟨hc253, hF⟩ | ⟨hc253, hF⟩
      · refine JC.cond_t (b := decide (n_248 ≤ most)) rfl hc253 ?_
        refine JC.skip ?_
        refine JQ.go ?_
        refine JC.seq ?_
        refine JC.block ?_
        refine JC.seq ?_
        refine JC.seq ?_
        refine JC.region (by rfl) ?_
        intro hQ
        refine JL.move .none rfl ?_
        refine JL.lenSL (R := RInt) ul_26 (SL.mono RInt.mono hs250 hfirst_0) .none rfl ?_
        refine JL.bin rfl rfl rfl .none rfl ?_
        refine JL.move .none rfl ?_
        obtain ⟨p260, hp260, hF⟩ := bind_some hF
        refine JL.cut 14 (fun f => f 0 = first_v0 ∧ f 1 = .int .i64 many ∧ f 2 = .int .i64 most ∧ f 3 = .int .i64 step ∧ f 9 = vout_249 ∧ f 10 = .int .i64 n_248 ∧ f 39 = .bool p260) ?_ ?_
        · intro hJ261
          rcases ite_some hp260 with ⟨hc262, hF⟩ | ⟨hc262, hF⟩
          · skip
            refine JL.move (.some rfl rfl rfl hc262) rfl ?_
            refine JL.move (.some rfl rfl rfl hc262) rfl ?_
            refine JL.move (.some rfl rfl rfl hc262) rfl ?_
            refine JL.lenSL (R := RInt) ul_26 (SL.mono RInt.mono hs250 hfirst_0) (.some rfl rfl rfl hc262) rfl ?_
            refine JL.bin rfl rfl rfl (.some rfl rfl rfl hc262) rfl ?_
            obtain ⟨y263, hy263, hF⟩ := bind_some hF
            refine JL.indexSL (R := RInt) sl_26 (SL.mono RInt.mono hs250 hfirst_0) rfl hy263 (.some rfl rfl rfl hc262) rfl ?_
            rintro b264 o265 cs266 hc267 - rfl
            refine JL.loadH 0 az_3 rfl hc267 rfl (.some rfl rfl rfl hc262) rfl ?_
            refine JL.bin rfl rfl rfl (.some rfl rfl rfl hc262) rfl ?_
            refine JL.move (.some rfl rfl rfl hc262) rfl ?_
            refine JL.neg rfl (.some rfl rfl rfl hc262) rfl ?_
            refine JL.move (.some rfl rfl rfl hc262) rfl ?_
            obtain ⟨y268, hy268, hF⟩ := bind_some hF
            refine JL.callS (c_ref11_within n H250 (w64 (n_248 - y263)) (w64 (-step)) step y268 hy268) rfl en_65 (.some rfl rfl rfl hc262) rfl ?_
            refine JL.not rfl (.some rfl rfl rfl hc262) rfl ?_
            refine JL.pick_t (b := decide (0 < (first.length : Int))) rfl hc262 .none rfl ?_
            obtain rfl := Option.some.inj hF
            exact hJ261 _ ⟨rfl, rfl, rfl, rfl, rfl, rfl, rfl⟩
          · skip
            refine JL.skip (.bool rfl rfl rfl hc262) rfl ?_
            refine JL.skip (.bool rfl rfl rfl hc262) rfl ?_
            refine JL.skip (.bool rfl rfl rfl hc262) rfl ?_
            refine JL.skip (.bool rfl rfl rfl hc262) rfl ?_
            refine JL.skip (.bool rfl rfl rfl hc262) rfl ?_
            refine JL.skip (.bool rfl rfl rfl hc262) rfl ?_
            refine JL.skip (.bool rfl rfl rfl hc262) rfl ?_
            refine JL.skip (.bool rfl rfl rfl hc262) rfl ?_
            refine JL.skip (.bool rfl rfl rfl hc262) rfl ?_
            refine JL.skip (.bool rfl rfl rfl hc262) rfl ?_
            refine JL.skip (.bool rfl rfl rfl hc262) rfl ?_
            refine JL.skip (.bool rfl rfl rfl hc262) rfl ?_
            refine JL.skip (.bool rfl rfl rfl hc262) rfl ?_
            refine JL.pick_f (b := decide (0 < (first.length : Int))) rfl hc262 .none rfl ?_
            obtain rfl := Option.some.inj hF
            exact hJ261 _ ⟨rfl, rfl, rfl, rfl, rfl, rfl, rfl⟩
        · rintro f ⟨hf0, hf1, hf2, hf3, hf9, hf10, hf39⟩
          refine (JL.norm (i := 0) hf0 (JL.norm (i := 1) hf1 (JL.norm (i := 2) hf2 (JL.norm (i := 3) hf3 (JL.norm (i := 9) hf9 (JL.norm (i := 10) hf10 (JL.norm (i := 39) hf39 ?_)))))))
          refine JL.done hQ ?_
          refine JQ.go ?_
          rcases ite_some hF with ⟨hc269, hF⟩ | ⟨hc269, hF⟩
          · refine JC.cond_t (b := p260) rfl hc269 ?_
            refine JC.exit ?_
            refine JQ.exit_then ?_
            refine JQ.exit_block ?_
            refine JQ.go ?_
            refine JC.region (by rfl) ?_
            intro hQ
            refine JL.move .none rfl ?_
            refine JL.bin rfl rfl rfl .none rfl ?_
            refine JL.assign .none rfl ?_
            refine JL.done hQ ?_
            obtain rfl := Option.some.inj hF
            exact JQ.next rfl ⟨vout_249, xsout_249, rfl, rfl, rfl, rfl, rfl, rfl, rfl, rfl, hout_249, hs250⟩
          · refine JC.cond_f (b := p260) rfl hc269 ?_
            refine JC.skip ?_
            refine JQ.go ?_
            refine JC.region (by rfl) ?_
            intro hQ
            refine JL.move .none rfl ?_
            refine JL.emptySlice ap_26 .none rfl ?_
            intro v270
            refine JL.move .none rfl ?_
            obtain ⟨l272, hl272, hF⟩ := bind_some hF
            refine JL.appD (R := RInt) 0 (l := ([] : List Int)) (m := first) ap_26 rfl ⟨rfl, rfl⟩ rfl CH.nil rfl (SL.mono RInt.mono hs250 hfirst_0) (RInt.one _) hl272 .none rfl ?_
            intro v273 xs274 hch275
            refine JL.move .none rfl ?_
            refine JL.buildSlice (e := 3) (l := [.int .i64 n_248]) (by kernel_rfl) .none rfl ?_
            intro b276
            obtain ⟨l277, hl277, hF⟩ := bind_some hF
            refine JL.appO (R := RInt) 0 0 (l := l272) (m := [n_248]) ap_26 rfl ⟨rfl, rfl⟩ rfl hch275 rfl rfl rfl (CH.cons (cs := [.int .i64 n_248]) rfl rfl CH.nil) rfl (one_cons rfl one_nil) hl277 .none rfl ?_
            intro v278 xs279 hch280
            refine JL.move .none rfl ?_
            refine JL.move .none rfl ?_
            refine JL.move .none rfl ?_
            refine JL.freezeG 0 (R := RInt) rfl RInt.mono hch280 rfl ?_
            intro H281 hs281 hg282
            obtain ⟨y283, hy283, hF⟩ := bind_some hF
            refine JL.callH (ih H281 l277 v278 hg282 many most step y283 hy283) rfl en_68 .none rfl ?_
            intro H284 y283a_v0 hs284 hy283a_0
            obtain ⟨l285, hl285, hF⟩ := bind_some hF
            refine JL.appD (R := (RSl 1 RInt)) 0 (l := out_249) (m := y283) ap_72 rfl ⟨rfl, rfl⟩ rfl (CH.mono (RSl.mono RInt.mono) (HSub.trans hs281 hs284) hout_249) rfl hy283a_0 (RSl.one _) hl285 .none rfl ?_
            intro v286 xs287 hch288
            refine JL.assign .none rfl ?_
            refine JL.done hQ ?_
            refine JQ.normal_block ?_
            refine JQ.go ?_
            refine JC.fresh (fun f => f 0 = first_v0 ∧ f 1 = .int .i64 many ∧ f 2 = .int .i64 most ∧ f 3 = .int .i64 step ∧ f 9 = v286 ∧ f 10 = .int .i64 n_248) ⟨rfl, rfl, rfl, rfl, rfl, rfl⟩ ?_
            rintro f ⟨hf0, hf1, hf2, hf3, hf9, hf10⟩
            refine (JC.norm (i := 0) hf0 (JC.norm (i := 1) hf1 (JC.norm (i := 2) hf2 (JC.norm (i := 3) hf3 (JC.norm (i := 9) hf9 (JC.norm (i := 10) hf10 ?_))))))
            refine JC.region (by rfl) ?_
            intro hQ
            refine JL.move .none rfl ?_
            refine JL.bin rfl rfl rfl .none rfl ?_
            refine JL.assign .none rfl ?_
            refine JL.done hQ ?_
            obtain rfl := Option.some.inj hF
            refine JQ.mask [false] [true] ?_
            exact JQ.next rfl ⟨v286, xs287, rfl, rfl, rfl, rfl, rfl, rfl, rfl, rfl, hch288, (HSub.trans hs250 (HSub.trans hs281 hs284))⟩
      · refine JC.cond_f (b := decide (n_248 ≤ most)) rfl hc253 ?_
        refine JC.exit ?_
        refine JQ.exit_then ?_
        refine JQ.exit_then ?_
        refine JQ.exit_block ?_
        obtain rfl := Option.some.inj hF
        have ehr251 := hr251 _ rfl
        subst ehr251
        exact JQ.join out_249 ⟨vout_249, xsout_249, rfl, rfl, rfl, hout_249, hs250, rfl⟩
    · rintro out_167 H168 f bs gs ⟨vout_167, xsout_167, hf9, rfl, rfl, hout_167, hs168, rfl⟩
      have hF := hKr169
      try dsimp only at hF
      refine (JQ.norm (i := 9) hf9 ?_)
      refine JQ.go ?_
      refine JC.seq ?_
      refine JC.region (by rfl) ?_
      intro hQ
      refine JL.move .none rfl ?_
      refine JL.assign .none rfl ?_
      refine JL.done hQ ?_
      refine JQ.go ?_
      refine JC.ret ?_
      refine JQ.freezeG 0 (R := (RSl 1 RInt)) rfl (RSl.mono RInt.mono) hout_167 rfl ?_
      intro H289 hs289 hg290
      obtain rfl := Option.some.inj hF
      exact JQ.outH rfl (.tmp .nil) hg290

-- 36 ferrule/ferruleref11.IsRight
def F_ref11_IsRight (n : Nat) (x_ : Rain) (levels : List Int) : Option Bool :=
  (geti levels x_.Day).bind fun y8 => (F_ref11_within n y8 x_.Level.Low x_.Level.High).bind fun y13 => some y13
set_option maxRecDepth 100000 in
set_option maxHeartbeats 40000000 in
theorem c_ref11_IsRight (n : Nat) (H : Hp) (x_ : Rain) (levels : List Int) (levels_v0 : Value) (hlevels_0 : SL H 1 RInt levels_v0 levels) (y : Bool) (hF : F_ref11_IsRight n x_ levels = some y) : SC Try.prog 36 [.agg [.int .i64 x_.Day, .int .i64 x_.Level.Low, .int .i64 x_.Level.High].toArray, levels_v0] (.bool y) H := by
  rw [F_ref11_IsRight] at hF
  refine SC.of (N := 17) Try.func36 rfl rfl rfl fun w => ?_
  refine JC.seq ?_
  refine JC.region (by rfl) ?_
  intro hQ
  refine JL.box (cs := [.int .i64 x_.Day, .int .i64 x_.Level.Low, .int .i64 x_.Level.High]) rfl .none rfl ?_
  intro b1
  refine JL.assign .none rfl ?_
  refine JL.done hQ ?_
  refine JQ.go ?_
  refine JC.seq ?_
  refine JC.draw (by rfl) mo_ (by kernel_rfl) ?_
  intro hQ
  refine JL.move .none rfl ?_
  refine JL.fieldAddr fo_37_0 rfl .none rfl ?_
  refine JL.loadOwn 0 az_3 rfl rfl rfl .none rfl ?_
  obtain ⟨y8, hy8, hF⟩ := bind_some hF
  refine JL.indexSL (R := RInt) sl_26 hlevels_0 rfl hy8 .none rfl ?_
  rintro b9 o10 cs11 hc12 - rfl
  refine JL.loadH 0 az_3 rfl hc12 rfl .none rfl ?_
  refine JL.fieldAddr fo_37_1 rfl .none rfl ?_
  refine JL.fieldAddr fo_31_0 rfl .none rfl ?_
  refine JL.loadOwn 0 az_3 rfl rfl rfl .none rfl ?_
  refine JL.fieldAddr fo_37_1 rfl .none rfl ?_
  refine JL.fieldAddr fo_31_1 rfl .none rfl ?_
  refine JL.loadOwn 0 az_3 rfl rfl rfl .none rfl ?_
  obtain ⟨y13, hy13, hF⟩ := bind_some hF
  refine JL.callS (c_ref11_within n H y8 x_.Level.Low x_.Level.High y13 hy13) rfl en_65 .none rfl ?_
  refine JL.assign .none rfl ?_
  refine JL.doneQ hQ ?_
  refine JQ.go ?_
  refine JC.fresh (fun f => f 4 = .bool y13) rfl ?_
  rintro f hf4
  refine (JC.norm (i := 4) hf4 ?_)
  refine JC.ret ?_
  obtain rfl := Option.some.inj hF
  exact JQ.outS rfl (.tmp .nil) rfl

-- 69 ferrule/ferruleref11.Wrongs
def F_ref11_Wrongs_s1 (n : Nat) (t : Tour) (levels : List Int) : Int × Int → Option ((Int × Int) ⊕ Int)
  | (n_82, i_83) => if decide (i_83 < (t.Rains.length : Int)) = true then ((geti t.Rains i_83).bind fun y88 => (F_ref11_IsRight n y88 levels).bind fun y93 => (if (!y93) = true then (some (w64 (n_82 + 1))) else (some n_82)).bind fun n_95 => some (Sum.inl (n_95, (w64 (i_83 + 1))))) else (some (Sum.inr n_82))
def F_ref11_Wrongs (n : Nat) (t : Tour) (levels : List Int) : Option Int :=
  (loopO n (F_ref11_Wrongs_s1 n t levels) (0, 0)).bind fun n_49 => some n_49
set_option maxRecDepth 100000 in
set_option maxHeartbeats 40000000 in
theorem c_ref11_Wrongs (n : Nat) (H : Hp) (t : Tour) (t_v2 : Value) (ht_2 : SL H 3 R_Rain t_v2 t.Rains) (t_v4 : Value) (ht_4 : SL H 2 R_Fair t_v4 t.Fairs) (levels : List Int) (levels_v0 : Value) (hlevels_0 : SL H 1 RInt levels_v0 levels) (y : Int) (hF : F_ref11_Wrongs n t levels = some y) : SC Try.prog 69 [.agg [.int .i64 t.Days, .int .i64 t.Step, t_v2, .int .i64 t.Wrong, t_v4, .int .i64 t.Reach, .int .i64 t.Stock].toArray, levels_v0] (.int .i64 y) H := by
  rw [F_ref11_Wrongs] at hF
  refine SC.of (N := 25) Try.func69 rfl rfl rfl fun w => ?_
  refine JC.seq ?_
  refine JC.region (by rfl) ?_
  intro hQ
  refine JL.box (cs := [.int .i64 t.Days, .int .i64 t.Step, t_v2, .int .i64 t.Wrong, t_v4, .int .i64 t.Reach, .int .i64 t.Stock]) rfl .none rfl ?_
  intro b1
  refine JL.assign .none rfl ?_
  refine JL.done hQ ?_
  refine JQ.go ?_
  refine JC.seq ?_
  refine JC.region (by rfl) ?_
  intro hQ
  refine JL.assign .none rfl ?_
  refine JL.done hQ ?_
  refine JQ.go ?_
  refine JC.seq ?_
  refine JC.seq ?_
  refine JC.region (by rfl) ?_
  intro hQ
  refine JL.assign .none rfl ?_
  refine JL.done hQ ?_
  refine JQ.go ?_
  obtain ⟨r51, hlr51, hKr51⟩ := bind_some hF
  refine JC.join (fun (n_49 : Int) H50 f bs gs => f 5 = .int .i64 n_49 ∧ bs = [] ∧ gs = [] ∧ HSub H H50 ∧ n_49 = r51) ?_ ?_
  · skip
    refine JC.block ?_
    refine JC.loop hlr51 (fun (x : Int × Int) H84 f bs gs => match x with | (n_82, i_83) => f 1 = levels_v0 ∧ f 2 = .pointer (some ⟨b1, 0, none⟩) ∧ f 5 = .int .i64 n_82 ∧ f 6 = .int .i64 i_83 ∧ bs = [(b1, .cells [.int .i64 t.Days, .int .i64 t.Step, t_v2, .int .i64 t.Wrong, t_v4, .int .i64 t.Reach, .int .i64 t.Stock].toArray 25)] ∧ gs = [] ∧ HSub H H84) ⟨rfl, rfl, rfl, rfl, rfl, rfl, (HSub.refl _)⟩ ?_
    rintro ⟨n_82, i_83⟩ x86 H84 f bs gs ⟨hf1, hf2, hf5, hf6, rfl, rfl, hs84⟩ hF hr85
    rw [F_ref11_Wrongs_s1] at hF
    refine (JC.norm (i := 1) hf1 (JC.norm (i := 2) hf2 (JC.norm (i := 5) hf5 (JC.norm (i := 6) hf6 ?_))))
    refine JC.seq ?_
    refine JC.seq ?_
    refine JC.region (by rfl) ?_
    intro hQ
    refine JL.move .none rfl ?_
    refine JL.fieldAddr fo_25_2 rfl .none rfl ?_
    refine JL.loadOwn 0 az_22 rfl rfl rfl .none rfl ?_
    refine JL.lenSL (R := R_Rain) ul_22 (SL.mono R_Rain_mono hs84 ht_2) .none rfl ?_
    refine JL.bin rfl rfl rfl .none rfl ?_
    refine JL.done hQ ?_
    refine JQ.go ?_
    rcases ite_some hF with ⟨hc87, hF⟩ | ⟨hc87, hF⟩
    · refine JC.cond_t (b := decide (i_83 < (t.Rains.length : Int))) rfl hc87 ?_
      refine JC.skip ?_
      refine JQ.go ?_
      refine JC.seq ?_
      refine JC.block ?_
      refine JC.seq ?_
      refine JC.region (by rfl) ?_
      intro hQ
      refine JL.fieldAddr fo_25_2 rfl .none rfl ?_
      refine JL.loadOwn 0 az_22 rfl rfl rfl .none rfl ?_
      refine JL.move .none rfl ?_
      obtain ⟨y88, hy88, hF⟩ := bind_some hF
      refine JL.indexSL (R := R_Rain) sl_22 (SL.mono R_Rain_mono hs84 ht_2) rfl hy88 .none rfl ?_
      rintro b89 o90 cs91 hc92 - rfl
      refine JL.loadH 0 az_37 rfl hc92 rfl .none rfl ?_
      refine JL.move .none rfl ?_
      obtain ⟨y93, hy93, hF⟩ := bind_some hF
      refine JL.callS (c_ref11_IsRight n H84 y88 levels levels_v0 (SL.mono RInt.mono hs84 hlevels_0) y93 hy93) rfl en_36 .none rfl ?_
      refine JL.not rfl .none rfl ?_
      refine JL.done hQ ?_
      refine JQ.go ?_
      refine JC.fresh (fun f => f 1 = levels_v0 ∧ f 2 = .pointer (some ⟨b1, 0, none⟩) ∧ f 5 = .int .i64 n_82 ∧ f 6 = .int .i64 i_83 ∧ f 21 = .bool (!y93)) ⟨rfl, rfl, rfl, rfl, rfl⟩ ?_
      rintro f ⟨hf1, hf2, hf5, hf6, hf21⟩
      refine (JC.norm (i := 1) hf1 (JC.norm (i := 2) hf2 (JC.norm (i := 5) hf5 (JC.norm (i := 6) hf6 (JC.norm (i := 21) hf21 ?_)))))
      obtain ⟨r97, hlr97, hKr97⟩ := bind_some hF
      refine JC.join (fun (n_95 : Int) H96 f bs gs => f 1 = levels_v0 ∧ f 2 = .pointer (some ⟨b1, 0, none⟩) ∧ f 5 = .int .i64 n_95 ∧ f 6 = .int .i64 i_83 ∧ bs = [(b1, .cells [.int .i64 t.Days, .int .i64 t.Step, t_v2, .int .i64 t.Wrong, t_v4, .int .i64 t.Reach, .int .i64 t.Stock].toArray 25)] ∧ gs = [] ∧ HSub H84 H96 ∧ n_95 = r97) ?_ ?_
      · have hF := hlr97
        rcases ite_some hF with ⟨hc98, hF⟩ | ⟨hc98, hF⟩
        · refine JC.cond_t (b := (!y93)) rfl hc98 ?_
          refine JC.region (by rfl) ?_
          intro hQ
          refine JL.move .none rfl ?_
          refine JL.bin rfl rfl rfl .none rfl ?_
          refine JL.assign .none rfl ?_
          refine JL.done hQ ?_
          obtain rfl := Option.some.inj hF
          exact JQ.join (w64 (n_82 + 1)) ⟨rfl, rfl, rfl, rfl, rfl, rfl, (HSub.refl _), rfl⟩
        · refine JC.cond_f (b := (!y93)) rfl hc98 ?_
          refine JC.skip ?_
          obtain rfl := Option.some.inj hF
          exact JQ.join n_82 ⟨rfl, rfl, rfl, rfl, rfl, rfl, (HSub.refl _), rfl⟩
      · rintro n_95 H96 f bs gs ⟨hf1, hf2, hf5, hf6, rfl, rfl, hs96, rfl⟩
        have hF := hKr97
        try dsimp only at hF
        refine (JQ.norm (i := 1) hf1 (JQ.norm (i := 2) hf2 (JQ.norm (i := 5) hf5 (JQ.norm (i := 6) hf6 ?_))))
        refine JQ.normal_block ?_
        refine JQ.go ?_
        refine JC.region (by rfl) ?_
        intro hQ
        refine JL.move .none rfl ?_
        refine JL.bin rfl rfl rfl .none rfl ?_
        refine JL.assign .none rfl ?_
        refine JL.done hQ ?_
        obtain rfl := Option.some.inj hF
        exact JQ.next rfl ⟨rfl, rfl, rfl, rfl, rfl, rfl, (HSub.trans hs84 hs96)⟩
    · refine JC.cond_f (b := decide (i_83 < (t.Rains.length : Int))) rfl hc87 ?_
      refine JC.exit ?_
      refine JQ.exit_then ?_
      refine JQ.exit_then ?_
      refine JQ.exit_block ?_
      obtain rfl := Option.some.inj hF
      have ehr85 := hr85 _ rfl
      subst ehr85
      refine JQ.mask [false] [] ?_
      exact JQ.join n_82 ⟨rfl, rfl, rfl, hs84, rfl⟩
  · rintro n_49 H50 f bs gs ⟨hf5, rfl, rfl, hs50, rfl⟩
    have hF := hKr51
    try dsimp only at hF
    refine (JQ.norm (i := 5) hf5 ?_)
    refine JQ.go ?_
    refine JC.seq ?_
    refine JC.region (by rfl) ?_
    intro hQ
    refine JL.move .none rfl ?_
    refine JL.assign .none rfl ?_
    refine JL.done hQ ?_
    refine JQ.go ?_
    refine JC.ret ?_
    obtain rfl := Option.some.inj hF
    exact JQ.outS rfl (.tmp .nil) rfl

-- 48 ferrule/ferruleref11.known
def F_ref11_known_s1 (n : Nat) (t : Tour) (y5 : (List (List Int))) : Int × List (List Int) → Option ((Int × List (List Int)) ⊕ (List (List Int)))
  | (i_309, out_310) => if decide (i_309 < (y5.length : Int)) = true then ((geti y5 i_309).bind fun y321 => (F_ref11_Wrongs n t y321).bind fun y326 => (if decide (y326 ≤ t.Wrong) = true then ((geti y5 i_309).bind fun y345 => (lim (out_310 ++ [y345])).bind fun l354 => some l354) else (some out_310)).bind fun out_341 => some (Sum.inl ((w64 (i_309 + 1)), out_341))) else (some (Sum.inr out_310))
def F_ref11_known (n : Nat) (t : Tour) (is : Bool) : Option ((List (List Int)) × Int) :=
  (F_ref11_Check n t).bind fun y2 => if (y2 != 0) = true then (some (([] : List (List Int)), y2)) else (if (!is) = true then (some (([] : List (List Int)), 1)) else ((F_ref11_rows n ([] : List Int) t.Days 3 t.Step).bind fun y5 => (loopO n (F_ref11_known_s1 n t y5) (0, ([] : List (List Int)))).bind fun out_212 => if ((out_212.length : Int) == 0) = true then (some (([] : List (List Int)), 3)) else (some (out_212, 0))))
set_option maxRecDepth 100000 in
set_option maxHeartbeats 40000000 in
theorem c_ref11_known (n : Nat) (H : Hp) (t : Tour) (t_v2 : Value) (ht_2 : SL H 3 R_Rain t_v2 t.Rains) (t_v4 : Value) (ht_4 : SL H 2 R_Fair t_v4 t.Fairs) (is : Bool) (y : (List (List Int)) × Int) (hF : F_ref11_known n t is = some y) : HC Try.prog 48 [.agg [.int .i64 t.Days, .int .i64 t.Step, t_v2, .int .i64 t.Wrong, t_v4, .int .i64 t.Reach, .int .i64 t.Stock].toArray, .bool is] H (fun H' v => ∃ ra_v0 : Value, v = .tuple [ra_v0, .int .i64 y.2].toArray ∧ SL H' 1 (RSl 1 RInt) ra_v0 y.1) := by
  rw [F_ref11_known] at hF
  refine HC.of (N := 48) Try.func48 rfl rfl rfl fun w => ?_
  refine JC.seq ?_
  refine JC.region (by rfl) ?_
  intro hQ
  refine JL.box (cs := [.int .i64 t.Days, .int .i64 t.Step, t_v2, .int .i64 t.Wrong, t_v4, .int .i64 t.Reach, .int .i64 t.Stock]) rfl .none rfl ?_
  intro b1
  refine JL.assign .none rfl ?_
  refine JL.assign .none rfl ?_
  refine JL.done hQ ?_
  refine JQ.go ?_
  refine JC.seq ?_
  refine JC.seq ?_
  refine JC.region (by rfl) ?_
  intro hQ
  refine JL.loadOwn 0 az_25 rfl rfl rfl .none rfl ?_
  obtain ⟨y2, hy2, hF⟩ := bind_some hF
  refine JL.callS (c_ref11_Check n H t t_v2 ht_2 t_v4 ht_4 y2 hy2) rfl en_38 .none rfl ?_
  refine JL.assign .none rfl ?_
  refine JL.done hQ ?_
  refine JQ.go ?_
  refine JC.seq ?_
  refine JC.region (by rfl) ?_
  intro hQ
  refine JL.move .none rfl ?_
  refine JL.bin rfl rfl rfl .none rfl ?_
  refine JL.done hQ ?_
  refine JQ.go ?_
  rcases ite_some hF with ⟨hc3, hF⟩ | ⟨hc3, hF⟩
  · refine JC.cond_t (b := (y2 != 0)) rfl hc3 ?_
    refine JC.seq ?_
    refine JC.region (by rfl) ?_
    intro hQ
    refine JL.move .none rfl ?_
    refine JL.assign .none rfl ?_
    refine JL.assign .none rfl ?_
    refine JL.done hQ ?_
    refine JQ.go ?_
    refine JC.ret ?_
    refine JQ.ret_then ?_
    obtain rfl := Option.some.inj hF
    exact JQ.outH rfl (.tmp (.tmp .nil)) ⟨(.slice none 0 0), rfl, SL.nil⟩
  · refine JC.cond_f (b := (y2 != 0)) rfl hc3 ?_
    refine JC.skip ?_
    refine JQ.go ?_
    refine JC.seq ?_
    refine JC.seq ?_
    refine JC.region (by rfl) ?_
    intro hQ
    refine JL.move .none rfl ?_
    refine JL.not rfl .none rfl ?_
    refine JL.done hQ ?_
    refine JQ.go ?_
    rcases ite_some hF with ⟨hc4, hF⟩ | ⟨hc4, hF⟩
    · refine JC.cond_t (b := (!is)) rfl hc4 ?_
      refine JC.seq ?_
      refine JC.region (by rfl) ?_
      intro hQ
      refine JL.assign .none rfl ?_
      refine JL.assign .none rfl ?_
      refine JL.done hQ ?_
      refine JQ.go ?_
      refine JC.ret ?_
      refine JQ.ret_then ?_
      obtain rfl := Option.some.inj hF
      exact JQ.outH rfl (.tmp (.tmp .nil)) ⟨(.slice none 0 0), rfl, SL.nil⟩
    · refine JC.cond_f (b := (!is)) rfl hc4 ?_
      refine JC.skip ?_
      refine JQ.go ?_
      refine JC.seq ?_
      refine JC.region (by rfl) ?_
      intro hQ
      refine JL.assign .none rfl ?_
      refine JL.done hQ ?_
      refine JQ.go ?_
      refine JC.seq ?_
      refine JC.region (by rfl) ?_
      intro hQ
      refine JL.fieldAddr fo_25_0 rfl .none rfl ?_
      refine JL.loadOwn 0 az_3 rfl rfl rfl .none rfl ?_
      refine JL.fieldAddr fo_25_1 rfl .none rfl ?_
      refine JL.loadOwn 0 az_3 rfl rfl rfl .none rfl ?_
      obtain ⟨y5, hy5, hF⟩ := bind_some hF
      refine JL.callH (c_ref11_rows n H ([] : List Int) (.slice none 0 0) SL.nil t.Days 3 t.Step y5 hy5) rfl en_68 .none rfl ?_
      intro H6 y5a_v0 hs6 hy5a_0
      refine JL.assign .none rfl ?_
      refine JL.done hQ ?_
      refine JQ.go ?_
      refine JC.fresh (fun f => f 2 = .pointer (some ⟨b1, 0, none⟩) ∧ f 4 = .slice none 0 0 ∧ f 5 = .int .i64 0 ∧ f 7 = .slice none 0 0 ∧ f 8 = y5a_v0) ⟨rfl, rfl, rfl, rfl, rfl⟩ ?_
      rintro f ⟨hf2, hf4, hf5, hf7, hf8⟩
      refine (JC.norm (i := 2) hf2 (JC.norm (i := 4) hf4 (JC.norm (i := 5) hf5 (JC.norm (i := 7) hf7 (JC.norm (i := 8) hf8 ?_)))))
      refine JC.seq ?_
      refine JC.seq ?_
      refine JC.region (by rfl) ?_
      intro hQ
      refine JL.assign .none rfl ?_
      refine JL.done hQ ?_
      refine JQ.go ?_
      refine JC.newNil (e := 26) (sz := 1) ?_
      obtain ⟨r214, hlr214, hKr214⟩ := bind_some hF
      refine JC.join (fun (out_212 : List (List Int)) H213 f bs gs => ∃ (vout_212 : Value) (xsout_212 : List Value), f 7 = vout_212 ∧ bs = [] ∧ gs = [⟨vout_212, 26, 1, out_212.length, xsout_212⟩] ∧ CH H213 1 (RSl 1 RInt) xsout_212 out_212 ∧ HSub H6 H213 ∧ out_212 = r214) ?_ ?_
      · skip
        refine JC.block ?_
        refine JC.loop hlr214 (fun (x : Int × List (List Int)) H311 f bs gs => match x with | (i_309, out_310) => ∃ (vout_310 : Value) (xsout_310 : List Value), f 2 = .pointer (some ⟨b1, 0, none⟩) ∧ f 7 = vout_310 ∧ f 8 = y5a_v0 ∧ f 9 = .int .i64 i_309 ∧ bs = [(b1, .cells [.int .i64 t.Days, .int .i64 t.Step, t_v2, .int .i64 t.Wrong, t_v4, .int .i64 t.Reach, .int .i64 t.Stock].toArray 25)] ∧ gs = [⟨vout_310, 26, 1, out_310.length, xsout_310⟩] ∧ CH H311 1 (RSl 1 RInt) xsout_310 out_310 ∧ HSub H6 H311) ⟨(.slice none 0 0), [], rfl, rfl, rfl, rfl, rfl, rfl, CH.nil, (HSub.refl _)⟩ ?_
        rintro ⟨i_309, out_310⟩ x313 H311 f bs gs ⟨vout_310, xsout_310, hf2, hf7, hf8, hf9, rfl, rfl, hout_310, hs311⟩ hF hr312
        rw [F_ref11_known_s1] at hF
        refine (JC.norm (i := 2) hf2 (JC.norm (i := 7) hf7 (JC.norm (i := 8) hf8 (JC.norm (i := 9) hf9 ?_))))
        refine JC.seq ?_
        refine JC.seq ?_
        refine JC.region (by rfl) ?_
        intro hQ
        refine JL.move .none rfl ?_
        refine JL.move .none rfl ?_
        refine JL.lenSL (R := (RSl 1 RInt)) ul_72 (SL.mono (RSl.mono RInt.mono) hs311 hy5a_0) .none rfl ?_
        refine JL.bin rfl rfl rfl .none rfl ?_
        refine JL.done hQ ?_
        refine JQ.go ?_
        rcases ite_some hF with ⟨hc314, hF⟩ | ⟨hc314, hF⟩
        · refine JC.cond_t (b := decide (i_309 < (y5.length : Int))) rfl hc314 ?_
          refine JC.skip ?_
          refine JQ.go ?_
          refine JC.seq ?_
          refine JC.block ?_
          refine JC.seq ?_
          refine JC.draw (by rfl) mo_ (by kernel_rfl) ?_
          intro hQ
          refine JL.loadOwn 0 az_25 rfl rfl rfl .none rfl ?_
          refine JL.move .none rfl ?_
          refine JL.move .none rfl ?_
          obtain ⟨y321, hy321, hF⟩ := bind_some hF
          refine JL.indexSL (R := (RSl 1 RInt)) sl_72 (SL.mono (RSl.mono RInt.mono) hs311 hy5a_0) rfl hy321 .none rfl ?_
          rintro b322 o323 cs324 hc325 - ⟨y321_v0, rfl, hy321_0⟩
          refine JL.loadH 0 az_26 rfl hc325 rfl .none rfl ?_
          obtain ⟨y326, hy326, hF⟩ := bind_some hF
          refine JL.callS (c_ref11_Wrongs n H311 t t_v2 (SL.mono R_Rain_mono (HSub.trans hs6 hs311) ht_2) t_v4 (SL.mono R_Fair_mono (HSub.trans hs6 hs311) ht_4) y321 y321_v0 hy321_0 y326 hy326) rfl en_69 .none rfl ?_
          refine JL.fieldAddr fo_25_3 rfl .none rfl ?_
          refine JL.loadOwn 0 az_3 rfl rfl rfl .none rfl ?_
          refine JL.bin rfl rfl rfl .none rfl ?_
          refine JL.doneQ hQ ?_
          refine JQ.go ?_
          refine JC.fresh (fun f => f 2 = .pointer (some ⟨b1, 0, none⟩) ∧ f 7 = vout_310 ∧ f 8 = y5a_v0 ∧ f 9 = .int .i64 i_309 ∧ f 36 = .bool (decide (y326 ≤ t.Wrong))) ⟨rfl, rfl, rfl, rfl, rfl⟩ ?_
          rintro f ⟨hf2, hf7, hf8, hf9, hf36⟩
          refine (JC.norm (i := 2) hf2 (JC.norm (i := 7) hf7 (JC.norm (i := 8) hf8 (JC.norm (i := 9) hf9 (JC.norm (i := 36) hf36 ?_)))))
          obtain ⟨r343, hlr343, hKr343⟩ := bind_some hF
          refine JC.join (fun (out_341 : List (List Int)) H342 f bs gs => ∃ (vout_341 : Value) (xsout_341 : List Value), f 2 = .pointer (some ⟨b1, 0, none⟩) ∧ f 7 = vout_341 ∧ f 8 = y5a_v0 ∧ f 9 = .int .i64 i_309 ∧ bs = [(b1, .cells [.int .i64 t.Days, .int .i64 t.Step, t_v2, .int .i64 t.Wrong, t_v4, .int .i64 t.Reach, .int .i64 t.Stock].toArray 25)] ∧ gs = [⟨vout_341, 26, 1, out_341.length, xsout_341⟩] ∧ CH H342 1 (RSl 1 RInt) xsout_341 out_341 ∧ HSub H311 H342 ∧ out_341 = r343) ?_ ?_
          · have hF := hlr343
            rcases ite_some hF with ⟨hc344, hF⟩ | ⟨hc344, hF⟩
            · refine JC.cond_t (b := decide (y326 ≤ t.Wrong)) rfl hc344 ?_
              refine JC.region (by rfl) ?_
              intro hQ
              refine JL.move .none rfl ?_
              refine JL.move .none rfl ?_
              refine JL.move .none rfl ?_
              obtain ⟨y345, hy345, hF⟩ := bind_some hF
              refine JL.indexSL (R := (RSl 1 RInt)) sl_72 (SL.mono (RSl.mono RInt.mono) hs311 hy5a_0) rfl hy345 .none rfl ?_
              rintro b346 o347 cs348 hc349 - ⟨y345_v0, rfl, hy345_0⟩
              refine JL.loadH 0 az_26 rfl hc349 rfl .none rfl ?_
              obtain ⟨a350, c351, rfl, hh352⟩ := hy345_0
              have hy345_0 : SL H311 1 RInt (.slice a350 y345.length c351) y345 := ⟨a350, c351, rfl, hh352⟩
              refine JL.buildSlice (e := 26) (l := [(.slice a350 y345.length c351)]) (by kernel_rfl) .none rfl ?_
              intro b353
              obtain ⟨l354, hl354, hF⟩ := bind_some hF
              refine JL.appO (R := (RSl 1 RInt)) 0 0 (l := out_310) (m := [y345]) ap_72 rfl ⟨rfl, rfl⟩ rfl hout_310 rfl rfl rfl (CH.cons (cs := [(.slice a350 y345.length c351)]) rfl ⟨_, rfl, hy345_0⟩ CH.nil) rfl (one_cons (SL.one hy345_0) one_nil) hl354 .none rfl ?_
              intro v355 xs356 hch357
              refine JL.assign .none rfl ?_
              refine JL.done hQ ?_
              obtain rfl := Option.some.inj hF
              refine JQ.mask [false, true] [true] ?_
              exact JQ.join l354 ⟨v355, xs356, rfl, rfl, rfl, rfl, rfl, rfl, hch357, (HSub.refl _), rfl⟩
            · refine JC.cond_f (b := decide (y326 ≤ t.Wrong)) rfl hc344 ?_
              refine JC.skip ?_
              obtain rfl := Option.some.inj hF
              exact JQ.join out_310 ⟨vout_310, xsout_310, rfl, rfl, rfl, rfl, rfl, rfl, hout_310, (HSub.refl _), rfl⟩
          · rintro out_341 H342 f bs gs ⟨vout_341, xsout_341, hf2, hf7, hf8, hf9, rfl, rfl, hout_341, hs342, rfl⟩
            have hF := hKr343
            try dsimp only at hF
            refine (JQ.norm (i := 2) hf2 (JQ.norm (i := 7) hf7 (JQ.norm (i := 8) hf8 (JQ.norm (i := 9) hf9 ?_))))
            refine JQ.normal_block ?_
            refine JQ.go ?_
            refine JC.region (by rfl) ?_
            intro hQ
            refine JL.move .none rfl ?_
            refine JL.bin rfl rfl rfl .none rfl ?_
            refine JL.assign .none rfl ?_
            refine JL.done hQ ?_
            obtain rfl := Option.some.inj hF
            exact JQ.next rfl ⟨vout_341, xsout_341, rfl, rfl, rfl, rfl, rfl, rfl, hout_341, (HSub.trans hs311 hs342)⟩
        · refine JC.cond_f (b := decide (i_309 < (y5.length : Int))) rfl hc314 ?_
          refine JC.exit ?_
          refine JQ.exit_then ?_
          refine JQ.exit_then ?_
          refine JQ.exit_block ?_
          obtain rfl := Option.some.inj hF
          have ehr312 := hr312 _ rfl
          subst ehr312
          refine JQ.mask [false] [true] ?_
          exact JQ.join out_310 ⟨vout_310, xsout_310, rfl, rfl, rfl, hout_310, hs311, rfl⟩
      · rintro out_212 H213 f bs gs ⟨vout_212, xsout_212, hf7, rfl, rfl, hout_212, hs213, rfl⟩
        have hF := hKr214
        try dsimp only at hF
        refine (JQ.norm (i := 7) hf7 ?_)
        refine JQ.go ?_
        refine JC.seq ?_
        refine JC.seq ?_
        refine JC.region (by rfl) ?_
        intro hQ
        refine JL.move .none rfl ?_
        refine JL.lenG 0 ul_72 rfl rfl .none rfl ?_
        refine JL.bin rfl rfl rfl .none rfl ?_
        refine JL.done hQ ?_
        refine JQ.go ?_
        rcases ite_some hF with ⟨hc358, hF⟩ | ⟨hc358, hF⟩
        · refine JC.cond_t (b := ((out_212.length : Int) == 0)) rfl hc358 ?_
          refine JC.seq ?_
          refine JC.region (by rfl) ?_
          intro hQ
          refine JL.assign .none rfl ?_
          refine JL.assign .none rfl ?_
          refine JL.done hQ ?_
          refine JQ.go ?_
          refine JC.ret ?_
          refine JQ.ret_then ?_
          obtain rfl := Option.some.inj hF
          exact JQ.outH rfl (.tmp (.tmp .nil)) ⟨(.slice none 0 0), rfl, SL.nil⟩
        · refine JC.cond_f (b := ((out_212.length : Int) == 0)) rfl hc358 ?_
          refine JC.skip ?_
          refine JQ.go ?_
          refine JC.seq ?_
          refine JC.region (by rfl) ?_
          intro hQ
          refine JL.move .none rfl ?_
          refine JL.assign .none rfl ?_
          refine JL.assign .none rfl ?_
          refine JL.done hQ ?_
          refine JQ.go ?_
          refine JC.ret ?_
          refine JQ.freezeG 0 (R := (RSl 1 RInt)) rfl (RSl.mono RInt.mono) hout_212 rfl ?_
          intro H359 hs359 hg360
          obtain rfl := Option.some.inj hF
          exact JQ.outH rfl (.tmp (.tmp .nil)) ⟨vout_212, rfl, hg360⟩

-- 32 ferrule/ferruleref11.Trade
def F_ref11_Trade_s1 (n : Nat) (t : Tour) (route : List Int) (levels : List Int) : Int × Int × Int → Option ((Int × Int × Int) ⊕ (Int × Int))
  | (takings_408, left_409, day_410) => if decide (day_410 < t.Days) = true then ((geti route day_410).bind fun y425 => (geti t.Fairs y425).bind fun y430 => (geti levels day_410).bind fun y480 => (geti y430.Sells y480).bind fun y485 => some (Sum.inl ((w64 (takings_408 + (w64 ((min left_409 y485) * y430.Price)))), (w64 (left_409 - (min left_409 y485))), (w64 (day_410 + 1))))) else (some (Sum.inr (takings_408, left_409)))
def F_ref11_Trade (n : Nat) (t : Tour) (route : List Int) (levels : List Int) : Option (Int × Int) :=
  (loopO n (F_ref11_Trade_s1 n t route levels) (0, t.Stock, 0)).bind fun r247 => match r247 with | (takings_244, left_245) => some (takings_244, left_245)
set_option maxRecDepth 100000 in
set_option maxHeartbeats 40000000 in
theorem c_ref11_Trade (n : Nat) (H : Hp) (t : Tour) (t_v2 : Value) (ht_2 : SL H 3 R_Rain t_v2 t.Rains) (t_v4 : Value) (ht_4 : SL H 2 R_Fair t_v4 t.Fairs) (route : List Int) (route_v0 : Value) (hroute_0 : SL H 1 RInt route_v0 route) (levels : List Int) (levels_v0 : Value) (hlevels_0 : SL H 1 RInt levels_v0 levels) (y : Int × Int) (hF : F_ref11_Trade n t route levels = some y) : SC Try.prog 32 [.agg [.int .i64 t.Days, .int .i64 t.Step, t_v2, .int .i64 t.Wrong, t_v4, .int .i64 t.Reach, .int .i64 t.Stock].toArray, route_v0, levels_v0] (.tuple [.int .i64 y.1, .int .i64 y.2].toArray) H := by
  rw [F_ref11_Trade] at hF
  refine SC.of (N := 48) Try.func32 rfl rfl rfl fun w => ?_
  refine JC.seq ?_
  refine JC.region (by rfl) ?_
  intro hQ
  refine JL.box (cs := [.int .i64 t.Days, .int .i64 t.Step, t_v2, .int .i64 t.Wrong, t_v4, .int .i64 t.Reach, .int .i64 t.Stock]) rfl .none rfl ?_
  intro b1
  refine JL.assign .none rfl ?_
  refine JL.assign .none rfl ?_
  refine JL.done hQ ?_
  refine JQ.go ?_
  refine JC.seq ?_
  refine JC.region (by rfl) ?_
  intro hQ
  refine JL.fieldAddr fo_25_6 rfl .none rfl ?_
  refine JL.loadOwn 0 az_3 rfl rfl rfl .none rfl ?_
  refine JL.assign .none rfl ?_
  refine JL.done hQ ?_
  refine JQ.go ?_
  refine JC.seq ?_
  refine JC.seq ?_
  refine JC.region (by rfl) ?_
  intro hQ
  refine JL.assign .none rfl ?_
  refine JL.done hQ ?_
  refine JQ.go ?_
  obtain ⟨r247, hlr247, hKr247⟩ := bind_some hF
  refine JC.join (fun (x : Int × Int) H246 f bs gs => match x with | (takings_244, left_245) => f 6 = .int .i64 takings_244 ∧ f 7 = .int .i64 left_245 ∧ bs = [] ∧ gs = [] ∧ HSub H H246 ∧ (takings_244, left_245) = r247) ?_ ?_
  · skip
    refine JC.block ?_
    refine JC.loop hlr247 (fun (x : Int × Int × Int) H411 f bs gs => match x with | (takings_408, left_409, day_410) => f 1 = route_v0 ∧ f 2 = levels_v0 ∧ f 3 = .pointer (some ⟨b1, 0, none⟩) ∧ f 6 = .int .i64 takings_408 ∧ f 7 = .int .i64 left_409 ∧ f 8 = .int .i64 day_410 ∧ bs = [(b1, .cells [.int .i64 t.Days, .int .i64 t.Step, t_v2, .int .i64 t.Wrong, t_v4, .int .i64 t.Reach, .int .i64 t.Stock].toArray 25)] ∧ gs = [] ∧ HSub H H411) ⟨rfl, rfl, rfl, rfl, rfl, rfl, rfl, rfl, (HSub.refl _)⟩ ?_
    rintro ⟨takings_408, left_409, day_410⟩ x413 H411 f bs gs ⟨hf1, hf2, hf3, hf6, hf7, hf8, rfl, rfl, hs411⟩ hF hr412
    rw [F_ref11_Trade_s1] at hF
    refine (JC.norm (i := 1) hf1 (JC.norm (i := 2) hf2 (JC.norm (i := 3) hf3 (JC.norm (i := 6) hf6 (JC.norm (i := 7) hf7 (JC.norm (i := 8) hf8 ?_))))))
    refine JC.seq ?_
    refine JC.seq ?_
    refine JC.region (by rfl) ?_
    intro hQ
    refine JL.move .none rfl ?_
    refine JL.fieldAddr fo_25_0 rfl .none rfl ?_
    refine JL.loadOwn 0 az_3 rfl rfl rfl .none rfl ?_
    refine JL.bin rfl rfl rfl .none rfl ?_
    refine JL.done hQ ?_
    refine JQ.go ?_
    rcases ite_some hF with ⟨hc414, hF⟩ | ⟨hc414, hF⟩
    · refine JC.cond_t (b := decide (day_410 < t.Days)) rfl hc414 ?_
      refine JC.skip ?_
      refine JQ.go ?_
      refine JC.seq ?_
      refine JC.block ?_
      refine JC.seq ?_
      obtain ⟨y425, hy425, hF⟩ := bind_some hF
      obtain ⟨y430, hy430, hF⟩ := bind_some hF
      refine JC.mixed 10 10 #[false, false, false, false, false, false, false, false, false, false] [(b1, .cells [.int .i64 t.Days, .int .i64 t.Step, t_v2, .int .i64 t.Wrong, t_v4, .int .i64 t.Reach, .int .i64 t.Stock].toArray 25)] (by rfl) mo_ (by kernel_rfl) (by kernel_rfl) ?_
      intro hQ hE
      refine JA.take 0 (listed' := #[true, false, false, false, false, false, false, false, false, false]) hQ rfl (by kernel_rfl) (by kernel_rfl) (by kernel_rfl) (by kernel_rfl) (by kernel_rfl) hE (HSub.refl _) (.cons_cons _ (List.nil_sublist _)) ?_
      refine JL.fieldAddr fo_25_4 rfl .none rfl ?_
      refine JA.cont ?_
      refine JA.take 1 (listed' := #[true, true, false, false, false, false, false, false, false, false]) hQ rfl (by kernel_rfl) (by kernel_rfl) (by kernel_rfl) (by kernel_rfl) (by kernel_rfl) hE (HSub.refl _) (.cons_cons _ (List.nil_sublist _)) ?_
      refine JL.loadOwn 0 az_23 rfl rfl rfl .none rfl ?_
      refine JA.cont ?_
      refine JA.take 2 (listed' := #[true, true, true, false, false, false, false, false, false, false]) hQ rfl (by kernel_rfl) (by kernel_rfl) (by kernel_rfl) (by kernel_rfl) (by kernel_rfl) hE (HSub.refl _) (.cons_cons _ (List.nil_sublist _)) ?_
      refine JL.move .none rfl ?_
      refine JA.cont ?_
      refine JA.take 3 (listed' := #[true, true, true, true, false, false, false, false, false, false]) hQ rfl (by kernel_rfl) (by kernel_rfl) (by kernel_rfl) (by kernel_rfl) (by kernel_rfl) hE (HSub.refl _) (.cons_cons _ (List.nil_sublist _)) ?_
      refine JL.move .none rfl ?_
      refine JA.cont ?_
      refine JA.take 4 (listed' := #[true, true, true, true, true, false, false, false, false, false]) hQ rfl (by kernel_rfl) (by kernel_rfl) (by kernel_rfl) (by kernel_rfl) (by kernel_rfl) hE (HSub.refl _) (.cons_cons _ (List.nil_sublist _)) ?_
      refine JL.indexSL (R := RInt) sl_26 (SL.mono RInt.mono hs411 hroute_0) rfl hy425 .none rfl ?_
      rintro b457 o458 cs459 hc460 - rfl
      refine JA.cont ?_
      refine JA.take 5 (listed' := #[true, true, true, true, true, true, false, false, false, false]) hQ rfl (by kernel_rfl) (by kernel_rfl) (by kernel_rfl) (by kernel_rfl) (by kernel_rfl) hE (HSub.refl _) (.cons_cons _ (List.nil_sublist _)) ?_
      refine JL.loadH 0 az_3 rfl hc460 rfl .none rfl ?_
      refine JA.cont ?_
      refine JA.take 6 (listed' := #[true, true, true, true, true, true, true, false, false, false]) hQ rfl (by kernel_rfl) (by kernel_rfl) (by kernel_rfl) (by kernel_rfl) (by kernel_rfl) hE (HSub.refl _) (.cons_cons _ (List.nil_sublist _)) ?_
      refine JL.indexSL (R := R_Fair) sl_23 (SL.mono R_Fair_mono hs411 ht_4) rfl hy430 .none rfl ?_
      rintro b465 o466 cs467 hc468 - ⟨y430_v1, rfl, hy430_1⟩
      refine JA.cont ?_
      refine JA.take 7 (listed' := #[true, true, true, true, true, true, true, true, false, false]) hQ rfl (by kernel_rfl) (by kernel_rfl) (by kernel_rfl) (by kernel_rfl) (by kernel_rfl) hE (HSub.refl _) (.cons_cons _ (List.nil_sublist _)) ?_
      refine JL.loadH 0 az_41 rfl hc468 rfl .none rfl ?_
      refine JA.cont ?_
      refine JA.many [8] (by kernel_rfl) (by simp) (all_one ⟨_, #[true, true, true, true, true, true, true, true, true, false], rfl, (by kernel_rfl), ?_⟩)
      refine JL.alloc ze_41 .none rfl ?_
      intro b469
      refine JA.after hE (HSub.refl _) (.cons _ (.cons_cons _ (List.nil_sublist _))) ?_
      refine JA.many [9] (by kernel_rfl) (by simp) (all_one ⟨_, #[true, true, true, true, true, true, true, true, true, true], rfl, (by kernel_rfl), ?_⟩)
      refine JL.storeOwn 0 (cs := [.int .i64 y430.Price, y430_v1]) az_41 rfl rfl rfl (one_cons rfl (one_cons (SL.one hy430_1) one_nil)) rfl rfl .none ?_
      refine JA.after hE (HSub.refl _) (.cons _ (.cons_cons _ (List.nil_sublist _))) ?_
      refine JA.done hQ (by kernel_rfl) ?_
      refine JQ.go ?_
      refine JC.fresh (fun f => f 1 = route_v0 ∧ f 2 = levels_v0 ∧ f 3 = .pointer (some ⟨b1, 0, none⟩) ∧ f 6 = .int .i64 takings_408 ∧ f 7 = .int .i64 left_409 ∧ f 8 = .int .i64 day_410 ∧ f 9 = .pointer (some ⟨b469, 0, none⟩)) ⟨rfl, rfl, rfl, rfl, rfl, rfl, rfl⟩ ?_
      rintro f ⟨hf1, hf2, hf3, hf6, hf7, hf8, hf9⟩
      refine (JC.norm (i := 1) hf1 (JC.norm (i := 2) hf2 (JC.norm (i := 3) hf3 (JC.norm (i := 6) hf6 (JC.norm (i := 7) hf7 (JC.norm (i := 8) hf8 (JC.norm (i := 9) hf9 ?_)))))))
      refine JC.seq ?_
      refine JC.draw (by rfl) mo_ (by kernel_rfl) ?_
      intro hQ
      refine JL.move .none rfl ?_
      refine JL.fieldAddr fo_41_1 rfl .none rfl ?_
      refine JL.loadOwn 0 az_26 rfl rfl rfl .none rfl ?_
      refine JL.move .none rfl ?_
      refine JL.move .none rfl ?_
      obtain ⟨y480, hy480, hF⟩ := bind_some hF
      refine JL.indexSL (R := RInt) sl_26 (SL.mono RInt.mono hs411 hlevels_0) rfl hy480 .none rfl ?_
      rintro b481 o482 cs483 hc484 - rfl
      refine JL.loadH 0 az_3 rfl hc484 rfl .none rfl ?_
      obtain ⟨y485, hy485, hF⟩ := bind_some hF
      refine JL.indexSL (R := RInt) sl_26 hy430_1 rfl hy485 .none rfl ?_
      rintro b486 o487 cs488 hc489 - rfl
      refine JL.loadH 0 az_3 rfl hc489 rfl .none rfl ?_
      refine JL.min rfl rfl .none rfl ?_
      refine JL.assign .none rfl ?_
      refine JL.doneQ hQ ?_
      refine JQ.go ?_
      refine JC.fresh (fun f => f 1 = route_v0 ∧ f 2 = levels_v0 ∧ f 3 = .pointer (some ⟨b1, 0, none⟩) ∧ f 6 = .int .i64 takings_408 ∧ f 7 = .int .i64 left_409 ∧ f 8 = .int .i64 day_410 ∧ f 9 = .pointer (some ⟨b469, 0, none⟩) ∧ f 10 = .int .i64 (min left_409 y485)) ⟨rfl, rfl, rfl, rfl, rfl, rfl, rfl, rfl⟩ ?_
      rintro f ⟨hf1, hf2, hf3, hf6, hf7, hf8, hf9, hf10⟩
      refine (JC.norm (i := 1) hf1 (JC.norm (i := 2) hf2 (JC.norm (i := 3) hf3 (JC.norm (i := 6) hf6 (JC.norm (i := 7) hf7 (JC.norm (i := 8) hf8 (JC.norm (i := 9) hf9 (JC.norm (i := 10) hf10 ?_))))))))
      refine JC.seq ?_
      refine JC.region (by rfl) ?_
      intro hQ
      refine JL.move .none rfl ?_
      refine JL.move .none rfl ?_
      refine JL.fieldAddr fo_41_0 rfl .none rfl ?_
      refine JL.loadOwn 0 az_3 rfl rfl rfl .none rfl ?_
      refine JL.bin rfl rfl rfl .none rfl ?_
      refine JL.bin rfl rfl rfl .none rfl ?_
      refine JL.assign .none rfl ?_
      refine JL.done hQ ?_
      refine JQ.go ?_
      refine JC.region (by rfl) ?_
      intro hQ
      refine JL.move .none rfl ?_
      refine JL.move .none rfl ?_
      refine JL.bin rfl rfl rfl .none rfl ?_
      refine JL.assign .none rfl ?_
      refine JL.done hQ ?_
      refine JQ.normal_block ?_
      refine JQ.go ?_
      refine JC.fresh (fun f => f 1 = route_v0 ∧ f 2 = levels_v0 ∧ f 3 = .pointer (some ⟨b1, 0, none⟩) ∧ f 6 = .int .i64 (w64 (takings_408 + (w64 ((min left_409 y485) * y430.Price)))) ∧ f 7 = .int .i64 (w64 (left_409 - (min left_409 y485))) ∧ f 8 = .int .i64 day_410) ⟨rfl, rfl, rfl, rfl, rfl, rfl⟩ ?_
      rintro f ⟨hf1, hf2, hf3, hf6, hf7, hf8⟩
      refine (JC.norm (i := 1) hf1 (JC.norm (i := 2) hf2 (JC.norm (i := 3) hf3 (JC.norm (i := 6) hf6 (JC.norm (i := 7) hf7 (JC.norm (i := 8) hf8 ?_))))))
      refine JC.region (by rfl) ?_
      intro hQ
      refine JL.move .none rfl ?_
      refine JL.bin rfl rfl rfl .none rfl ?_
      refine JL.assign .none rfl ?_
      refine JL.done hQ ?_
      obtain rfl := Option.some.inj hF
      refine JQ.mask [false, true] [] ?_
      exact JQ.next rfl ⟨rfl, rfl, rfl, rfl, rfl, rfl, rfl, rfl, hs411⟩
    · refine JC.cond_f (b := decide (day_410 < t.Days)) rfl hc414 ?_
      refine JC.exit ?_
      refine JQ.exit_then ?_
      refine JQ.exit_then ?_
      refine JQ.exit_block ?_
      obtain rfl := Option.some.inj hF
      have ehr412 := hr412 _ rfl
      subst ehr412
      refine JQ.mask [false] [] ?_
      exact JQ.join (takings_408, left_409) ⟨rfl, rfl, rfl, rfl, hs411, rfl⟩
  · rintro ⟨takings_244, left_245⟩ H246 f bs gs ⟨hf6, hf7, rfl, rfl, hs246, rfl⟩
    have hF := hKr247
    try dsimp only at hF
    refine (JQ.norm (i := 6) hf6 (JQ.norm (i := 7) hf7 ?_))
    refine JQ.go ?_
    refine JC.seq ?_
    refine JC.region (by rfl) ?_
    intro hQ
    refine JL.move .none rfl ?_
    refine JL.move .none rfl ?_
    refine JL.assign .none rfl ?_
    refine JL.assign .none rfl ?_
    refine JL.done hQ ?_
    refine JQ.go ?_
    refine JC.ret ?_
    obtain rfl := Option.some.inj hF
    exact JQ.outS rfl (.tmp (.tmp .nil)) rfl

-- 51 ferrule/ferruleref11.wider
def F_ref11_wider (n : Nat) (s : Span) (n_ : Int) (first : Bool) : Option Span :=
  if first = true then (some (Span.mk n_ n_)) else (some (Span.mk (min s.Low n_) (max s.High n_)))
set_option maxRecDepth 100000 in
set_option maxHeartbeats 40000000 in
theorem c_ref11_wider (n : Nat) (H : Hp) (s : Span) (n_ : Int) (first : Bool) (y : Span) (hF : F_ref11_wider n s n_ first = some y) : SC Try.prog 51 [.agg [.int .i64 s.Low, .int .i64 s.High].toArray, .int .i64 n_, .bool first] (.agg [.int .i64 y.Low, .int .i64 y.High].toArray) H := by
  rw [F_ref11_wider] at hF
  refine SC.of (N := 20) Try.func51 rfl rfl rfl fun w => ?_
  refine JC.seq ?_
  refine JC.region (by rfl) ?_
  intro hQ
  refine JL.box (cs := [.int .i64 s.Low, .int .i64 s.High]) rfl .none rfl ?_
  intro b1
  refine JL.alloc ze_31 .none rfl ?_
  intro b2
  refine JL.done hQ ?_
  refine JQ.go ?_
  refine JC.seq ?_
  refine JC.seq ?_
  refine JC.region (by rfl) ?_
  intro hQ
  refine JL.move .none rfl ?_
  refine JL.done hQ ?_
  refine JQ.go ?_
  rcases ite_some hF with ⟨hc3, hF⟩ | ⟨hc3, hF⟩
  · refine JC.cond_t (b := first) rfl hc3 ?_
    refine JC.seq ?_
    refine JC.region (by rfl) ?_
    intro hQ
    refine JL.move .none rfl ?_
    refine JL.move .none rfl ?_
    refine JL.build (l := [.int .i64 n_, .int .i64 n_]) (by kernel_rfl) .none rfl ?_
    refine JL.storeOwn 0 (cs := [.int .i64 n_, .int .i64 n_]) az_31 rfl rfl rfl (one_cons rfl (one_cons rfl one_nil)) rfl rfl .none ?_
    refine JL.done hQ ?_
    refine JQ.go ?_
    refine JC.ret ?_
    refine JQ.ret_then ?_
    obtain rfl := Option.some.inj hF
    exact JQ.outS rfl (.cell 0 az_31 rfl rfl rfl .nil) rfl
  · refine JC.cond_f (b := first) rfl hc3 ?_
    refine JC.skip ?_
    refine JQ.go ?_
    refine JC.seq ?_
    refine JC.region (by rfl) ?_
    intro hQ
    refine JL.fieldAddr fo_31_0 rfl .none rfl ?_
    refine JL.loadOwn 1 az_3 rfl rfl rfl .none rfl ?_
    refine JL.move .none rfl ?_
    refine JL.min rfl rfl .none rfl ?_
    refine JL.fieldAddr fo_31_1 rfl .none rfl ?_
    refine JL.loadOwn 1 az_3 rfl rfl rfl .none rfl ?_
    refine JL.move .none rfl ?_
    refine JL.max rfl rfl .none rfl ?_
    refine JL.build (l := [.int .i64 (min s.Low n_), .int .i64 (max s.High n_)]) (by kernel_rfl) .none rfl ?_
    refine JL.storeOwn 0 (cs := [.int .i64 (min s.Low n_), .int .i64 (max s.High n_)]) az_31 rfl rfl rfl (one_cons rfl (one_cons rfl one_nil)) rfl rfl .none ?_
    refine JL.done hQ ?_
    refine JQ.go ?_
    refine JC.fresh (fun f => f 6 = .pointer (some ⟨b2, 0, none⟩)) rfl ?_
    rintro f hf6
    refine (JC.norm (i := 6) hf6 ?_)
    refine JC.ret ?_
    obtain rfl := Option.some.inj hF
    exact JQ.outS rfl (.cell 0 az_31 rfl rfl rfl .nil) rfl

-- 49 ferrule/ferruleref11.takes
def F_ref11_takes_s1 (n : Nat) (t : Tour) (l : List (List Int)) (route : List Int) : Int × Int × Int → Option ((Int × Int × Int) ⊕ (Int × Int))
  | (i_100, z_101, z_102) => if decide (i_100 < (l.length : Int)) = true then ((geti l i_100).bind fun y113 => (F_ref11_Trade n t route y113).bind fun y118 => (F_ref11_wider n (Span.mk z_101 z_102) y118.1 (i_100 == 0)).bind fun y119 => some (Sum.inl ((w64 (i_100 + 1)), y119.Low, y119.High))) else (some (Sum.inr (z_101, z_102)))
def F_ref11_takes (n : Nat) (t : Tour) (l : List (List Int)) (route : List Int) : Option Span :=
  (loopO n (F_ref11_takes_s1 n t l route) (0, 0, 0)).bind fun r63 => match r63 with | (z_60, z_61) => some (Span.mk z_60 z_61)
set_option maxRecDepth 100000 in
set_option maxHeartbeats 40000000 in
theorem c_ref11_takes (n : Nat) (H : Hp) (t : Tour) (t_v2 : Value) (ht_2 : SL H 3 R_Rain t_v2 t.Rains) (t_v4 : Value) (ht_4 : SL H 2 R_Fair t_v4 t.Fairs) (l : List (List Int)) (l_v0 : Value) (hl_0 : SL H 1 (RSl 1 RInt) l_v0 l) (route : List Int) (route_v0 : Value) (hroute_0 : SL H 1 RInt route_v0 route) (y : Span) (hF : F_ref11_takes n t l route = some y) : SC Try.prog 49 [.agg [.int .i64 t.Days, .int .i64 t.Step, t_v2, .int .i64 t.Wrong, t_v4, .int .i64 t.Reach, .int .i64 t.Stock].toArray, l_v0, route_v0] (.agg [.int .i64 y.Low, .int .i64 y.High].toArray) H := by
  rw [F_ref11_takes] at hF
  refine SC.of (N := 33) Try.func49 rfl rfl rfl fun w => ?_
  refine JC.seq ?_
  refine JC.region (by rfl) ?_
  intro hQ
  refine JL.box (cs := [.int .i64 t.Days, .int .i64 t.Step, t_v2, .int .i64 t.Wrong, t_v4, .int .i64 t.Reach, .int .i64 t.Stock]) rfl .none rfl ?_
  intro b1
  refine JL.alloc ze_31 .none rfl ?_
  intro b2
  refine JL.done hQ ?_
  refine JQ.go ?_
  refine JC.seq ?_
  refine JC.region (by rfl) ?_
  intro hQ
  refine JL.alloc ze_31 .none rfl ?_
  intro b3
  refine JL.done hQ ?_
  refine JQ.go ?_
  refine JC.seq ?_
  refine JC.seq ?_
  refine JC.region (by rfl) ?_
  intro hQ
  refine JL.assign .none rfl ?_
  refine JL.done hQ ?_
  refine JQ.go ?_
  obtain ⟨r63, hlr63, hKr63⟩ := bind_some hF
  refine JC.join (fun (x : Int × Int) H62 f bs gs => match x with | (z_60, z_61) => f 6 = .pointer (some ⟨b2, 0, none⟩) ∧ f 7 = .pointer (some ⟨b3, 0, none⟩) ∧ bs = [(b3, .cells [.int .i64 z_60, .int .i64 z_61].toArray 31), (b2, .cells [.int .i64 0, .int .i64 0].toArray 31)] ∧ gs = [] ∧ HSub H H62 ∧ (z_60, z_61) = r63) ?_ ?_
  · skip
    refine JC.block ?_
    refine JC.loop hlr63 (fun (x : Int × Int × Int) H103 f bs gs => match x with | (i_100, z_101, z_102) => f 1 = l_v0 ∧ f 2 = route_v0 ∧ f 3 = .pointer (some ⟨b1, 0, none⟩) ∧ f 6 = .pointer (some ⟨b2, 0, none⟩) ∧ f 7 = .pointer (some ⟨b3, 0, none⟩) ∧ f 8 = .int .i64 i_100 ∧ bs = [(b3, .cells [.int .i64 z_101, .int .i64 z_102].toArray 31), (b2, .cells [.int .i64 0, .int .i64 0].toArray 31), (b1, .cells [.int .i64 t.Days, .int .i64 t.Step, t_v2, .int .i64 t.Wrong, t_v4, .int .i64 t.Reach, .int .i64 t.Stock].toArray 25)] ∧ gs = [] ∧ HSub H H103) ⟨rfl, rfl, rfl, rfl, rfl, rfl, rfl, rfl, (HSub.refl _)⟩ ?_
    rintro ⟨i_100, z_101, z_102⟩ x105 H103 f bs gs ⟨hf1, hf2, hf3, hf6, hf7, hf8, rfl, rfl, hs103⟩ hF hr104
    rw [F_ref11_takes_s1] at hF
    refine (JC.norm (i := 1) hf1 (JC.norm (i := 2) hf2 (JC.norm (i := 3) hf3 (JC.norm (i := 6) hf6 (JC.norm (i := 7) hf7 (JC.norm (i := 8) hf8 ?_))))))
    refine JC.seq ?_
    refine JC.seq ?_
    refine JC.region (by rfl) ?_
    intro hQ
    refine JL.move .none rfl ?_
    refine JL.move .none rfl ?_
    refine JL.lenSL (R := (RSl 1 RInt)) ul_72 (SL.mono (RSl.mono RInt.mono) hs103 hl_0) .none rfl ?_
    refine JL.bin rfl rfl rfl .none rfl ?_
    refine JL.done hQ ?_
    refine JQ.go ?_
    rcases ite_some hF with ⟨hc106, hF⟩ | ⟨hc106, hF⟩
    · refine JC.cond_t (b := decide (i_100 < (l.length : Int))) rfl hc106 ?_
      refine JC.skip ?_
      refine JQ.go ?_
      refine JC.seq ?_
      refine JC.block ?_
      refine JC.seq ?_
      refine JC.draw (by rfl) mo_ (by kernel_rfl) ?_
      intro hQ
      refine JL.loadOwn 2 az_25 rfl rfl rfl .none rfl ?_
      refine JL.move .none rfl ?_
      refine JL.move .none rfl ?_
      refine JL.move .none rfl ?_
      obtain ⟨y113, hy113, hF⟩ := bind_some hF
      refine JL.indexSL (R := (RSl 1 RInt)) sl_72 (SL.mono (RSl.mono RInt.mono) hs103 hl_0) rfl hy113 .none rfl ?_
      rintro b114 o115 cs116 hc117 - ⟨y113_v0, rfl, hy113_0⟩
      refine JL.loadH 0 az_26 rfl hc117 rfl .none rfl ?_
      obtain ⟨y118, hy118, hF⟩ := bind_some hF
      refine JL.callS (c_ref11_Trade n H103 t t_v2 (SL.mono R_Rain_mono hs103 ht_2) t_v4 (SL.mono R_Fair_mono hs103 ht_4) route route_v0 (SL.mono RInt.mono hs103 hroute_0) y113 y113_v0 hy113_0 y118 hy118) rfl en_32 .none rfl ?_
      refine JL.move .none rfl ?_
      refine JL.extract rfl rfl .none rfl ?_
      refine JL.extract rfl rfl .none rfl ?_
      refine JL.assign .none rfl ?_
      refine JL.assign .none rfl ?_
      refine JL.doneQ hQ ?_
      refine JQ.go ?_
      refine JC.fresh (fun f => f 1 = l_v0 ∧ f 2 = route_v0 ∧ f 3 = .pointer (some ⟨b1, 0, none⟩) ∧ f 6 = .pointer (some ⟨b2, 0, none⟩) ∧ f 7 = .pointer (some ⟨b3, 0, none⟩) ∧ f 8 = .int .i64 i_100 ∧ f 9 = .int .i64 y118.1) ⟨rfl, rfl, rfl, rfl, rfl, rfl, rfl⟩ ?_
      rintro f ⟨hf1, hf2, hf3, hf6, hf7, hf8, hf9⟩
      refine (JC.norm (i := 1) hf1 (JC.norm (i := 2) hf2 (JC.norm (i := 3) hf3 (JC.norm (i := 6) hf6 (JC.norm (i := 7) hf7 (JC.norm (i := 8) hf8 (JC.norm (i := 9) hf9 ?_)))))))
      refine JC.region (by rfl) ?_
      intro hQ
      refine JL.loadOwn 0 az_31 rfl rfl rfl .none rfl ?_
      refine JL.move .none rfl ?_
      refine JL.move .none rfl ?_
      refine JL.bin rfl rfl rfl .none rfl ?_
      obtain ⟨y119, hy119, hF⟩ := bind_some hF
      refine JL.callS (c_ref11_wider n H103 (Span.mk z_101 z_102) y118.1 (i_100 == 0) y119 hy119) rfl en_51 .none rfl ?_
      refine JL.storeOwn 0 (cs := [.int .i64 y119.Low, .int .i64 y119.High]) az_31 rfl rfl rfl (one_cons rfl (one_cons rfl one_nil)) rfl rfl .none ?_
      refine JL.done hQ ?_
      refine JQ.normal_block ?_
      refine JQ.go ?_
      refine JC.region (by rfl) ?_
      intro hQ
      refine JL.move .none rfl ?_
      refine JL.bin rfl rfl rfl .none rfl ?_
      refine JL.assign .none rfl ?_
      refine JL.done hQ ?_
      obtain rfl := Option.some.inj hF
      exact JQ.next rfl ⟨rfl, rfl, rfl, rfl, rfl, rfl, rfl, rfl, hs103⟩
    · refine JC.cond_f (b := decide (i_100 < (l.length : Int))) rfl hc106 ?_
      refine JC.exit ?_
      refine JQ.exit_then ?_
      refine JQ.exit_then ?_
      refine JQ.exit_block ?_
      obtain rfl := Option.some.inj hF
      have ehr104 := hr104 _ rfl
      subst ehr104
      refine JQ.mask [true, true, false] [] ?_
      exact JQ.join (z_101, z_102) ⟨rfl, rfl, rfl, rfl, hs103, rfl⟩
  · rintro ⟨z_60, z_61⟩ H62 f bs gs ⟨hf6, hf7, rfl, rfl, hs62, rfl⟩
    have hF := hKr63
    try dsimp only at hF
    refine (JQ.norm (i := 6) hf6 (JQ.norm (i := 7) hf7 ?_))
    refine JQ.go ?_
    refine JC.seq ?_
    refine JC.region (by rfl) ?_
    intro hQ
    refine JL.loadOwn 0 az_31 rfl rfl rfl .none rfl ?_
    refine JL.storeOwn 1 (cs := [.int .i64 z_60, .int .i64 z_61]) az_31 rfl rfl rfl (one_cons rfl (one_cons rfl one_nil)) rfl rfl .none ?_
    refine JL.done hQ ?_
    refine JQ.go ?_
    refine JC.ret ?_
    obtain rfl := Option.some.inj hF
    exact JQ.outS rfl (.cell 1 az_31 rfl rfl rfl .nil) rfl

end Go.Proofs.Ytooankffknoomaa
