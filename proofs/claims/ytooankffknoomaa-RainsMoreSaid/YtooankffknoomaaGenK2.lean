/-
  Printed by a program: functions of the translation as plain functions, and their contracts.
-/
import Derived.Test.YtooankffknoomaaGenK1
namespace Go.Proofs.Ytooankffknoomaa
open Go Go.RowKit Go.Dec
set_option linter.unusedVariables false
-- 74 slices.Clone[[]int,int]
def F_slices_Clone___int_int_ (n : Nat) (s : List Int) : Option (List Int) := lim s
set_option maxRecDepth 100000 in
theorem c_slices_Clone___int_int_ (n : Nat) (H : Hp) (s : List Int) (s_v0 : Value) (hs_0 : SL H 1 RInt s_v0 s) (y : List Int) (hF : F_slices_Clone___int_int_ n s = some y) : OC Try.prog 74 [s_v0] H 3 1 (fun m xs => m = y.length ∧ CH H 1 RInt xs y) := by
  rw [F_slices_Clone___int_int_] at hF
  have hl : lim (([] : List Int) ++ s) = some y := by rw [List.nil_append]; exact hF
  obtain ⟨rfl, _⟩ := lim_some hF
  obtain ⟨a, c, rfl, hh⟩ := id hs_0
  refine OC.of (N := 8) Try.func74 rfl rfl rfl fun w => ?_
  refine JC.seq ?_
  refine JC.region (by rfl) ?_
  intro hQ
  refine JL.assign .none rfl ?_
  refine JL.done hQ ?_
  refine JQ.go ?_
  refine JC.seq ?_
  refine JC.seq ?_
  refine JC.region (by rfl) ?_
  intro hQ
  refine JL.move .none rfl ?_
  refine JL.eqNil ul_26 rfl rfl .none rfl ?_
  refine JL.done hQ ?_
  refine JQ.go ?_
  cases a with
  | none =>
    have hnil : y = [] := by
      rcases hh.2 with h | ⟨b, o, h, _⟩
      · exact h
      · cases h
    subst hnil
    refine JC.cond_t (b := true) rfl rfl ?_
    refine JC.seq ?_
    refine JC.region (by rfl) ?_
    intro hQ
    refine JL.assign .none rfl ?_
    refine JL.newNil (e := 3) (sz := 1) ?_
    refine JL.done hQ ?_
    refine JQ.go ?_
    refine JC.ret ?_
    refine JQ.ret_then ?_
    exact JQ.outO 0 rfl rfl rfl ⟨rfl, rfl⟩ ⟨rfl, CH.nil⟩
  | some ad =>
    refine JC.cond_f (b := false) rfl rfl ?_
    refine JC.skip ?_
    refine JQ.go ?_
    refine JC.seq ?_
    refine JC.region (by rfl) ?_
    intro hQ
    refine JL.emptySlice ap_26 .none rfl ?_
    intro v1
    refine JL.move .none rfl ?_
    refine JL.appD (R := RInt) 0 (l := ([] : List Int)) (m := y) ap_26 rfl ⟨rfl, rfl⟩ rfl CH.nil rfl hs_0 (RInt.one _) hl .none rfl ?_
    intro v4 xs5 hch6
    refine JL.assign .none rfl ?_
    refine JL.done hQ ?_
    refine JQ.go ?_
    refine JC.ret ?_
    exact JQ.outO 0 rfl rfl rfl ⟨rfl, rfl⟩ ⟨rfl, hch6⟩

-- 59 ferrule/rains.open
def F_rains_open_s1 (n : Nat) (t : Tour) : (List (List Int)) → (List Int) → Option ((List (List Int)) ⊕ Unit)
  | out_385, x16 => (F_rains_wrong n t x16).bind fun y391 => (if decide (y391 ≤ t.Wrong) = true then ((F_slices_Clone___int_int_ n x16).bind fun y444 => (lim (out_385 ++ [y444])).bind fun l454 => some l454) else (some out_385)).bind fun out_440 => some (Sum.inl out_440)
def F_rains_open (n : Nat) (t : Tour) (is : Bool) : Option ((Option rains_weather) × Int) :=
  (F_rains_Check n t).bind fun y2 => if (y2 != 0) = true then (some ((none : Option rains_weather), y2)) else (if (!is) = true then (some ((none : Option rains_weather), 1)) else ((F_rains_levels n t).bind fun y13 => (I_rains_rows_1 n y13.1 y13.2.1 y13.2.2 (F_rains_open_s1 n t) ([] : List (List Int))).bind fun r387 => match r387 with | .inl out_385 => if ((out_385.length : Int) == 0) = true then (some ((none : Option rains_weather), 3)) else (some ((some (rains_weather.mk t out_385)), 0)) | .inr _ => none))
set_option maxRecDepth 100000 in
set_option maxHeartbeats 40000000 in
theorem c_rains_open (n : Nat) (H : Hp) (t : Tour) (t_v2 : Value) (ht_2 : SL H 3 R_Rain t_v2 t.Rains) (t_v4 : Value) (ht_4 : SL H 2 R_Fair t_v4 t.Fairs) (is : Bool) (y : (Option rains_weather) × Int) (hF : F_rains_open n t is = some y) : HC Try.prog 59 [.agg [.int .i64 t.Days, .int .i64 t.Step, t_v2, .int .i64 t.Wrong, t_v4, .int .i64 t.Reach, .int .i64 t.Stock].toArray, .bool is] H (fun H' v => ∃ ra_v0 : Value, v = .tuple [ra_v0, .int .i64 y.2].toArray ∧ PT H' R_rains_weather ra_v0 y.1) := by
  rw [F_rains_open] at hF
  refine HC.ofM (N := 46) Try.func59 rfl rfl rfl fun w => ?_
  refine JC.seq ?_
  refine JC.region (by rfl) ?_
  intro hQ
  refine JL.box (cs := [.int .i64 t.Days, .int .i64 t.Step, t_v2, .int .i64 t.Wrong, t_v4, .int .i64 t.Reach, .int .i64 t.Stock]) rfl .none rfl ?_
  intro b1
  refine JL.assign .none rfl ?_
  refine JL.assign .none rfl ?_
  refine JL.done hQ ?_
  refine JQ.go ?_
  refine JC.seq ?_
  refine JC.seq ?_
  refine JC.region (by rfl) ?_
  intro hQ
  refine JL.loadOwn 0 az_25 rfl rfl rfl .none rfl ?_
  obtain ⟨y2, hy2, hF⟩ := bind_some hF
  refine JL.callS (c_rains_Check n H t t_v2 ht_2 t_v4 ht_4 y2 hy2) rfl en_37 .none rfl ?_
  refine JL.assign .none rfl ?_
  refine JL.done hQ ?_
  refine JQ.go ?_
  refine JC.seq ?_
  refine JC.region (by rfl) ?_
  intro hQ
  refine JL.move .none rfl ?_
  refine JL.bin rfl rfl rfl .none rfl ?_
  refine JL.done hQ ?_
  refine JQ.go ?_
  rcases ite_some hF with ⟨hc3, hF⟩ | ⟨hc3, hF⟩
  · refine JC.cond_t (b := (y2 != 0)) rfl hc3 ?_
    refine JC.seq ?_
    refine JC.region (by rfl) ?_
    intro hQ
    refine JL.move .none rfl ?_
    refine JL.assign .none rfl ?_
    refine JL.assign .none rfl ?_
    refine JL.done hQ ?_
    refine JQ.go ?_
    refine JC.ret ?_
    refine JQ.ret_then ?_
    obtain rfl := Option.some.inj hF
    exact JQ.outHM rfl .nil (.tmp (.tmp .nil)) ⟨(.pointer none), rfl, rfl⟩
  · refine JC.cond_f (b := (y2 != 0)) rfl hc3 ?_
    refine JC.skip ?_
    refine JQ.go ?_
    refine JC.seq ?_
    refine JC.seq ?_
    refine JC.region (by rfl) ?_
    intro hQ
    refine JL.move .none rfl ?_
    refine JL.not rfl .none rfl ?_
    refine JL.done hQ ?_
    refine JQ.go ?_
    rcases ite_some hF with ⟨hc4, hF⟩ | ⟨hc4, hF⟩
    · refine JC.cond_t (b := (!is)) rfl hc4 ?_
      refine JC.seq ?_
      refine JC.region (by rfl) ?_
      intro hQ
      refine JL.assign .none rfl ?_
      refine JL.assign .none rfl ?_
      refine JL.done hQ ?_
      refine JQ.go ?_
      refine JC.ret ?_
      refine JQ.ret_then ?_
      obtain rfl := Option.some.inj hF
      exact JQ.outHM rfl .nil (.tmp (.tmp .nil)) ⟨(.pointer none), rfl, rfl⟩
    · refine JC.cond_f (b := (!is)) rfl hc4 ?_
      refine JC.skip ?_
      refine JQ.go ?_
      refine JC.seq ?_
      refine JC.region (by rfl) ?_
      intro hQ
      refine JL.loadOwn 0 az_25 rfl rfl rfl .none rfl ?_
      obtain ⟨a5, c6, rfl, hh7⟩ := ht_2
      have ht_2 : SL H 3 R_Rain (.slice a5 t.Rains.length c6) t.Rains := ⟨a5, c6, rfl, hh7⟩
      obtain ⟨a8, c9, rfl, hh10⟩ := ht_4
      have ht_4 : SL H 2 R_Fair (.slice a8 t.Fairs.length c9) t.Fairs := ⟨a8, c9, rfl, hh10⟩
      refine JL.build (l := [.int .i64 t.Days, .int .i64 t.Step, (.slice a5 t.Rains.length c6), .int .i64 t.Wrong, (.slice a8 t.Fairs.length c9), .int .i64 t.Reach, .int .i64 t.Stock, .slice none 0 0]) (by kernel_rfl) .none rfl ?_
      refine JL.box (cs := [.int .i64 t.Days, .int .i64 t.Step, (.slice a5 t.Rains.length c6), .int .i64 t.Wrong, (.slice a8 t.Fairs.length c9), .int .i64 t.Reach, .int .i64 t.Stock, .slice none 0 0]) rfl .none rfl ?_
      intro b11
      refine JL.alloc ze_85 .none rfl ?_
      intro b12
      refine JL.storeOwn 0 (cs := [.pointer (some ⟨b11, 0, none⟩)]) az_85 rfl rfl rfl (one_cons rfl one_nil) rfl rfl .none ?_
      refine JL.done hQ ?_
      refine JQ.go ?_
      refine JC.fresh (fun f => f 2 = .pointer (some ⟨b1, 0, none⟩) ∧ f 4 = .pointer none ∧ f 5 = .int .i64 0 ∧ f 7 = .pointer (some ⟨b12, 0, none⟩)) ⟨rfl, rfl, rfl, rfl⟩ ?_
      rintro f ⟨hf2, hf4, hf5, hf7⟩
      refine (JC.norm (i := 2) hf2 (JC.norm (i := 4) hf4 (JC.norm (i := 5) hf5 (JC.norm (i := 7) hf7 ?_))))
      refine JC.seq ?_
      refine JC.seq ?_
      refine JC.region (by rfl) ?_
      intro hQ
      refine JL.loadOwn 2 az_25 rfl rfl rfl .none rfl ?_
      obtain ⟨y13, hy13, hF⟩ := bind_some hF
      refine JL.callH (c_rains_levels n H t (.slice a5 t.Rains.length c6) ht_2 (.slice a8 t.Fairs.length c9) ht_4 y13 hy13) rfl en_57 .none rfl ?_
      rintro H14 vv15 hs14 ⟨y13_b0, y13_b1, y13_b2, rfl, hy13_b0, hy13_b1, hy13_b2⟩
      refine JL.done hQ ?_
      refine JQ.go ?_
      refine JC.block ?_
      refine JC.newNil (e := 26) (sz := 1) ?_
      obtain ⟨r387, hl388, hF⟩ := bind_some hF
      refine JC.rangeFunc (ρ := Unit) (V := (VRow 3)) (F := fun _ _ step s => I_rains_rows_1 n y13.1 y13.2.1 y13.2.2 step s) rfl en_82 (it_rains_rows_1 n H14 y13.1 y13_b0 hy13_b0 y13.2.1 y13_b1 hy13_b1 y13.2.2 y13_b2 hy13_b2) rfl hl388 (fun (out_385 : List (List Int)) H386 fr gs => ∃ (vout_385 : Value) (xsout_385 : List Value), fr = [(b12, .cells [.pointer (some ⟨b11, 0, none⟩)].toArray 85), (b11, .cells [.int .i64 t.Days, .int .i64 t.Step, (.slice a5 t.Rains.length c6), .int .i64 t.Wrong, (.slice a8 t.Fairs.length c9), .int .i64 t.Reach, .int .i64 t.Stock, vout_385].toArray 89), (b1, .cells [.int .i64 t.Days, .int .i64 t.Step, (.slice a5 t.Rains.length c6), .int .i64 t.Wrong, (.slice a8 t.Fairs.length c9), .int .i64 t.Reach, .int .i64 t.Stock].toArray 25)] ∧ gs = [⟨vout_385, 26, 1, out_385.length, xsout_385⟩] ∧ CH H386 1 (RSl 1 RInt) xsout_385 out_385 ∧ HSub H14 H386) (fun _ _ _ _ _ => False) ⟨(.slice none 0 0), [], rfl, rfl, CH.nil, (HSub.refl _)⟩ ?_ ?_ ?_
      · rintro l17 out_385 x16 y389 v18 own T19 H386 fr gs ⟨vout_385, xsout_385, rfl, rfl, hout_385, hs386⟩ hF ⟨b21, c22, rfl, rfl, hb23, hb24⟩ -
        rw [F_rains_open_s1] at hF
        refine JC.region (by rfl) ?_
        intro hQ
        refine JL.assign .none rfl ?_
        refine JL.done hQ ?_
        refine JQ.assigned [(b12, .cells [.pointer (some ⟨b11, 0, none⟩)].toArray 85), (b11, .cells [.int .i64 t.Days, .int .i64 t.Step, (.slice a5 t.Rains.length c6), .int .i64 t.Wrong, (.slice a8 t.Fairs.length c9), .int .i64 t.Reach, .int .i64 t.Stock, vout_385].toArray 89), (b1, .cells [.int .i64 t.Days, .int .i64 t.Step, (.slice a5 t.Rains.length c6), .int .i64 t.Wrong, (.slice a8 t.Fairs.length c9), .int .i64 t.Reach, .int .i64 t.Stock].toArray 25), (b21, .cells (x16.map (Value.int .i64)).toArray 3)] (fun T20 => ?_)
        refine JC.block ?_
        refine JC.seq ?_
        refine JC.draw (by rfl) mo_ (by kernel_rfl) ?_
        intro hQ
        refine JL.loadOwn 2 az_25 rfl rfl rfl .none rfl ?_
        refine JL.move .none rfl ?_
        obtain ⟨y391, hy391, hF⟩ := bind_some hF
        refine JL.callLS 3 rfl (fun hz => c_rains_wrong n _ t (.slice a5 t.Rains.length c6) (SL.mono R_Rain_mono hz (SL.mono R_Rain_mono (HSub.trans hs14 hs386) ht_2)) (.slice a8 t.Fairs.length c9) (SL.mono R_Fair_mono hz (SL.mono R_Fair_mono (HSub.trans hs14 hs386) ht_4)) x16 (.slice (some ⟨b21, 0, none⟩) x16.length c22) (SL.lentRow hb23 hb24) y391 hy391) rfl en_58 .none rfl ?_
        refine JL.fieldAddr fo_25_3 rfl .none rfl ?_
        refine JL.loadOwn 2 az_3 rfl rfl rfl .none rfl ?_
        refine JL.bin rfl rfl rfl .none rfl ?_
        refine JL.doneQ hQ ?_
        refine JQ.go ?_
        obtain ⟨r442, hlr442, hKr442⟩ := bind_some hF
        refine JC.join (fun (out_440 : List (List Int)) H441 f bs gs => ∃ (vout_440 : Value) (xsout_440 : List Value), bs = ((b12, .cells [.pointer (some ⟨b11, 0, none⟩)].toArray 85) :: (b11, .cells [.int .i64 t.Days, .int .i64 t.Step, (.slice a5 t.Rains.length c6), .int .i64 t.Wrong, (.slice a8 t.Fairs.length c9), .int .i64 t.Reach, .int .i64 t.Stock, vout_440].toArray 89) :: (b1, .cells [.int .i64 t.Days, .int .i64 t.Step, (.slice a5 t.Rains.length c6), .int .i64 t.Wrong, (.slice a8 t.Fairs.length c9), .int .i64 t.Reach, .int .i64 t.Stock].toArray 25) :: (b21, .cells (x16.map (Value.int .i64)).toArray 3) :: T20) ∧ gs = [⟨vout_440, 26, 1, out_440.length, xsout_440⟩] ∧ CH H441 1 (RSl 1 RInt) xsout_440 out_440 ∧ HSub H386 H441 ∧ out_440 = r442) ?_ ?_
        · have hF := hlr442
          rcases ite_some hF with ⟨hc443, hF⟩ | ⟨hc443, hF⟩
          · refine JC.cond_t (b := decide (y391 ≤ t.Wrong)) rfl hc443 ?_
            obtain ⟨y444, hy444, hF⟩ := bind_some hF
            obtain ⟨l454, hl454, hF⟩ := bind_some hF
            refine JC.mixed 11 12 #[false, false, false, false, false, false, false, false, false, false, false, false] [(b12, .cells [.pointer (some ⟨b11, 0, none⟩)].toArray 85), (b11, .cells [.int .i64 t.Days, .int .i64 t.Step, (.slice a5 t.Rains.length c6), .int .i64 t.Wrong, (.slice a8 t.Fairs.length c9), .int .i64 t.Reach, .int .i64 t.Stock, vout_385].toArray 89), (b1, .cells [.int .i64 t.Days, .int .i64 t.Step, (.slice a5 t.Rains.length c6), .int .i64 t.Wrong, (.slice a8 t.Fairs.length c9), .int .i64 t.Reach, .int .i64 t.Stock].toArray 25), (b21, .cells (x16.map (Value.int .i64)).toArray 3)] (by rfl) mo_ (by kernel_rfl) (by kernel_rfl) ?_
            intro hQ hE
            refine JA.take 0 (listed' := #[true, false, false, false, false, false, false, false, false, false, false, false]) hQ rfl (by kernel_rfl) (by kernel_rfl) (by kernel_rfl) (by kernel_rfl) (by kernel_rfl) hE (HSub.refl _) (.cons_cons _ (.cons_cons _ (.cons_cons _ (.cons_cons _ (List.nil_sublist _))))) ?_
            refine JL.loadOwn 0 az_85 rfl rfl rfl .none rfl ?_
            refine JA.cont ?_
            refine JA.take 1 (listed' := #[true, true, false, false, false, false, false, false, false, false, false, false]) hQ rfl (by kernel_rfl) (by kernel_rfl) (by kernel_rfl) (by kernel_rfl) (by kernel_rfl) hE (HSub.refl _) (.cons_cons _ (.cons_cons _ (.cons_cons _ (.cons_cons _ (List.nil_sublist _))))) ?_
            refine JL.loadOwn 0 az_85 rfl rfl rfl .none rfl ?_
            refine JA.cont ?_
            refine JA.take 2 (listed' := #[true, true, true, false, false, false, false, false, false, false, false, false]) hQ rfl (by kernel_rfl) (by kernel_rfl) (by kernel_rfl) (by kernel_rfl) (by kernel_rfl) hE (HSub.refl _) (.cons_cons _ (.cons_cons _ (.cons_cons _ (.cons_cons _ (List.nil_sublist _))))) ?_
            refine JL.nilCheck rfl .none rfl ?_
            refine JA.cont ?_
            refine JA.take 3 (listed' := #[true, true, true, true, false, false, false, false, false, false, false, false]) hQ rfl (by kernel_rfl) (by kernel_rfl) (by kernel_rfl) (by kernel_rfl) (by kernel_rfl) hE (HSub.refl _) (.cons_cons _ (.cons_cons _ (.cons_cons _ (.cons_cons _ (List.nil_sublist _))))) ?_
            refine JL.fieldAddr fo_89_1 rfl .none rfl ?_
            refine JA.cont ?_
            refine JA.take 4 (listed' := #[true, true, true, true, true, false, false, false, false, false, false, false]) hQ rfl (by kernel_rfl) (by kernel_rfl) (by kernel_rfl) (by kernel_rfl) (by kernel_rfl) hE (HSub.refl _) (.cons_cons _ (.cons_cons _ (.cons_cons _ (.cons_cons _ (List.nil_sublist _))))) ?_
            refine JL.loadOwn 1 az_72 rfl rfl rfl .none rfl ?_
            refine JA.cont ?_
            refine JA.take 5 (listed' := #[true, true, true, true, true, true, false, false, false, false, false, false]) hQ rfl (by kernel_rfl) (by kernel_rfl) (by kernel_rfl) (by kernel_rfl) (by kernel_rfl) hE (HSub.refl _) (.cons_cons _ (.cons_cons _ (.cons_cons _ (.cons_cons _ (List.nil_sublist _))))) ?_
            refine JL.move .none rfl ?_
            refine JA.cont ?_
            refine JA.many [6] (by kernel_rfl) (by simp) (all_one ⟨_, #[true, true, true, true, true, true, true, false, false, false, false, false], rfl, (by kernel_rfl), ?_⟩)
            refine JL.callLO 3 rfl (fun hz => c_slices_Clone___int_int_ n _ x16 (.slice (some ⟨b21, 0, none⟩) x16.length c22) (SL.lentRow hb23 hb24) y444 hy444) rfl en_74 .none rfl ?_
            rintro v476 _ xs477 ⟨rfl, hch478⟩
            replace hch478 := CH.flat (H' := H386) hch478
            refine JA.after hE (HSub.refl _) (.cons_cons _ (.cons_cons _ (.cons_cons _ (.cons_cons _ (List.nil_sublist _))))) ?_
            refine JA.many [7] (by kernel_rfl) (by simp) (all_one ⟨_, #[true, true, true, true, true, true, true, true, false, false, false, false], rfl, (by kernel_rfl), ?_⟩)
            refine JL.formG 0 rfl (fun a480 n481 c482 hh483 => ?_)
            dsimp only at hh483
            subst hh483
            refine JL.buildSlice (e := 26) (l := [(.slice a480 n481 c482)]) (by kernel_rfl) .none rfl ?_
            intro b484
            refine JA.after hE (HSub.refl _) (.cons _ (.cons_cons _ (.cons_cons _ (.cons_cons _ (.cons_cons _ (List.nil_sublist _)))))) ?_
            refine JA.many [8] (by kernel_rfl) (by simp) (all_one ⟨_, #[true, true, true, true, true, true, true, true, true, false, false, false], rfl, (by kernel_rfl), ?_⟩)
            refine JL.freezeG 0 (R := RInt) rfl RInt.mono hch478 rfl ?_
            intro H485 hs485 hg486
            refine JL.appO (R := (RSl 1 RInt)) 0 0 (l := out_385) (m := [y444]) ap_72 rfl ⟨rfl, rfl⟩ rfl (CH.mono (RSl.mono RInt.mono) hs485 hout_385) rfl rfl rfl (CH.cons (cs := [(.slice a480 n481 c482)]) rfl ⟨_, rfl, hg486⟩ CH.nil) rfl (one_cons (SL.one hg486) one_nil) hl454 .none rfl ?_
            intro v487 xs488 hch489
            refine JA.after hE hs485 (.cons _ (.cons_cons _ (.cons_cons _ (.cons_cons _ (.cons_cons _ (List.nil_sublist _)))))) ?_
            refine JA.many [9] (by kernel_rfl) (by simp) (all_one ⟨_, #[true, true, true, true, true, true, true, true, true, true, false, false], rfl, (by kernel_rfl), ?_⟩)
            refine JL.nilCheck rfl .none rfl ?_
            refine JA.after hE hs485 (.cons _ (.cons_cons _ (.cons_cons _ (.cons_cons _ (.cons_cons _ (List.nil_sublist _)))))) ?_
            refine JA.take 10 (listed' := #[true, true, true, true, true, true, true, true, true, true, true, false]) hQ rfl (by kernel_rfl) (by kernel_rfl) (by kernel_rfl) (by kernel_rfl) (by kernel_rfl) hE hs485 (.cons _ (.cons_cons _ (.cons_cons _ (.cons_cons _ (.cons_cons _ (List.nil_sublist _)))))) ?_
            refine JL.fieldAddr fo_89_1 rfl .none rfl ?_
            refine JA.cont ?_
            refine JA.many [11] (by kernel_rfl) (by simp) (all_one ⟨_, #[true, true, true, true, true, true, true, true, true, true, true, true], rfl, (by kernel_rfl), ?_⟩)
            refine JL.oneG 0 rfl (fun ho490 => ?_)
            refine JL.storeOwn 2 (cs := [v487]) az_72 rfl ho490.2 rfl (one_cons ho490.1 one_nil) rfl rfl .none ?_
            refine JA.sink (by kernel_rfl) ?_
            refine JA.done hQ (by kernel_rfl) ?_
            obtain rfl := Option.some.inj hF
            refine JQ.mask [false, true, true, true, true] [true] ?_
            exact JQ.join l454 ⟨v487, xs488, rfl, rfl, hch489, hs485, rfl⟩
          · refine JC.cond_f (b := decide (y391 ≤ t.Wrong)) rfl hc443 ?_
            refine JC.skip ?_
            obtain rfl := Option.some.inj hF
            exact JQ.join out_385 ⟨vout_385, xsout_385, rfl, rfl, hout_385, (HSub.refl _), rfl⟩
        · rintro out_440 H441 f bs gs ⟨vout_440, xsout_440, rfl, rfl, hout_440, hs441, rfl⟩
          have hF := hKr442
          try dsimp only at hF
          refine JQ.normal_block ?_
          obtain rfl := Option.some.inj hF
          refine JQ.round rfl [(b12, .cells [.pointer (some ⟨b11, 0, none⟩)].toArray 85), (b11, .cells [.int .i64 t.Days, .int .i64 t.Step, (.slice a5 t.Rains.length c6), .int .i64 t.Wrong, (.slice a8 t.Fairs.length c9), .int .i64 t.Reach, .int .i64 t.Stock, vout_440].toArray 89), (b1, .cells [.int .i64 t.Days, .int .i64 t.Step, (.slice a5 t.Rains.length c6), .int .i64 t.Wrong, (.slice a8 t.Fairs.length c9), .int .i64 t.Reach, .int .i64 t.Stock].toArray 25)] hs441 ?_
          exact ⟨vout_440, xsout_440, rfl, rfl, hout_440, (HSub.trans hs386 hs441)⟩
      · rintro D491 out_385 H386 fr gs rfl ⟨vout_385, xsout_385, rfl, rfl, hout_385, hs386⟩ -
        try dsimp only at hF
        refine JQ.normal_block ?_
        refine JQ.go ?_
        refine JC.seq ?_
        refine JC.seq ?_
        refine JC.region (by rfl) ?_
        intro hQ
        refine JL.loadOwn 0 az_85 rfl rfl rfl .none rfl ?_
        refine JL.nilCheck rfl .none rfl ?_
        refine JL.fieldAddr fo_89_1 rfl .none rfl ?_
        refine JL.loadOwn 1 az_72 rfl rfl rfl .none rfl ?_
        refine JL.lenG 0 ul_72 rfl rfl .none rfl ?_
        refine JL.bin rfl rfl rfl .none rfl ?_
        refine JL.done hQ ?_
        refine JQ.go ?_
        rcases ite_some hF with ⟨hc492, hF⟩ | ⟨hc492, hF⟩
        · refine JC.cond_t (b := ((out_385.length : Int) == 0)) rfl hc492 ?_
          refine JC.seq ?_
          refine JC.region (by rfl) ?_
          intro hQ
          refine JL.assign .none rfl ?_
          refine JL.assign .none rfl ?_
          refine JL.done hQ ?_
          refine JQ.go ?_
          refine JC.ret ?_
          refine JQ.ret_then ?_
          obtain rfl := Option.some.inj hF
          exact JQ.outHM rfl (.cons 3 rfl .nil) (.tmp (.tmp .nil)) ⟨(.pointer none), rfl, rfl⟩
        · refine JC.cond_f (b := ((out_385.length : Int) == 0)) rfl hc492 ?_
          refine JC.skip ?_
          refine JQ.go ?_
          refine JC.seq ?_
          refine JC.region (by rfl) ?_
          intro hQ
          refine JL.loadOwn 0 az_85 rfl rfl rfl .none rfl ?_
          refine JL.assign .none rfl ?_
          refine JL.assign .none rfl ?_
          refine JL.done hQ ?_
          refine JQ.go ?_
          refine JC.ret ?_
          refine JQ.freezeG 0 (R := (RSl 1 RInt)) rfl (RSl.mono RInt.mono) hout_385 rfl ?_
          intro H493 hs493 hg494
          refine JQ.freezeC 1 (l := [.int .i64 t.Days, .int .i64 t.Step, (.slice a5 t.Rains.length c6), .int .i64 t.Wrong, (.slice a8 t.Fairs.length c9), .int .i64 t.Reach, .int .i64 t.Stock, vout_385]) rfl ?_
          intro H495 hs495 hc496
          obtain rfl := Option.some.inj hF
          exact JQ.outHM rfl (.cons 2 rfl .nil) (.tmp (.tmp .nil)) ⟨(.pointer (some ⟨b11, 0, none⟩)), rfl, ⟨_, _, _, rfl, hc496, ⟨(.slice a5 t.Rains.length c6), (.slice a8 t.Fairs.length c9), vout_385, rfl, (SL.mono R_Rain_mono (HSub.trans hs14 (HSub.trans hs386 (HSub.trans hs493 hs495))) ht_2), (SL.mono R_Fair_mono (HSub.trans hs14 (HSub.trans hs386 (HSub.trans hs493 hs495))) ht_4), (SL.mono (RSl.mono RInt.mono) hs495 hg494)⟩⟩⟩
      · rintro _ _ _ _ _ _ _ h; exact h.elim

-- 29 ferrule/rains.Many
def F_rains_Many (n : Nat) (t : Tour) : Option (Int × Int) :=
  (F_rains_open n t true).bind fun y2 => if (y2.2 != 0) = true then (some (0, y2.2)) else (y2.1.bind fun w6 => some ((w6.truths.length : Int), 0))
set_option maxRecDepth 100000 in
set_option maxHeartbeats 40000000 in
theorem c_rains_Many (n : Nat) (H : Hp) (t : Tour) (t_v2 : Value) (ht_2 : SL H 3 R_Rain t_v2 t.Rains) (t_v4 : Value) (ht_4 : SL H 2 R_Fair t_v4 t.Fairs) (y : Int × Int) (hF : F_rains_Many n t = some y) : SC Try.prog 29 [.agg [.int .i64 t.Days, .int .i64 t.Step, t_v2, .int .i64 t.Wrong, t_v4, .int .i64 t.Reach, .int .i64 t.Stock].toArray] (.tuple [.int .i64 y.1, .int .i64 y.2].toArray) H := by
  rw [F_rains_Many] at hF
  refine SC.of (N := 19) Try.func29 rfl rfl rfl fun w => ?_
  refine JC.seq ?_
  refine JC.region (by rfl) ?_
  intro hQ
  refine JL.box (cs := [.int .i64 t.Days, .int .i64 t.Step, t_v2, .int .i64 t.Wrong, t_v4, .int .i64 t.Reach, .int .i64 t.Stock]) rfl .none rfl ?_
  intro b1
  refine JL.assign .none rfl ?_
  refine JL.assign .none rfl ?_
  refine JL.done hQ ?_
  refine JQ.go ?_
  refine JC.seq ?_
  refine JC.region (by rfl) ?_
  intro hQ
  refine JL.loadOwn 0 az_25 rfl rfl rfl .none rfl ?_
  obtain ⟨y2, hy2, hF⟩ := bind_some hF
  refine JL.callH (c_rains_open n H t t_v2 ht_2 t_v4 ht_4 true y2 hy2) rfl en_59 .none rfl ?_
  rintro H3 vv4 hs3 ⟨y2a_v0, rfl, hy2a_0⟩
  refine JL.move .none rfl ?_
  refine JL.extract rfl rfl .none rfl ?_
  refine JL.extract rfl rfl .none rfl ?_
  refine JL.assign .none rfl ?_
  refine JL.assign .none rfl ?_
  refine JL.done hQ ?_
  refine JQ.go ?_
  refine JC.seq ?_
  refine JC.seq ?_
  refine JC.region (by rfl) ?_
  intro hQ
  refine JL.move .none rfl ?_
  refine JL.bin rfl rfl rfl .none rfl ?_
  refine JL.done hQ ?_
  refine JQ.go ?_
  rcases ite_some hF with ⟨hc5, hF⟩ | ⟨hc5, hF⟩
  · refine JC.cond_t (b := (y2.2 != 0)) rfl hc5 ?_
    refine JC.seq ?_
    refine JC.region (by rfl) ?_
    intro hQ
    refine JL.move .none rfl ?_
    refine JL.assign .none rfl ?_
    refine JL.assign .none rfl ?_
    refine JL.done hQ ?_
    refine JQ.go ?_
    refine JC.fresh (fun f => f 2 = .int .i64 0 ∧ f 3 = .int .i64 y2.2) ⟨rfl, rfl⟩ ?_
    rintro f ⟨hf2, hf3⟩
    refine (JC.norm (i := 2) hf2 (JC.norm (i := 3) hf3 ?_))
    refine JC.ret ?_
    refine JQ.ret_then ?_
    obtain rfl := Option.some.inj hF
    exact JQ.outS rfl (.tmp (.tmp .nil)) rfl
  · refine JC.cond_f (b := (y2.2 != 0)) rfl hc5 ?_
    refine JC.skip ?_
    refine JQ.go ?_
    refine JC.seq ?_
    refine JC.region (by rfl) ?_
    intro hQ
    refine JL.move .none rfl ?_
    obtain ⟨w6, hw6, hF⟩ := bind_some hF
    obtain ⟨b7, o8, cs9, hv10, hc11, ⟨w6_v2, w6_v4, w6_v7, rfl, hw6_2, hw6_4, hw6_7⟩⟩ := (show PT H3 R_rains_weather y2a_v0 (some w6) by rw [← hw6]; exact hy2a_0)
    subst hv10
    refine JL.nilCheck rfl .none rfl ?_
    refine JL.fieldAddr fo_89_1 rfl .none rfl ?_
    refine JL.loadH 7 az_72 rfl hc11 rfl .none rfl ?_
    refine JL.lenSL (R := (RSl 1 RInt)) ul_72 hw6_7 .none rfl ?_
    refine JL.assign .none rfl ?_
    refine JL.assign .none rfl ?_
    refine JL.done hQ ?_
    refine JQ.go ?_
    refine JC.fresh (fun f => f 2 = .int .i64 (w6.truths.length : Int) ∧ f 3 = .int .i64 0) ⟨rfl, rfl⟩ ?_
    rintro f ⟨hf2, hf3⟩
    refine (JC.norm (i := 2) hf2 (JC.norm (i := 3) hf3 ?_))
    refine JC.ret ?_
    obtain rfl := Option.some.inj hF
    exact JQ.outS rfl (.tmp (.tmp .nil)) rfl

-- 71 ferrule/rains.isRoute
def F_rains_isRoute_s1 (n : Nat) (t : Tour) (route : List Int) : Int → Option (Int ⊕ (Bool ⊕ Unit))
  | x_391 => if decide (x_391 < (route.length : Int)) = true then ((geti route x_391).bind fun y396 => (F_rains_within n y396 0 (w64 ((t.Fairs.length : Int) - 1))).bind fun y435 => (if (!y435) = true then (some true) else ((if decide (0 < x_391) = true then ((geti route (w64 (x_391 - 1))).bind fun y463 => (F_rains_within n (w64 (y396 - y463)) (w64 (-t.Reach)) t.Reach).bind fun y468 => some (!y468)) else (some false) : Option Bool).bind fun p460 => some p460) : Option Bool).bind fun p451 => if p451 = true then (some (Sum.inr (Sum.inl false))) else (some (Sum.inl (w64 (x_391 + 1))))) else (some (Sum.inr (Sum.inr ())))
def F_rains_isRoute (n : Nat) (t : Tour) (route : List Int) : Option Bool :=
  (loopO n (F_rains_isRoute_s1 n t route) 0).bind fun r236 => match r236 with | .inl o => some o | .inr _ => some ((route.length : Int) == t.Days)
set_option maxRecDepth 100000 in
set_option maxHeartbeats 40000000 in
theorem c_rains_isRoute (n : Nat) (H : Hp) (t : Tour) (t_v2 : Value) (ht_2 : SL H 3 R_Rain t_v2 t.Rains) (t_v4 : Value) (ht_4 : SL H 2 R_Fair t_v4 t.Fairs) (route : List Int) (route_v0 : Value) (hroute_0 : SL H 1 RInt route_v0 route) (y : Bool) (hF : F_rains_isRoute n t route = some y) : SC Try.prog 71 [.agg [.int .i64 t.Days, .int .i64 t.Step, t_v2, .int .i64 t.Wrong, t_v4, .int .i64 t.Reach, .int .i64 t.Stock].toArray, route_v0] (.bool y) H := by
  rw [F_rains_isRoute] at hF
  refine SC.of (N := 47) Try.func71 rfl rfl rfl fun w => ?_
  refine JC.seq ?_
  refine JC.region (by rfl) ?_
  intro hQ
  refine JL.box (cs := [.int .i64 t.Days, .int .i64 t.Step, t_v2, .int .i64 t.Wrong, t_v4, .int .i64 t.Reach, .int .i64 t.Stock]) rfl .none rfl ?_
  intro b1
  refine JL.assign .none rfl ?_
  refine JL.done hQ ?_
  refine JQ.go ?_
  refine JC.seq ?_
  refine JC.seq ?_
  refine JC.region (by rfl) ?_
  intro hQ
  refine JL.move .none rfl ?_
  refine JL.lenSL (R := RInt) ul_26 hroute_0 .none rfl ?_
  refine JL.move .none rfl ?_
  refine JL.done hQ ?_
  refine JQ.go ?_
  obtain ⟨r236, hlr236, hKr236⟩ := bind_some hF
  refine JC.join (fun (_ : Unit) H235 f bs gs => f 1 = route_v0 ∧ f 2 = .pointer (some ⟨b1, 0, none⟩) ∧ bs = [(b1, .cells [.int .i64 t.Days, .int .i64 t.Step, t_v2, .int .i64 t.Wrong, t_v4, .int .i64 t.Reach, .int .i64 t.Stock].toArray 25)] ∧ gs = [] ∧ HSub H H235 ∧ Sum.inr () = r236) ?_ ?_
  · skip
    refine JC.block ?_
    refine JC.loop hlr236 (fun (x_391 : Int) H392 f bs gs => f 1 = route_v0 ∧ f 2 = .pointer (some ⟨b1, 0, none⟩) ∧ f 7 = route_v0 ∧ f 8 = .int .i64 (route.length : Int) ∧ f 9 = .int .i64 x_391 ∧ bs = [(b1, .cells [.int .i64 t.Days, .int .i64 t.Step, t_v2, .int .i64 t.Wrong, t_v4, .int .i64 t.Reach, .int .i64 t.Stock].toArray 25)] ∧ gs = [] ∧ HSub H H392) ⟨rfl, rfl, rfl, rfl, rfl, rfl, rfl, (HSub.refl _)⟩ ?_
    rintro x_391 x394 H392 f bs gs ⟨hf1, hf2, hf7, hf8, hf9, rfl, rfl, hs392⟩ hF hr393
    rw [F_rains_isRoute_s1] at hF
    refine (JC.norm (i := 1) hf1 (JC.norm (i := 2) hf2 (JC.norm (i := 7) hf7 (JC.norm (i := 8) hf8 (JC.norm (i := 9) hf9 ?_)))))
    refine JC.seq ?_
    refine JC.region (by rfl) ?_
    intro hQ
    refine JL.bin rfl rfl rfl .none rfl ?_
    refine JL.done hQ ?_
    refine JQ.go ?_
    refine JC.seq ?_
    rcases ite_some hF with ⟨hc395, hF⟩ | ⟨hc395, hF⟩
    · refine JC.cond_t (b := decide (x_391 < (route.length : Int))) rfl hc395 ?_
      refine JC.skip ?_
      refine JQ.go ?_
      refine JC.seq ?_
      refine JC.block ?_
      refine JC.seq ?_
      refine JC.region (by rfl) ?_
      intro hQ
      refine JL.move .none rfl ?_
      obtain ⟨y396, hy396, hF⟩ := bind_some hF
      refine JL.indexSL (R := RInt) sl_26 (SL.mono RInt.mono hs392 hroute_0) rfl hy396 .none rfl ?_
      rintro b397 o398 cs399 hc400 - rfl
      refine JL.loadH 0 az_3 rfl hc400 rfl .none rfl ?_
      refine JL.assign .none rfl ?_
      refine JL.assign .none rfl ?_
      refine JL.done hQ ?_
      refine JQ.go ?_
      refine JC.seq ?_
      refine JC.draw (by rfl) mo_ (by kernel_rfl) ?_
      intro hQ
      refine JL.move .none rfl ?_
      refine JL.fieldAddr fo_25_4 rfl .none rfl ?_
      refine JL.loadOwn 0 az_23 rfl rfl rfl .none rfl ?_
      refine JL.lenSL (R := R_Fair) ul_23 (SL.mono R_Fair_mono hs392 ht_4) .none rfl ?_
      refine JL.bin rfl rfl rfl .none rfl ?_
      obtain ⟨y435, hy435, hF⟩ := bind_some hF
      refine JL.callS (c_rains_within n H392 y396 0 (w64 ((t.Fairs.length : Int) - 1)) y435 hy435) rfl en_61 .none rfl ?_
      refine JL.not rfl .none rfl ?_
      refine JL.move .none rfl ?_
      obtain ⟨p451, hp451, hF⟩ := bind_some hF
      refine JL.cut 19 (fun f => f 1 = route_v0 ∧ f 2 = .pointer (some ⟨b1, 0, none⟩) ∧ f 7 = route_v0 ∧ f 8 = .int .i64 (route.length : Int) ∧ f 9 = .int .i64 x_391 ∧ f 40 = .bool p451) ?_ ?_
      · intro hJ452
        rcases ite_some hp451 with ⟨hc453, hF⟩ | ⟨hc453, hF⟩
        · skip
          refine JL.skip (.bool rfl rfl rfl hc453) rfl ?_
          refine JL.skip (.bool rfl rfl rfl hc453) rfl ?_
          refine JL.skip (.bool rfl rfl rfl hc453) rfl ?_
          refine JL.skip (.no rfl rfl rfl) rfl ?_
          refine JL.skip (.no rfl rfl rfl) rfl ?_
          refine JL.skip (.no rfl rfl rfl) rfl ?_
          refine JL.skip (.no rfl rfl rfl) rfl ?_
          refine JL.skip (.no rfl rfl rfl) rfl ?_
          refine JL.skip (.no rfl rfl rfl) rfl ?_
          refine JL.skip (.no rfl rfl rfl) rfl ?_
          refine JL.skip (.no rfl rfl rfl) rfl ?_
          refine JL.skip (.no rfl rfl rfl) rfl ?_
          refine JL.skip (.no rfl rfl rfl) rfl ?_
          refine JL.skip (.no rfl rfl rfl) rfl ?_
          refine JL.skip (.no rfl rfl rfl) rfl ?_
          refine JL.skip (.no rfl rfl rfl) rfl ?_
          refine JL.skip (.no rfl rfl rfl) rfl ?_
          refine JL.skip (.bool rfl rfl rfl hc453) rfl ?_
          refine JL.pick_t (b := (!y435)) rfl hc453 .none rfl ?_
          obtain rfl := Option.some.inj hF
          exact hJ452 _ ⟨rfl, rfl, rfl, rfl, rfl, rfl⟩
        · skip
          refine JL.move (.some rfl rfl rfl hc453) rfl ?_
          refine JL.bin rfl rfl rfl (.some rfl rfl rfl hc453) rfl ?_
          refine JL.move (.some rfl rfl rfl hc453) rfl ?_
          obtain ⟨p460, hp460, hF⟩ := bind_some hF
          refine JL.cut 15 (fun f => f 1 = route_v0 ∧ f 2 = .pointer (some ⟨b1, 0, none⟩) ∧ f 7 = route_v0 ∧ f 8 = .int .i64 (route.length : Int) ∧ f 9 = .int .i64 x_391 ∧ f 21 = .bool (!y435) ∧ f 22 = .int .i64 x_391 ∧ f 23 = .bool (decide (0 < x_391)) ∧ f 24 = .bool (decide (0 < x_391)) ∧ f 39 = .bool p460) ?_ ?_
          · intro hJ461
            rcases ite_some hp460 with ⟨hc462, hF⟩ | ⟨hc462, hF⟩
            · skip
              refine JL.move (.some rfl rfl rfl hc462) rfl ?_
              refine JL.move (.some rfl rfl rfl hc462) rfl ?_
              refine JL.move (.some rfl rfl rfl hc462) rfl ?_
              refine JL.bin rfl rfl rfl (.some rfl rfl rfl hc462) rfl ?_
              obtain ⟨y463, hy463, hF⟩ := bind_some hF
              refine JL.indexSL (R := RInt) sl_26 (SL.mono RInt.mono hs392 hroute_0) rfl hy463 (.some rfl rfl rfl hc462) rfl ?_
              rintro b464 o465 cs466 hc467 - rfl
              refine JL.loadH 0 az_3 rfl hc467 rfl (.some rfl rfl rfl hc462) rfl ?_
              refine JL.bin rfl rfl rfl (.some rfl rfl rfl hc462) rfl ?_
              refine JL.fieldAddr fo_25_5 rfl (.some rfl rfl rfl hc462) rfl ?_
              refine JL.loadOwn 0 az_3 rfl rfl rfl (.some rfl rfl rfl hc462) rfl ?_
              refine JL.neg rfl (.some rfl rfl rfl hc462) rfl ?_
              refine JL.fieldAddr fo_25_5 rfl (.some rfl rfl rfl hc462) rfl ?_
              refine JL.loadOwn 0 az_3 rfl rfl rfl (.some rfl rfl rfl hc462) rfl ?_
              obtain ⟨y468, hy468, hF⟩ := bind_some hF
              refine JL.callS (c_rains_within n H392 (w64 (y396 - y463)) (w64 (-t.Reach)) t.Reach y468 hy468) rfl en_61 (.some rfl rfl rfl hc462) rfl ?_
              refine JL.not rfl (.some rfl rfl rfl hc462) rfl ?_
              refine JL.pick_t (b := decide (0 < x_391)) rfl hc462 (.some rfl rfl rfl hc453) rfl ?_
              obtain rfl := Option.some.inj hF
              exact hJ461 _ ⟨rfl, rfl, rfl, rfl, rfl, rfl, rfl, rfl, rfl, rfl⟩
            · skip
              refine JL.skip (.bool rfl rfl rfl hc462) rfl ?_
              refine JL.skip (.bool rfl rfl rfl hc462) rfl ?_
              refine JL.skip (.bool rfl rfl rfl hc462) rfl ?_
              refine JL.skip (.bool rfl rfl rfl hc462) rfl ?_
              refine JL.skip (.bool rfl rfl rfl hc462) rfl ?_
              refine JL.skip (.bool rfl rfl rfl hc462) rfl ?_
              refine JL.skip (.bool rfl rfl rfl hc462) rfl ?_
              refine JL.skip (.bool rfl rfl rfl hc462) rfl ?_
              refine JL.skip (.bool rfl rfl rfl hc462) rfl ?_
              refine JL.skip (.bool rfl rfl rfl hc462) rfl ?_
              refine JL.skip (.bool rfl rfl rfl hc462) rfl ?_
              refine JL.skip (.bool rfl rfl rfl hc462) rfl ?_
              refine JL.skip (.bool rfl rfl rfl hc462) rfl ?_
              refine JL.skip (.bool rfl rfl rfl hc462) rfl ?_
              refine JL.pick_f (b := decide (0 < x_391)) rfl hc462 (.some rfl rfl rfl hc453) rfl ?_
              obtain rfl := Option.some.inj hF
              exact hJ461 _ ⟨rfl, rfl, rfl, rfl, rfl, rfl, rfl, rfl, rfl, rfl⟩
          · rintro f ⟨hf1, hf2, hf7, hf8, hf9, hf21, hf22, hf23, hf24, hf39⟩
            refine (JL.norm (i := 1) hf1 (JL.norm (i := 2) hf2 (JL.norm (i := 7) hf7 (JL.norm (i := 8) hf8 (JL.norm (i := 9) hf9 (JL.norm (i := 21) hf21 (JL.norm (i := 22) hf22 (JL.norm (i := 23) hf23 (JL.norm (i := 24) hf24 (JL.norm (i := 39) hf39 ?_))))))))))
            refine JL.pick_f (b := (!y435)) rfl hc453 .none rfl ?_
            obtain rfl := Option.some.inj hF
            exact hJ452 _ ⟨rfl, rfl, rfl, rfl, rfl, rfl⟩
      · rintro f ⟨hf1, hf2, hf7, hf8, hf9, hf40⟩
        refine (JL.norm (i := 1) hf1 (JL.norm (i := 2) hf2 (JL.norm (i := 7) hf7 (JL.norm (i := 8) hf8 (JL.norm (i := 9) hf9 (JL.norm (i := 40) hf40 ?_))))))
        refine JL.doneQ hQ ?_
        refine JQ.go ?_
        rcases ite_some hF with ⟨hc469, hF⟩ | ⟨hc469, hF⟩
        · refine JC.cond_t (b := p451) rfl hc469 ?_
          refine JC.seq ?_
          refine JC.region (by rfl) ?_
          intro hQ
          refine JL.assign .none rfl ?_
          refine JL.done hQ ?_
          refine JQ.go ?_
          refine JC.ret ?_
          refine JQ.ret_block ?_
          refine JQ.ret_then ?_
          refine JQ.ret_then ?_
          refine JQ.ret_block ?_
          refine JQ.ret_join ?_
          refine JQ.ret_then ?_
          obtain rfl := Option.some.inj hF
          have ehr393 := hr393 _ rfl
          subst ehr393
          have hF := hKr236
          try dsimp only at hF
          obtain rfl := Option.some.inj hF
          exact JQ.outS rfl (.tmp .nil) rfl
        · refine JC.cond_f (b := p451) rfl hc469 ?_
          refine JC.skip ?_
          refine JQ.normal_block ?_
          refine JQ.go ?_
          refine JC.region (by rfl) ?_
          intro hQ
          refine JL.bin rfl rfl rfl .none rfl ?_
          refine JL.move .none rfl ?_
          refine JL.done hQ ?_
          obtain rfl := Option.some.inj hF
          exact JQ.next rfl ⟨rfl, rfl, rfl, rfl, rfl, rfl, rfl, hs392⟩
    · refine JC.cond_f (b := decide (x_391 < (route.length : Int))) rfl hc395 ?_
      refine JC.exit ?_
      refine JQ.exit_then ?_
      refine JQ.exit_then ?_
      refine JQ.exit_block ?_
      obtain rfl := Option.some.inj hF
      have ehr393 := hr393 _ rfl
      subst ehr393
      exact JQ.join () ⟨rfl, rfl, rfl, rfl, hs392, rfl⟩
  · rintro _ H235 f bs gs ⟨hf1, hf2, rfl, rfl, hs235, rfl⟩
    have hF := hKr236
    try dsimp only at hF
    refine (JQ.norm (i := 1) hf1 (JQ.norm (i := 2) hf2 ?_))
    refine JQ.go ?_
    refine JC.seq ?_
    refine JC.region (by rfl) ?_
    intro hQ
    refine JL.move .none rfl ?_
    refine JL.lenSL (R := RInt) ul_26 (SL.mono RInt.mono hs235 hroute_0) .none rfl ?_
    refine JL.fieldAddr fo_25_0 rfl .none rfl ?_
    refine JL.loadOwn 0 az_3 rfl rfl rfl .none rfl ?_
    refine JL.bin rfl rfl rfl .none rfl ?_
    refine JL.assign .none rfl ?_
    refine JL.done hQ ?_
    refine JQ.go ?_
    refine JC.ret ?_
    obtain rfl := Option.some.inj hF
    exact JQ.outS rfl (.tmp .nil) rfl

-- 81 (*ferrule/rains.weather).sells
def F_rains_weather_sells_s1 (n : Nat) (w_ : rains_weather) (route : List Int) (truth : List Int) : Int × Int × Int → Option ((Int × Int × Int) ⊕ (Int × Int))
  | (x_189, z_190, z_191) => if decide (x_189 < (route.length : Int)) = true then ((geti route x_189).bind fun y196 => (geti w_.Tour.Fairs y196).bind fun y201 => (geti truth x_189).bind fun y217 => (geti y201.Sells y217).bind fun y222 => some (Sum.inl ((w64 (x_189 + 1)), (w64 (z_190 + (w64 (y201.Price * (min z_191 y222))))), (w64 (z_191 - (min z_191 y222)))))) else (some (Sum.inr (z_190, z_191)))
def F_rains_weather_sells (n : Nat) (w_ : rains_weather) (route : List Int) (truth : List Int) : Option rains_sale :=
  (loopO n (F_rains_weather_sells_s1 n w_ route truth) (0, 0, w_.Tour.Stock)).bind fun r116 => match r116 with | (z_113, z_114) => some (rains_sale.mk z_113 z_114)
set_option maxRecDepth 100000 in
set_option maxHeartbeats 40000000 in
theorem c_rains_weather_sells (n : Nat) (H : Hp) (w_ : rains_weather) (w__v2 : Value) (hw__2 : SL H 3 R_Rain w__v2 w_.Tour.Rains) (w__v4 : Value) (hw__4 : SL H 2 R_Fair w__v4 w_.Tour.Fairs) (w__v7 : Value) (hw__7 : SL H 1 (RSl 1 RInt) w__v7 w_.truths) (w__b w__o : Nat) (w__c : Cells H w__b w__o [.int .i64 w_.Tour.Days, .int .i64 w_.Tour.Step, w__v2, .int .i64 w_.Tour.Wrong, w__v4, .int .i64 w_.Tour.Reach, .int .i64 w_.Tour.Stock, w__v7]) (route : List Int) (route_v0 : Value) (hroute_0 : SL H 1 RInt route_v0 route) (truth : List Int) (truth_v0 : Value) (htruth_0 : SL H 1 RInt truth_v0 truth) (y : rains_sale) (hF : F_rains_weather_sells n w_ route truth = some y) : SC Try.prog 81 [.pointer (some ⟨w__b, w__o, none⟩), route_v0, truth_v0] (.agg [.int .i64 y.takes, .int .i64 y.left].toArray) H := by
  rw [F_rains_weather_sells] at hF
  refine SC.of (N := 59) Try.func81 rfl rfl rfl fun w => ?_
  refine JC.seq ?_
  refine JC.region (by rfl) ?_
  intro hQ
  refine JL.alloc ze_71 .none rfl ?_
  intro b1
  refine JL.done hQ ?_
  refine JQ.go ?_
  refine JC.seq ?_
  refine JC.region (by rfl) ?_
  intro hQ
  refine JL.move .none rfl ?_
  refine JL.nilCheck rfl .none rfl ?_
  refine JL.fieldAddr fo_89_0 rfl .none rfl ?_
  refine JL.fieldAddr fo_25_6 rfl .none rfl ?_
  refine JL.loadH 6 az_3 rfl w__c rfl .none rfl ?_
  refine JL.build (l := [.int .i64 0, .int .i64 w_.Tour.Stock]) (by kernel_rfl) .none rfl ?_
  refine JL.alloc ze_71 .none rfl ?_
  intro b2
  refine JL.storeOwn 0 (cs := [.int .i64 0, .int .i64 w_.Tour.Stock]) az_71 rfl rfl rfl (one_cons rfl (one_cons rfl one_nil)) rfl rfl .none ?_
  refine JL.done hQ ?_
  refine JQ.go ?_
  refine JC.seq ?_
  refine JC.seq ?_
  refine JC.region (by rfl) ?_
  intro hQ
  refine JL.move .none rfl ?_
  refine JL.lenSL (R := RInt) ul_26 hroute_0 .none rfl ?_
  refine JL.move .none rfl ?_
  refine JL.done hQ ?_
  refine JQ.go ?_
  obtain ⟨r116, hlr116, hKr116⟩ := bind_some hF
  refine JC.join (fun (x : Int × Int) H115 f bs gs => match x with | (z_113, z_114) => f 6 = .pointer (some ⟨b1, 0, none⟩) ∧ f 7 = .pointer (some ⟨b2, 0, none⟩) ∧ bs = [(b2, .cells [.int .i64 z_113, .int .i64 z_114].toArray 71), (b1, .cells [.int .i64 0, .int .i64 0].toArray 71)] ∧ gs = [] ∧ HSub H H115 ∧ (z_113, z_114) = r116) ?_ ?_
  · skip
    refine JC.block ?_
    refine JC.loop hlr116 (fun (x : Int × Int × Int) H192 f bs gs => match x with | (x_189, z_190, z_191) => f 0 = .pointer (some ⟨w__b, w__o, none⟩) ∧ f 2 = truth_v0 ∧ f 6 = .pointer (some ⟨b1, 0, none⟩) ∧ f 7 = .pointer (some ⟨b2, 0, none⟩) ∧ f 18 = route_v0 ∧ f 19 = .int .i64 (route.length : Int) ∧ f 20 = .int .i64 x_189 ∧ bs = [(b2, .cells [.int .i64 z_190, .int .i64 z_191].toArray 71), (b1, .cells [.int .i64 0, .int .i64 0].toArray 71)] ∧ gs = [] ∧ HSub H H192) ⟨rfl, rfl, rfl, rfl, rfl, rfl, rfl, rfl, rfl, (HSub.refl _)⟩ ?_
    rintro ⟨x_189, z_190, z_191⟩ x194 H192 f bs gs ⟨hf0, hf2, hf6, hf7, hf18, hf19, hf20, rfl, rfl, hs192⟩ hF hr193
    rw [F_rains_weather_sells_s1] at hF
    refine (JC.norm (i := 0) hf0 (JC.norm (i := 2) hf2 (JC.norm (i := 6) hf6 (JC.norm (i := 7) hf7 (JC.norm (i := 18) hf18 (JC.norm (i := 19) hf19 (JC.norm (i := 20) hf20 ?_)))))))
    refine JC.seq ?_
    refine JC.region (by rfl) ?_
    intro hQ
    refine JL.bin rfl rfl rfl .none rfl ?_
    refine JL.done hQ ?_
    refine JQ.go ?_
    refine JC.seq ?_
    rcases ite_some hF with ⟨hc195, hF⟩ | ⟨hc195, hF⟩
    · refine JC.cond_t (b := decide (x_189 < (route.length : Int))) rfl hc195 ?_
      refine JC.skip ?_
      refine JQ.go ?_
      refine JC.seq ?_
      refine JC.block ?_
      refine JC.seq ?_
      refine JC.region (by rfl) ?_
      intro hQ
      refine JL.move .none rfl ?_
      obtain ⟨y196, hy196, hF⟩ := bind_some hF
      refine JL.indexSL (R := RInt) sl_26 (SL.mono RInt.mono hs192 hroute_0) rfl hy196 .none rfl ?_
      rintro b197 o198 cs199 hc200 - rfl
      refine JL.loadH 0 az_3 rfl hc200 rfl .none rfl ?_
      refine JL.assign .none rfl ?_
      refine JL.assign .none rfl ?_
      refine JL.done hQ ?_
      refine JQ.go ?_
      refine JC.seq ?_
      refine JC.region (by rfl) ?_
      intro hQ
      refine JL.move .none rfl ?_
      refine JL.nilCheck rfl .none rfl ?_
      refine JL.fieldAddr fo_89_0 rfl .none rfl ?_
      refine JL.fieldAddr fo_25_4 rfl .none rfl ?_
      refine JL.loadH 4 az_23 rfl (Cells.mono hs192 w__c) rfl .none rfl ?_
      refine JL.move .none rfl ?_
      obtain ⟨y201, hy201, hF⟩ := bind_some hF
      refine JL.indexSL (R := R_Fair) sl_23 (SL.mono R_Fair_mono hs192 hw__4) rfl hy201 .none rfl ?_
      rintro b202 o203 cs204 hc205 - ⟨y201_v1, rfl, hy201_1⟩
      refine JL.loadH 0 az_41 rfl hc205 rfl .none rfl ?_
      refine JL.alloc ze_41 .none rfl ?_
      intro b206
      refine JL.storeOwn 0 (cs := [.int .i64 y201.Price, y201_v1]) az_41 rfl rfl rfl (one_cons rfl (one_cons (SL.one hy201_1) one_nil)) rfl rfl .none ?_
      refine JL.done hQ ?_
      refine JQ.go ?_
      refine JC.fresh (fun f => f 0 = .pointer (some ⟨w__b, w__o, none⟩) ∧ f 2 = truth_v0 ∧ f 6 = .pointer (some ⟨b1, 0, none⟩) ∧ f 7 = .pointer (some ⟨b2, 0, none⟩) ∧ f 8 = .int .i64 x_189 ∧ f 10 = .pointer (some ⟨b206, 0, none⟩) ∧ f 18 = route_v0 ∧ f 19 = .int .i64 (route.length : Int) ∧ f 20 = .int .i64 x_189) ⟨rfl, rfl, rfl, rfl, rfl, rfl, rfl, rfl, rfl⟩ ?_
      rintro f ⟨hf0, hf2, hf6, hf7, hf8, hf10, hf18, hf19, hf20⟩
      refine (JC.norm (i := 0) hf0 (JC.norm (i := 2) hf2 (JC.norm (i := 6) hf6 (JC.norm (i := 7) hf7 (JC.norm (i := 8) hf8 (JC.norm (i := 10) hf10 (JC.norm (i := 18) hf18 (JC.norm (i := 19) hf19 (JC.norm (i := 20) hf20 ?_)))))))))
      refine JC.seq ?_
      refine JC.draw (by rfl) mo_ (by kernel_rfl) ?_
      intro hQ
      refine JL.fieldAddr fo_71_1 rfl .none rfl ?_
      refine JL.loadOwn 1 az_3 rfl rfl rfl .none rfl ?_
      refine JL.fieldAddr fo_41_1 rfl .none rfl ?_
      refine JL.loadOwn 0 az_26 rfl rfl rfl .none rfl ?_
      refine JL.move .none rfl ?_
      refine JL.move .none rfl ?_
      obtain ⟨y217, hy217, hF⟩ := bind_some hF
      refine JL.indexSL (R := RInt) sl_26 (SL.mono RInt.mono hs192 htruth_0) rfl hy217 .none rfl ?_
      rintro b218 o219 cs220 hc221 - rfl
      refine JL.loadH 0 az_3 rfl hc221 rfl .none rfl ?_
      obtain ⟨y222, hy222, hF⟩ := bind_some hF
      refine JL.indexSL (R := RInt) sl_26 hy201_1 rfl hy222 .none rfl ?_
      rintro b223 o224 cs225 hc226 - rfl
      refine JL.loadH 0 az_3 rfl hc226 rfl .none rfl ?_
      refine JL.min rfl rfl .none rfl ?_
      refine JL.assign .none rfl ?_
      refine JL.doneQ hQ ?_
      refine JQ.go ?_
      refine JC.fresh (fun f => f 0 = .pointer (some ⟨w__b, w__o, none⟩) ∧ f 2 = truth_v0 ∧ f 6 = .pointer (some ⟨b1, 0, none⟩) ∧ f 7 = .pointer (some ⟨b2, 0, none⟩) ∧ f 10 = .pointer (some ⟨b206, 0, none⟩) ∧ f 11 = .int .i64 (min z_191 y222) ∧ f 18 = route_v0 ∧ f 19 = .int .i64 (route.length : Int) ∧ f 20 = .int .i64 x_189) ⟨rfl, rfl, rfl, rfl, rfl, rfl, rfl, rfl, rfl⟩ ?_
      rintro f ⟨hf0, hf2, hf6, hf7, hf10, hf11, hf18, hf19, hf20⟩
      refine (JC.norm (i := 0) hf0 (JC.norm (i := 2) hf2 (JC.norm (i := 6) hf6 (JC.norm (i := 7) hf7 (JC.norm (i := 10) hf10 (JC.norm (i := 11) hf11 (JC.norm (i := 18) hf18 (JC.norm (i := 19) hf19 (JC.norm (i := 20) hf20 ?_)))))))))
      refine JC.region (by rfl) ?_
      intro hQ
      refine JL.fieldAddr fo_71_0 rfl .none rfl ?_
      refine JL.loadOwn 1 az_3 rfl rfl rfl .none rfl ?_
      refine JL.fieldAddr fo_41_0 rfl .none rfl ?_
      refine JL.loadOwn 0 az_3 rfl rfl rfl .none rfl ?_
      refine JL.move .none rfl ?_
      refine JL.bin rfl rfl rfl .none rfl ?_
      refine JL.bin rfl rfl rfl .none rfl ?_
      refine JL.fieldAddr fo_71_1 rfl .none rfl ?_
      refine JL.loadOwn 1 az_3 rfl rfl rfl .none rfl ?_
      refine JL.move .none rfl ?_
      refine JL.bin rfl rfl rfl .none rfl ?_
      refine JL.fieldAddr fo_71_0 rfl .none rfl ?_
      refine JL.storeOwn 1 (cs := [.int .i64 (w64 (z_190 + (w64 (y201.Price * (min z_191 y222)))))]) az_3 rfl rfl rfl (one_cons rfl one_nil) rfl rfl .none ?_
      refine JL.fieldAddr fo_71_1 rfl .none rfl ?_
      refine JL.storeOwn 1 (cs := [.int .i64 (w64 (z_191 - (min z_191 y222)))]) az_3 rfl rfl rfl (one_cons rfl one_nil) rfl rfl .none ?_
      refine JL.done hQ ?_
      refine JQ.normal_block ?_
      refine JQ.go ?_
      refine JC.fresh (fun f => f 0 = .pointer (some ⟨w__b, w__o, none⟩) ∧ f 2 = truth_v0 ∧ f 6 = .pointer (some ⟨b1, 0, none⟩) ∧ f 7 = .pointer (some ⟨b2, 0, none⟩) ∧ f 18 = route_v0 ∧ f 19 = .int .i64 (route.length : Int) ∧ f 20 = .int .i64 x_189) ⟨rfl, rfl, rfl, rfl, rfl, rfl, rfl⟩ ?_
      rintro f ⟨hf0, hf2, hf6, hf7, hf18, hf19, hf20⟩
      refine (JC.norm (i := 0) hf0 (JC.norm (i := 2) hf2 (JC.norm (i := 6) hf6 (JC.norm (i := 7) hf7 (JC.norm (i := 18) hf18 (JC.norm (i := 19) hf19 (JC.norm (i := 20) hf20 ?_)))))))
      refine JC.region (by rfl) ?_
      intro hQ
      refine JL.bin rfl rfl rfl .none rfl ?_
      refine JL.move .none rfl ?_
      refine JL.done hQ ?_
      obtain rfl := Option.some.inj hF
      refine JQ.mask [false, true, true] [] ?_
      exact JQ.next rfl ⟨rfl, rfl, rfl, rfl, rfl, rfl, rfl, rfl, rfl, hs192⟩
    · refine JC.cond_f (b := decide (x_189 < (route.length : Int))) rfl hc195 ?_
      refine JC.exit ?_
      refine JQ.exit_then ?_
      refine JQ.exit_then ?_
      refine JQ.exit_block ?_
      obtain rfl := Option.some.inj hF
      have ehr193 := hr193 _ rfl
      subst ehr193
      exact JQ.join (z_190, z_191) ⟨rfl, rfl, rfl, rfl, hs192, rfl⟩
  · rintro ⟨z_113, z_114⟩ H115 f bs gs ⟨hf6, hf7, rfl, rfl, hs115, rfl⟩
    have hF := hKr116
    try dsimp only at hF
    refine (JQ.norm (i := 6) hf6 (JQ.norm (i := 7) hf7 ?_))
    refine JQ.go ?_
    refine JC.seq ?_
    refine JC.region (by rfl) ?_
    intro hQ
    refine JL.loadOwn 0 az_71 rfl rfl rfl .none rfl ?_
    refine JL.storeOwn 1 (cs := [.int .i64 z_113, .int .i64 z_114]) az_71 rfl rfl rfl (one_cons rfl (one_cons rfl one_nil)) rfl rfl .none ?_
    refine JL.done hQ ?_
    refine JQ.go ?_
    refine JC.ret ?_
    obtain rfl := Option.some.inj hF
    exact JQ.outS rfl (.cell 1 az_71 rfl rfl rfl .nil) rfl

-- 72 (*ferrule/rains.weather).bounds
def F_rains_weather_bounds_s1 (n : Nat) (w_ : rains_weather) (route : List Int) (of : rains_sale → Option Int) (y10 : List (List Int)) : Int × Int × Int → Option ((Int × Int × Int) ⊕ (Int × Int))
  | (x_79, z_80, z_81) => if decide (x_79 < (y10.length : Int)) = true then ((geti y10 x_79).bind fun y86 => (F_rains_weather_sells n w_ route y86).bind fun y91 => (of y91).bind fun y92 => some (Sum.inl ((w64 (x_79 + 1)), (min z_80 y92), (max z_81 y92)))) else (some (Sum.inr (z_80, z_81)))
def F_rains_weather_bounds (n : Nat) (w_ : rains_weather) (route : List Int) (of : rains_sale → Option Int) : Option Span :=
  (geti w_.truths 0).bind fun y2 => (F_rains_weather_sells n w_ route y2).bind fun y7 => (of y7).bind fun y8 => (slc w_.truths 1 w_.truths.length).bind fun y10 => (loopO n (F_rains_weather_bounds_s1 n w_ route of y10) (0, y8, y8)).bind fun r54 => match r54 with | (z_51, z_52) => some (Span.mk z_51 z_52)
set_option maxRecDepth 100000 in
set_option maxHeartbeats 40000000 in
theorem c_rains_weather_bounds (n : Nat) (H : Hp) (w_ : rains_weather) (w__v2 : Value) (hw__2 : SL H 3 R_Rain w__v2 w_.Tour.Rains) (w__v4 : Value) (hw__4 : SL H 2 R_Fair w__v4 w_.Tour.Fairs) (w__v7 : Value) (hw__7 : SL H 1 (RSl 1 RInt) w__v7 w_.truths) (w__b w__o : Nat) (w__c : Cells H w__b w__o [.int .i64 w_.Tour.Days, .int .i64 w_.Tour.Step, w__v2, .int .i64 w_.Tour.Wrong, w__v4, .int .i64 w_.Tour.Reach, .int .i64 w_.Tour.Stock, w__v7]) (route : List Int) (route_v0 : Value) (hroute_0 : SL H 1 RInt route_v0 route) (of : rains_sale → Option Int) (of_k : Nat) (of_c : List Value) (of_e : Ent Try.prog of_k) (of_h : ∀ H', HSub H H' → ∀ (a0_ : rains_sale) (y : Int), of a0_ = some y → SC Try.prog of_k ([.agg [.int .i64 a0_.takes, .int .i64 a0_.left].toArray] ++ of_c) (.int .i64 y) H') (y : Span) (hF : F_rains_weather_bounds n w_ route of = some y) : SC Try.prog 72 [.pointer (some ⟨w__b, w__o, none⟩), route_v0, .func (.func of_k) #[] of_c.toArray] (.agg [.int .i64 y.Low, .int .i64 y.High].toArray) H := by
  rw [F_rains_weather_bounds] at hF
  refine SC.of (N := 53) Try.func72 rfl rfl rfl fun w => ?_
  refine JC.seq ?_
  refine JC.region (by rfl) ?_
  intro hQ
  refine JL.alloc ze_31 .none rfl ?_
  intro b1
  refine JL.done hQ ?_
  refine JQ.go ?_
  refine JC.seq ?_
  refine JC.region (by rfl) ?_
  intro hQ
  refine JL.move .none rfl ?_
  refine JL.move .none rfl ?_
  refine JL.move .none rfl ?_
  refine JL.move .none rfl ?_
  refine JL.nilCheck rfl .none rfl ?_
  refine JL.fieldAddr fo_89_1 rfl .none rfl ?_
  refine JL.loadH 7 az_72 rfl w__c rfl .none rfl ?_
  obtain ⟨y2, hy2, hF⟩ := bind_some hF
  refine JL.indexSL (R := (RSl 1 RInt)) sl_72 hw__7 rfl hy2 .none rfl ?_
  rintro b3 o4 cs5 hc6 - ⟨y2_v0, rfl, hy2_0⟩
  refine JL.loadH 0 az_26 rfl hc6 rfl .none rfl ?_
  obtain ⟨y7, hy7, hF⟩ := bind_some hF
  refine JL.callS (c_rains_weather_sells n H w_ w__v2 hw__2 w__v4 hw__4 w__v7 hw__7 w__b w__o w__c route route_v0 hroute_0 y2 y2_v0 hy2_0 y7 hy7) rfl en_81 .none rfl ?_
  obtain ⟨y8, hy8, hF⟩ := bind_some hF
  refine JL.callV rfl (of_h H (HSub.refl _) y7 y8 hy8) rfl of_e .none rfl ?_
  refine JL.assign .none rfl ?_
  refine JL.done hQ ?_
  refine JQ.go ?_
  refine JC.fresh (fun f => f 0 = .pointer (some ⟨w__b, w__o, none⟩) ∧ f 1 = route_v0 ∧ f 2 = .func (.func of_k) #[] of_c.toArray ∧ f 6 = .pointer (some ⟨b1, 0, none⟩) ∧ f 7 = .int .i64 y8) ⟨rfl, rfl, rfl, rfl, rfl⟩ ?_
  rintro f ⟨hf0, hf1, hf2, hf6, hf7⟩
  refine (JC.norm (i := 0) hf0 (JC.norm (i := 1) hf1 (JC.norm (i := 2) hf2 (JC.norm (i := 6) hf6 (JC.norm (i := 7) hf7 ?_)))))
  refine JC.seq ?_
  refine JC.region (by rfl) ?_
  intro hQ
  refine JL.move .none rfl ?_
  refine JL.move .none rfl ?_
  refine JL.build (l := [.int .i64 y8, .int .i64 y8]) (by kernel_rfl) .none rfl ?_
  refine JL.alloc ze_31 .none rfl ?_
  intro b9
  refine JL.storeOwn 0 (cs := [.int .i64 y8, .int .i64 y8]) az_31 rfl rfl rfl (one_cons rfl (one_cons rfl one_nil)) rfl rfl .none ?_
  refine JL.done hQ ?_
  refine JQ.go ?_
  refine JC.seq ?_
  refine JC.seq ?_
  refine JC.region (by rfl) ?_
  intro hQ
  refine JL.move .none rfl ?_
  refine JL.nilCheck rfl .none rfl ?_
  refine JL.fieldAddr fo_89_1 rfl .none rfl ?_
  refine JL.loadH 7 az_72 rfl w__c rfl .none rfl ?_
  obtain ⟨y10, hy10, hF⟩ := bind_some hF
  refine JL.sliceLo (R := (RSl 1 RInt)) sl_72 hw__7 rfl hy10 .none rfl ?_
  intro v11 hv12
  refine JL.lenSL (R := (RSl 1 RInt)) ul_72 hv12 .none rfl ?_
  refine JL.move .none rfl ?_
  refine JL.done hQ ?_
  refine JQ.go ?_
  refine JC.fresh (fun f => f 0 = .pointer (some ⟨w__b, w__o, none⟩) ∧ f 1 = route_v0 ∧ f 2 = .func (.func of_k) #[] of_c.toArray ∧ f 6 = .pointer (some ⟨b1, 0, none⟩) ∧ f 8 = .pointer (some ⟨b9, 0, none⟩) ∧ f 29 = v11 ∧ f 30 = .int .i64 (y10.length : Int) ∧ f 31 = .int .i64 0) ⟨rfl, rfl, rfl, rfl, rfl, rfl, rfl, rfl⟩ ?_
  rintro f ⟨hf0, hf1, hf2, hf6, hf8, hf29, hf30, hf31⟩
  refine (JC.norm (i := 0) hf0 (JC.norm (i := 1) hf1 (JC.norm (i := 2) hf2 (JC.norm (i := 6) hf6 (JC.norm (i := 8) hf8 (JC.norm (i := 29) hf29 (JC.norm (i := 30) hf30 (JC.norm (i := 31) hf31 ?_))))))))
  obtain ⟨r54, hlr54, hKr54⟩ := bind_some hF
  refine JC.join (fun (x : Int × Int) H53 f bs gs => match x with | (z_51, z_52) => f 6 = .pointer (some ⟨b1, 0, none⟩) ∧ f 8 = .pointer (some ⟨b9, 0, none⟩) ∧ bs = [(b9, .cells [.int .i64 z_51, .int .i64 z_52].toArray 31), (b1, .cells [.int .i64 0, .int .i64 0].toArray 31)] ∧ gs = [] ∧ HSub H H53 ∧ (z_51, z_52) = r54) ?_ ?_
  · skip
    refine JC.block ?_
    refine JC.loop hlr54 (fun (x : Int × Int × Int) H82 f bs gs => match x with | (x_79, z_80, z_81) => f 0 = .pointer (some ⟨w__b, w__o, none⟩) ∧ f 1 = route_v0 ∧ f 2 = .func (.func of_k) #[] of_c.toArray ∧ f 6 = .pointer (some ⟨b1, 0, none⟩) ∧ f 8 = .pointer (some ⟨b9, 0, none⟩) ∧ f 29 = v11 ∧ f 30 = .int .i64 (y10.length : Int) ∧ f 31 = .int .i64 x_79 ∧ bs = [(b9, .cells [.int .i64 z_80, .int .i64 z_81].toArray 31), (b1, .cells [.int .i64 0, .int .i64 0].toArray 31)] ∧ gs = [] ∧ HSub H H82) ⟨rfl, rfl, rfl, rfl, rfl, rfl, rfl, rfl, rfl, rfl, (HSub.refl _)⟩ ?_
    rintro ⟨x_79, z_80, z_81⟩ x84 H82 f bs gs ⟨hf0, hf1, hf2, hf6, hf8, hf29, hf30, hf31, rfl, rfl, hs82⟩ hF hr83
    rw [F_rains_weather_bounds_s1] at hF
    refine (JC.norm (i := 0) hf0 (JC.norm (i := 1) hf1 (JC.norm (i := 2) hf2 (JC.norm (i := 6) hf6 (JC.norm (i := 8) hf8 (JC.norm (i := 29) hf29 (JC.norm (i := 30) hf30 (JC.norm (i := 31) hf31 ?_))))))))
    refine JC.seq ?_
    refine JC.region (by rfl) ?_
    intro hQ
    refine JL.bin rfl rfl rfl .none rfl ?_
    refine JL.done hQ ?_
    refine JQ.go ?_
    refine JC.seq ?_
    rcases ite_some hF with ⟨hc85, hF⟩ | ⟨hc85, hF⟩
    · refine JC.cond_t (b := decide (x_79 < (y10.length : Int))) rfl hc85 ?_
      refine JC.skip ?_
      refine JQ.go ?_
      refine JC.seq ?_
      refine JC.block ?_
      refine JC.seq ?_
      refine JC.region (by rfl) ?_
      intro hQ
      obtain ⟨y86, hy86, hF⟩ := bind_some hF
      refine JL.indexSL (R := (RSl 1 RInt)) sl_72 (SL.mono (RSl.mono RInt.mono) hs82 hv12) rfl hy86 .none rfl ?_
      rintro b87 o88 cs89 hc90 - ⟨y86_v0, rfl, hy86_0⟩
      refine JL.loadH 0 az_26 rfl hc90 rfl .none rfl ?_
      refine JL.assign .none rfl ?_
      refine JL.done hQ ?_
      refine JQ.go ?_
      refine JC.seq ?_
      refine JC.region (by rfl) ?_
      intro hQ
      refine JL.move .none rfl ?_
      refine JL.move .none rfl ?_
      refine JL.move .none rfl ?_
      refine JL.move .none rfl ?_
      obtain ⟨y91, hy91, hF⟩ := bind_some hF
      refine JL.callS (c_rains_weather_sells n H82 w_ w__v2 (SL.mono R_Rain_mono hs82 hw__2) w__v4 (SL.mono R_Fair_mono hs82 hw__4) w__v7 (SL.mono (RSl.mono RInt.mono) hs82 hw__7) w__b w__o (Cells.mono hs82 w__c) route route_v0 (SL.mono RInt.mono hs82 hroute_0) y86 y86_v0 hy86_0 y91 hy91) rfl en_81 .none rfl ?_
      obtain ⟨y92, hy92, hF⟩ := bind_some hF
      refine JL.callV rfl (of_h H82 hs82 y91 y92 hy92) rfl of_e .none rfl ?_
      refine JL.assign .none rfl ?_
      refine JL.done hQ ?_
      refine JQ.go ?_
      refine JC.fresh (fun f => f 0 = .pointer (some ⟨w__b, w__o, none⟩) ∧ f 1 = route_v0 ∧ f 2 = .func (.func of_k) #[] of_c.toArray ∧ f 6 = .pointer (some ⟨b1, 0, none⟩) ∧ f 7 = .int .i64 y92 ∧ f 8 = .pointer (some ⟨b9, 0, none⟩) ∧ f 29 = v11 ∧ f 30 = .int .i64 (y10.length : Int) ∧ f 31 = .int .i64 x_79) ⟨rfl, rfl, rfl, rfl, rfl, rfl, rfl, rfl, rfl⟩ ?_
      rintro f ⟨hf0, hf1, hf2, hf6, hf7, hf8, hf29, hf30, hf31⟩
      refine (JC.norm (i := 0) hf0 (JC.norm (i := 1) hf1 (JC.norm (i := 2) hf2 (JC.norm (i := 6) hf6 (JC.norm (i := 7) hf7 (JC.norm (i := 8) hf8 (JC.norm (i := 29) hf29 (JC.norm (i := 30) hf30 (JC.norm (i := 31) hf31 ?_)))))))))
      refine JC.region (by rfl) ?_
      intro hQ
      refine JL.fieldAddr fo_31_0 rfl .none rfl ?_
      refine JL.loadOwn 0 az_3 rfl rfl rfl .none rfl ?_
      refine JL.move .none rfl ?_
      refine JL.min rfl rfl .none rfl ?_
      refine JL.fieldAddr fo_31_1 rfl .none rfl ?_
      refine JL.loadOwn 0 az_3 rfl rfl rfl .none rfl ?_
      refine JL.move .none rfl ?_
      refine JL.max rfl rfl .none rfl ?_
      refine JL.fieldAddr fo_31_0 rfl .none rfl ?_
      refine JL.storeOwn 0 (cs := [.int .i64 (min z_80 y92)]) az_3 rfl rfl rfl (one_cons rfl one_nil) rfl rfl .none ?_
      refine JL.fieldAddr fo_31_1 rfl .none rfl ?_
      refine JL.storeOwn 0 (cs := [.int .i64 (max z_81 y92)]) az_3 rfl rfl rfl (one_cons rfl one_nil) rfl rfl .none ?_
      refine JL.done hQ ?_
      refine JQ.normal_block ?_
      refine JQ.go ?_
      refine JC.fresh (fun f => f 0 = .pointer (some ⟨w__b, w__o, none⟩) ∧ f 1 = route_v0 ∧ f 2 = .func (.func of_k) #[] of_c.toArray ∧ f 6 = .pointer (some ⟨b1, 0, none⟩) ∧ f 8 = .pointer (some ⟨b9, 0, none⟩) ∧ f 29 = v11 ∧ f 30 = .int .i64 (y10.length : Int) ∧ f 31 = .int .i64 x_79) ⟨rfl, rfl, rfl, rfl, rfl, rfl, rfl, rfl⟩ ?_
      rintro f ⟨hf0, hf1, hf2, hf6, hf8, hf29, hf30, hf31⟩
      refine (JC.norm (i := 0) hf0 (JC.norm (i := 1) hf1 (JC.norm (i := 2) hf2 (JC.norm (i := 6) hf6 (JC.norm (i := 8) hf8 (JC.norm (i := 29) hf29 (JC.norm (i := 30) hf30 (JC.norm (i := 31) hf31 ?_))))))))
      refine JC.region (by rfl) ?_
      intro hQ
      refine JL.bin rfl rfl rfl .none rfl ?_
      refine JL.move .none rfl ?_
      refine JL.done hQ ?_
      obtain rfl := Option.some.inj hF
      exact JQ.next rfl ⟨rfl, rfl, rfl, rfl, rfl, rfl, rfl, rfl, rfl, rfl, hs82⟩
    · refine JC.cond_f (b := decide (x_79 < (y10.length : Int))) rfl hc85 ?_
      refine JC.exit ?_
      refine JQ.exit_then ?_
      refine JQ.exit_then ?_
      refine JQ.exit_block ?_
      obtain rfl := Option.some.inj hF
      have ehr83 := hr83 _ rfl
      subst ehr83
      exact JQ.join (z_80, z_81) ⟨rfl, rfl, rfl, rfl, hs82, rfl⟩
  · rintro ⟨z_51, z_52⟩ H53 f bs gs ⟨hf6, hf8, rfl, rfl, hs53, rfl⟩
    have hF := hKr54
    try dsimp only at hF
    refine (JQ.norm (i := 6) hf6 (JQ.norm (i := 8) hf8 ?_))
    refine JQ.go ?_
    refine JC.seq ?_
    refine JC.region (by rfl) ?_
    intro hQ
    refine JL.loadOwn 0 az_31 rfl rfl rfl .none rfl ?_
    refine JL.storeOwn 1 (cs := [.int .i64 z_51, .int .i64 z_52]) az_31 rfl rfl rfl (one_cons rfl (one_cons rfl one_nil)) rfl rfl .none ?_
    refine JL.done hQ ?_
    refine JQ.go ?_
    refine JC.ret ?_
    obtain rfl := Option.some.inj hF
    exact JQ.outS rfl (.cell 1 az_31 rfl rfl rfl .nil) rfl

end Go.Proofs.Ytooankffknoomaa
