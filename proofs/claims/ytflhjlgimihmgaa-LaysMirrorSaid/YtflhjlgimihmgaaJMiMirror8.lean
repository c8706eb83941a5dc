/-
  A part of the proof of MiMirror: the texts MiGLaysMirror.
-/
import Derived.Test.YtflhjlgimihmgaaJMiMirror7
section
set_option maxRecDepth 100000
set_option maxHeartbeats 40000000
namespace Go.Proofs.Ytflhjlgimihmgaa
open Go Go.RowKit Go.Dec
set_option linter.unusedVariables false
-- 4 ferrule/ferrulelaw03.LaysMirror
def F_law03_LaysMirror_s2 (n : Nat) (i_2149 : Int) (y2160 : (List Span)) : Int × List (List Span) → Option ((Int × List (List Span)) ⊕ (List (List Span)))
 | (k_2502, rows_2503) => if decide (k_2502 < (y2160.length : Int)) = true then ((geti rows_2503 i_2149).bind fun row2508 => (geti y2160 (w64 ((w64 ((y2160.length : Int) - 1)) - k_2502))).bind fun y2513 => (geti row2508 k_2502).bind fun e2518 => some (Sum.inl ((w64 (k_2502 + 1)), (setx rows_2503 i_2149 (setx row2508 k_2502 y2513))))) else (some (Sum.inr rows_2503))
def F_law03_LaysMirror_s1 (n : Nat) (s : Lap) : Int × List (List Span) → Option ((Int × List (List Span)) ⊕ (List (List Span)))
 | (i_2149, rows_2150) => if decide (i_2149 < (rows_2150.length : Int)) = true then ((geti s.Panels i_2149).bind fun y2155 => (F_ref03_TurnedRows n y2155).bind fun y2160 => (loopO n (F_law03_LaysMirror_s2 n i_2149 y2160) (0, rows_2150)).bind fun rows_2365 => some (Sum.inl ((w64 (i_2149 + 1)), rows_2365))) else (some (Sum.inr rows_2150))
def F_law03_LaysMirror_s3 (n : Nat) (s : Lap) (x_ : law03_Turn) : Int × List Panel → Option ((Int × List Panel) ⊕ (List Panel))
 | (i_2888, out_2889) => if decide (i_2888 < (s.Panels.length : Int)) = true then ((nz (s.Panels.length : Int)).bind fun _ => (geti s.Panels ((w64 (i_2888 + x_.By)).tmod (s.Panels.length : Int))).bind fun y2904 => (geti out_2889 i_2888).bind fun y2909 => some (Sum.inl ((w64 (i_2888 + 1)), (setx out_2889 i_2888 y2904)))) else (some (Sum.inr out_2889))
def F_law03_LaysMirror_s4 (n : Nat) (s : Lap) (x_ : law03_Turn) : Int × List Cell → Option ((Int × List Cell) ⊕ (List Cell))
 | (i_3255, out_3256) => if decide (i_3255 < (s.Faults.length : Int)) = true then ((nz (s.Faults.length : Int)).bind fun _ => (geti s.Faults ((w64 (i_3255 + x_.By)).tmod (s.Faults.length : Int))).bind fun y3271 => (geti out_3256 i_3255).bind fun y3276 => some (Sum.inl ((w64 (i_3255 + 1)), (setx out_3256 i_3255 y3271)))) else (some (Sum.inr out_3256))
def F_law03_LaysMirror_s5 (n : Nat) (s : Lap) (x_ : law03_Turn) : Int × List Cell → Option ((Int × List Cell) ⊕ (List Cell))
 | (i_3622, out_3623) => if decide (i_3622 < (s.Flaws.length : Int)) = true then ((nz (s.Flaws.length : Int)).bind fun _ => (geti s.Flaws ((w64 (i_3622 + x_.By)).tmod (s.Flaws.length : Int))).bind fun y3638 => (geti out_3623 i_3622).bind fun y3643 => some (Sum.inl ((w64 (i_3622 + 1)), (setx out_3623 i_3622 y3638)))) else (some (Sum.inr out_3623))
def F_law03_LaysMirror (n : Nat) (s : Lap) (x_ : law03_Turn) : Option Bool :=
 (F_law03_ready n s).bind fun y3 => if (((!y3) || (decide (x_.By < 0))) || (decide (100 < x_.By))) = true then ((F_law03_works n).bind fun y9 => some y9) else ((F_ref03_Copy n s).bind fun y10 => (F_law03_mirrored n s.Faults s.Width).bind fun y24 => (F_law03_mirrored n s.Flaws s.Width).bind fun y26 => (loopO n (F_law03_LaysMirror_s1 n s) (0, (y10.Panels.map Panel.Rows))).bind fun rows_1306 => (F_ref03_Copy n s).bind fun y2573 => (loopO n (F_law03_LaysMirror_s3 n s x_) (0, y2573.Panels)).bind fun out_2765 => (loopO n (F_law03_LaysMirror_s4 n s x_) (0, y2573.Faults)).bind fun out_3132 => (loopO n (F_law03_LaysMirror_s5 n s x_) (0, y2573.Flaws)).bind fun out_3499 => (F_ref03_Copy n s).bind fun y3690 => (if ((decide (0 ≤ x_.Panel)) && (decide (x_.Panel < (s.Panels.length : Int)))) = true then ((geti s.Panels x_.Panel).bind fun y3770 => (F_ref03_TurnedRows n y3770).bind fun y3775 => (geti y3690.Panels x_.Panel).bind fun y3777 => some (setx y3690.Panels x_.Panel (Panel.mk y3775))) else (some y3690.Panels)).bind fun out_3760 => (F_law03_atLeast n s (Lap.mk y10.Width y10.Length y24 y26 (rows_1306.map Panel.mk))).bind fun y3827 => (if y3827 = true then ((F_law03_atLeast n (Lap.mk y10.Width y10.Length y24 y26 (rows_1306.map Panel.mk)) s).bind fun y3832 => some y3832) else (some false) : Option Bool).bind fun p3829 => (if p3829 = true then ((F_law03_atLeast n s (Lap.mk y2573.Width y2573.Length out_3132 out_3499 out_2765)).bind fun y3837 => some y3837) else (some false) : Option Bool).bind fun p3834 => (if p3834 = true then ((F_law03_atLeast n (Lap.mk y2573.Width y2573.Length out_3132 out_3499 out_2765) s).bind fun y3842 => some y3842) else (some false) : Option Bool).bind fun p3839 => (if p3839 = true then ((F_law03_atLeast n s (Lap.mk y3690.Width y3690.Length y3690.Faults y3690.Flaws out_3760)).bind fun y3847 => some y3847) else (some false) : Option Bool).bind fun p3844 => (if p3844 = true then ((F_law03_atLeast n (Lap.mk y3690.Width y3690.Length y3690.Faults y3690.Flaws out_3760) s).bind fun y3852 => some y3852) else (some false) : Option Bool).bind fun p3849 => (if p3849 = true then ((F_law03_works n).bind fun y3857 => some y3857) else (some false) : Option Bool).bind fun p3854 => some p3854)
theorem c_law03_LaysMirror (n : Nat) (H : Hp) (s : Lap) (s_v2 : Value) (hs_2 : SL H 2 R_Cell s_v2 s.Faults) (s_v3 : Value) (hs_3 : SL H 2 R_Cell s_v3 s.Flaws) (s_v4 : Value) (hs_4 : SL H 1 R_Panel s_v4 s.Panels) (x_ : law03_Turn) (y : Bool) (hF : F_law03_LaysMirror n s x_ = some y) : SC Try.prog 4 [.agg [.int .i64 s.Width, .int .i64 s.Length, s_v2, s_v3, s_v4].toArray, .agg [.int .i64 x_.By, .int .i64 x_.Panel].toArray] (.bool y) H := by
 rw [F_law03_LaysMirror] at hF
 refine SC.of (N := 205) Try.func4 rfl rfl rfl fun w => ?_
 refine JC.seq (JC.region (by rfl) ?_)
 intro hQ
 refine JL.box (cs := [.int .i64 s.Width, .int .i64 s.Length, s_v2, s_v3, s_v4]) rfl .none rfl ?_
 intro b1
 refine JL.box (cs := [.int .i64 x_.By, .int .i64 x_.Panel]) rfl .none rfl ?_
 intro b2
 refine JL.assign .none rfl ?_
 refine JL.done hQ (JQ.go (JC.seq (JC.seq (JC.region (by rfl) ?_))))
 intro hQ
 refine JL.loadOwn 1 az_25 rfl rfl rfl .none rfl ?_
 obtain ⟨y3, hy3, hF⟩ := bind_some hF
 refine JL.callS (c_law03_ready n H s s_v2 hs_2 s_v3 hs_3 s_v4 hs_4 y3 hy3) rfl en_10 .none rfl ?_
 refine JL.not rfl .none rfl ?_
 refine JL.move .none rfl ?_
 refine JL.cut 4 (fun f => f 2 = .pointer (some ⟨b1, 0, none⟩) ∧ f 3 = .pointer (some ⟨b2, 0, none⟩) ∧ f 21 = .bool ((!y3) || (decide (x_.By < 0)))) ?_ ?_
 ·intro hJ4
  rcases bcases (!y3) with hc5 | hc5
  ·skip
   refine JL.skip (.bool rfl rfl rfl hc5) rfl ?_
   refine JL.skip (.bool rfl rfl rfl hc5) rfl ?_
   refine JL.skip (.bool rfl rfl rfl hc5) rfl ?_
   refine JL.pick_t (b := (!y3)) rfl hc5 .none rfl ?_
   exact hJ4 _ ⟨rfl, rfl, or_t hc5 rfl⟩
  ·skip
   refine JL.fieldAddr fo_42_0 rfl (.some rfl rfl rfl hc5) rfl ?_
   refine JL.loadOwn 0 az_3 rfl rfl rfl (.some rfl rfl rfl hc5) rfl ?_
   refine JL.bin rfl rfl rfl (.some rfl rfl rfl hc5) rfl ?_
   refine JL.pick_f (b := (!y3)) rfl hc5 .none rfl ?_
   exact hJ4 _ ⟨rfl, rfl, or_f hc5 rfl⟩
 ·rintro f ⟨hf2, hf3, hf21⟩
  refine (JL.norm (i := 2) hf2 (JL.norm (i := 3) hf3 (JL.norm (i := 21) hf21 ?_)))
  refine JL.move .none rfl ?_
  refine JL.cut 4 (fun f => f 2 = .pointer (some ⟨b1, 0, none⟩) ∧ f 3 = .pointer (some ⟨b2, 0, none⟩) ∧ f 26 = .bool (((!y3) || (decide (x_.By < 0))) || (decide (100 < x_.By)))) ?_ ?_
  ·intro hJ6
   rcases bcases ((!y3) || (decide (x_.By < 0))) with hc7 | hc7
   ·skip
    refine JL.skip (.bool rfl rfl rfl hc7) rfl ?_
    refine JL.skip (.bool rfl rfl rfl hc7) rfl ?_
    refine JL.skip (.bool rfl rfl rfl hc7) rfl ?_
    refine JL.pick_t (b := ((!y3) || (decide (x_.By < 0)))) rfl hc7 .none rfl ?_
    exact hJ6 _ ⟨rfl, rfl, or_t hc7 rfl⟩
   ·skip
    refine JL.fieldAddr fo_42_0 rfl (.some rfl rfl rfl hc7) rfl ?_
    refine JL.loadOwn 0 az_3 rfl rfl rfl (.some rfl rfl rfl hc7) rfl ?_
    refine JL.bin rfl rfl rfl (.some rfl rfl rfl hc7) rfl ?_
    refine JL.pick_f (b := ((!y3) || (decide (x_.By < 0)))) rfl hc7 .none rfl ?_
    exact hJ6 _ ⟨rfl, rfl, or_f hc7 rfl⟩
  ·rintro f ⟨hf2, hf3, hf26⟩
   refine (JL.norm (i := 2) hf2 (JL.norm (i := 3) hf3 (JL.norm (i := 26) hf26 ?_)))
   refine JL.done hQ (JQ.go ?_)
   rcases ite_some hF with ⟨hc8, hF⟩ | ⟨hc8, hF⟩
   ·refine JC.cond_t (b := (((!y3) || (decide (x_.By < 0))) || (decide (100 < x_.By)))) rfl hc8 ?_
    refine JC.seq (JC.region (by rfl) ?_)
    intro hQ
    obtain ⟨y9, hy9, hF⟩ := bind_some hF
    refine JL.callS (c_law03_works n H y9 hy9) rfl en_11 .none rfl ?_
    refine JL.assign .none rfl ?_
    refine JL.done hQ (JQ.go (JC.ret (JQ.ret_then ?_)))
    obtain rfl := Option.some.inj hF
    exact JQ.outS rfl (.tmp .nil) rfl
   ·refine JC.cond_f (b := (((!y3) || (decide (x_.By < 0))) || (decide (100 < x_.By)))) rfl hc8 ?_
    refine JC.skip (JQ.go (JC.seq (JC.region (by rfl) ?_)))
    intro hQ
    refine JL.loadOwn 1 az_25 rfl rfl rfl .none rfl ?_
    obtain ⟨y10, hy10, hF⟩ := bind_some hF
    refine JL.callXC (y_ref03_Copy n H s s_v2 hs_2 s_v3 hs_3 s_v4 hs_4 y10 hy10) rfl en_12 .none rfl ?_
    rintro H11 vv12 _ hs11 ⟨w13, w14, w15, gl16, rfl, rfl, hw17, hw18, hrx19⟩
    refine JL.nilG ?_
    refine JL.gsN (y10.Panels.map Panel.Rows).length (by simp) ?_
    refine JL.alloc ze_25 .none rfl ?_
    intro b21
    refine JL.oneG 0 rfl (fun ho22 => ?_)
    refine JL.storeOwn 0 (cs := [.int .i64 y10.Width, .int .i64 y10.Length, w13, w14, w15]) az_25 rfl rfl rfl (one_cons rfl (one_cons rfl (one_cons (SL.one hw17) (one_cons (SL.one hw18) (one_cons ho22.1 one_nil))))) rfl rfl .none ?_
    refine JL.done hQ (JQ.go (JC.seq ?_))
    obtain ⟨y24, hy24, hF⟩ := bind_some hF
    obtain ⟨y26, hy26, hF⟩ := bind_some hF
    refine JC.mixed 14 14 #[false, false, false, false, false, false, false, false, false, false, false, false, false, false] [(b2, .cells [.int .i64 x_.By, .int .i64 x_.Panel].toArray 42), (b1, .cells [.int .i64 s.Width, .int .i64 s.Length, s_v2, s_v3, s_v4].toArray 25)] (by rfl) mo_ (by kernel_rfl) (by kernel_rfl) ?_
    intro hQ hE
    refine JA.take 0 (listed' := #[true, false, false, false, false, false, false, false, false, false, false, false, false, false]) hQ rfl (by kernel_rfl) (by kernel_rfl) (by kernel_rfl) (by kernel_rfl) (by kernel_rfl) hE (HSub.refl _) (.cons _ (.cons_cons _ (.cons_cons _ (List.nil_sublist _)))) ?_
    refine JL.fieldAddr fo_25_2 rfl .none rfl ?_
    refine JA.cont ?_
    refine JA.take 1 (listed' := #[true, true, false, false, false, false, false, false, false, false, false, false, false, false]) hQ rfl (by kernel_rfl) (by kernel_rfl) (by kernel_rfl) (by kernel_rfl) (by kernel_rfl) hE (HSub.refl _) (.cons _ (.cons_cons _ (.cons_cons _ (List.nil_sublist _)))) ?_
    refine JL.loadOwn 1 az_22 rfl rfl rfl .none rfl ?_
    refine JA.cont ?_
    refine JA.take 2 (listed' := #[true, true, true, false, false, false, false, false, false, false, false, false, false, false]) hQ rfl (by kernel_rfl) (by kernel_rfl) (by kernel_rfl) (by kernel_rfl) (by kernel_rfl) hE (HSub.refl _) (.cons _ (.cons_cons _ (.cons_cons _ (List.nil_sublist _)))) ?_
    refine JL.fieldAddr fo_25_0 rfl .none rfl ?_
    refine JA.cont ?_
    refine JA.take 3 (listed' := #[true, true, true, true, false, false, false, false, false, false, false, false, false, false]) hQ rfl (by kernel_rfl) (by kernel_rfl) (by kernel_rfl) (by kernel_rfl) (by kernel_rfl) hE (HSub.refl _) (.cons _ (.cons_cons _ (.cons_cons _ (List.nil_sublist _)))) ?_
    refine JL.loadOwn 1 az_3 rfl rfl rfl .none rfl ?_
    refine JA.cont ?_
    refine JA.take 5 (listed' := #[true, true, true, true, false, true, false, false, false, false, false, false, false, false]) hQ rfl (by kernel_rfl) (by kernel_rfl) (by kernel_rfl) (by kernel_rfl) (by kernel_rfl) hE (HSub.refl _) (.cons _ (.cons_cons _ (.cons_cons _ (List.nil_sublist _)))) ?_
    refine JL.fieldAddr fo_25_3 rfl .none rfl ?_
    refine JA.cont ?_
    refine JA.take 6 (listed' := #[true, true, true, true, false, true, true, false, false, false, false, false, false, false]) hQ rfl (by kernel_rfl) (by kernel_rfl) (by kernel_rfl) (by kernel_rfl) (by kernel_rfl) hE (HSub.refl _) (.cons _ (.cons_cons _ (.cons_cons _ (List.nil_sublist _)))) ?_
    refine JL.loadOwn 1 az_22 rfl rfl rfl .none rfl ?_
    refine JA.cont ?_
    refine JA.take 7 (listed' := #[true, true, true, true, false, true, true, true, false, false, false, false, false, false]) hQ rfl (by kernel_rfl) (by kernel_rfl) (by kernel_rfl) (by kernel_rfl) (by kernel_rfl) hE (HSub.refl _) (.cons _ (.cons_cons _ (.cons_cons _ (List.nil_sublist _)))) ?_
    refine JL.fieldAddr fo_25_0 rfl .none rfl ?_
    refine JA.cont ?_
    refine JA.take 8 (listed' := #[true, true, true, true, false, true, true, true, true, false, false, false, false, false]) hQ rfl (by kernel_rfl) (by kernel_rfl) (by kernel_rfl) (by kernel_rfl) (by kernel_rfl) hE (HSub.refl _) (.cons _ (.cons_cons _ (.cons_cons _ (List.nil_sublist _)))) ?_
    refine JL.loadOwn 1 az_3 rfl rfl rfl .none rfl ?_
    refine JA.cont ?_
    refine JA.many [4] (by kernel_rfl) (by simp) (all_one ⟨_, #[true, true, true, true, true, true, true, true, true, false, false, false, false, false], rfl, (by kernel_rfl), ?_⟩)
    refine JL.callH (c_law03_mirrored n H11 s.Faults s_v2 (SL.mono R_Cell_mono hs11 hs_2) s.Width y24 hy24) rfl en_15 .none rfl ?_
    intro H42 y24a_v0 hs42 hy24a_0
    refine JA.after hE hs42 (.cons _ (.cons_cons _ (.cons_cons _ (List.nil_sublist _)))) ?_
    refine JA.take 10 (listed' := #[true, true, true, true, true, true, true, true, true, false, true, false, false, false]) hQ rfl (by kernel_rfl) (by kernel_rfl) (by kernel_rfl) (by kernel_rfl) (by kernel_rfl) hE hs42 (.cons _ (.cons_cons _ (.cons_cons _ (List.nil_sublist _)))) ?_
    refine JL.fieldAddr fo_25_2 rfl .none rfl ?_
    refine JA.cont ?_
    refine JA.many [9] (by kernel_rfl) (by simp) (all_one ⟨_, #[true, true, true, true, true, true, true, true, true, true, true, false, false, false], rfl, (by kernel_rfl), ?_⟩)
    refine JL.callH (c_law03_mirrored n H42 s.Flaws s_v3 (SL.mono R_Cell_mono (HSub.trans hs11 hs42) hs_3) s.Width y26 hy26) rfl en_15 .none rfl ?_
    intro H43 y26a_v0 hs43 hy26a_0
    refine JA.after hE (HSub.trans hs42 hs43) (.cons _ (.cons_cons _ (.cons_cons _ (List.nil_sublist _)))) ?_
    refine JA.many [11] (by kernel_rfl) (by simp) (all_one ⟨_, #[true, true, true, true, true, true, true, true, true, true, true, true, false, false], rfl, (by kernel_rfl), ?_⟩)
    refine JL.storeOwn 0 (cs := [y24a_v0]) az_22 rfl (SL.vc (SL.mono R_Cell_mono hs43 hy24a_0)) rfl (one_cons (SL.one (SL.mono R_Cell_mono hs43 hy24a_0)) one_nil) rfl rfl .none ?_
    refine JA.after hE (HSub.trans hs42 hs43) (.cons _ (.cons_cons _ (.cons_cons _ (List.nil_sublist _)))) ?_
    refine JA.take 12 (listed' := #[true, true, true, true, true, true, true, true, true, true, true, true, true, false]) hQ rfl (by kernel_rfl) (by kernel_rfl) (by kernel_rfl) (by kernel_rfl) (by kernel_rfl) hE (HSub.trans hs42 hs43) (.cons _ (.cons_cons _ (.cons_cons _ (List.nil_sublist _)))) ?_
    refine JL.fieldAddr fo_25_3 rfl .none rfl ?_
    refine JA.cont ?_
    refine JA.many [13] (by kernel_rfl) (by simp) (all_one ⟨_, #[true, true, true, true, true, true, true, true, true, true, true, true, true, true], rfl, (by kernel_rfl), ?_⟩)
    refine JL.storeOwn 0 (cs := [y26a_v0]) az_22 rfl (SL.vc hy26a_0) rfl (one_cons (SL.one hy26a_0) one_nil) rfl rfl .none ?_
    refine JA.after hE (HSub.trans hs42 hs43) (.cons _ (.cons_cons _ (.cons_cons _ (List.nil_sublist _)))) ?_
    refine JA.done hQ (by kernel_rfl) ?_
    refine JQ.go (JC.fresh (fun f => f 2 = .pointer (some ⟨b1, 0, none⟩) ∧ f 3 = .pointer (some ⟨b2, 0, none⟩) ∧ f 5 = .pointer (some ⟨b21, 0, none⟩)) ⟨rfl, rfl, rfl⟩ ?_)
    rintro f ⟨hf2, hf3, hf5⟩
    refine (JC.norm (i := 2) hf2 (JC.norm (i := 3) hf3 (JC.norm (i := 5) hf5 ?_)))
    refine JC.seq (JC.seq (JC.region (by rfl) ?_))
    intro hQ
    refine JL.assign .none rfl ?_
    refine JL.done hQ (JQ.go ?_)
    obtain ⟨r1308, hlr1308, hKr1308⟩ := bind_some hF
    refine JC.join (fun (rows_1306 : List (List Span)) H1307 f bs gs => ∃ (glrows_1306 : List GS), f 2 = .pointer (some ⟨b1, 0, none⟩) ∧ f 3 = .pointer (some ⟨b2, 0, none⟩) ∧ f 5 = .pointer (some ⟨b21, 0, none⟩) ∧ bs = [(b21, .cells [.int .i64 y10.Width, .int .i64 y10.Length, y24a_v0, y26a_v0, w15].toArray 25), (b2, .cells [.int .i64 x_.By, .int .i64 x_.Panel].toArray 42), (b1, .cells [.int .i64 s.Width, .int .i64 s.Length, s_v2, s_v3, s_v4].toArray 25)] ∧ gs = (⟨w15, 30, 1, rows_1306.length, (rxV glrows_1306)⟩ :: glrows_1306) ∧ Rx H1307 2 46 R_Span glrows_1306 rows_1306 ∧ HSub H43 H1307 ∧ rows_1306 = r1308) ?_ ?_
    ·skip
     refine JC.block (JC.loop hlr1308 (fun (x : Int × List (List Span)) H2151 f bs gs => match x with | (i_2149, rows_2150) => ∃ (glrows_2150 : List GS), f 2 = .pointer (some ⟨b1, 0, none⟩) ∧ f 3 = .pointer (some ⟨b2, 0, none⟩) ∧ f 5 = .pointer (some ⟨b21, 0, none⟩) ∧ f 6 = .int .i64 i_2149 ∧ bs = [(b21, .cells [.int .i64 y10.Width, .int .i64 y10.Length, y24a_v0, y26a_v0, w15].toArray 25), (b2, .cells [.int .i64 x_.By, .int .i64 x_.Panel].toArray 42), (b1, .cells [.int .i64 s.Width, .int .i64 s.Length, s_v2, s_v3, s_v4].toArray 25)] ∧ gs = (⟨w15, 30, 1, rows_2150.length, (rxV glrows_2150)⟩ :: glrows_2150) ∧ Rx H2151 2 46 R_Span glrows_2150 rows_2150 ∧ HSub H43 H2151) ⟨gl16, rfl, rfl, rfl, rfl, rfl, rfl, (Rx.mono R_Span_mono (HSub.trans hs42 hs43) hrx19), (HSub.refl _)⟩ ?_)
     rintro ⟨i_2149, rows_2150⟩ x2153 H2151 f bs gs ⟨glrows_2150, hf2, hf3, hf5, hf6, rfl, rfl, hrows_2150, hs2151⟩ hF hr2152
     rw [F_law03_LaysMirror_s1] at hF
     refine (JC.norm (i := 2) hf2 (JC.norm (i := 3) hf3 (JC.norm (i := 5) hf5 (JC.norm (i := 6) hf6 ?_))))
     refine JC.seq (JC.seq (JC.region (by rfl) ?_))
     intro hQ
     refine JL.move .none rfl ?_
     refine JL.fieldAddr fo_25_4 rfl .none rfl ?_
     refine JL.loadOwn 0 az_23 rfl rfl rfl .none rfl ?_
     refine JL.lenG 0 ul_23 rfl rfl .none rfl ?_
     refine JL.bin rfl rfl rfl .none rfl ?_
     refine JL.done hQ (JQ.go ?_)
     rcases ite_some hF with ⟨hc2154, hF⟩ | ⟨hc2154, hF⟩
     ·refine JC.cond_t (b := decide (i_2149 < (rows_2150.length : Int))) rfl hc2154 ?_
      refine JC.skip (JQ.go (JC.seq (JC.block (JC.seq (JC.region (by rfl) ?_)))))
      intro hQ
      refine JL.fieldAddr fo_25_4 rfl .none rfl ?_
      refine JL.loadOwn 2 az_23 rfl rfl rfl .none rfl ?_
      refine JL.move .none rfl ?_
      obtain ⟨y2155, hy2155, hF⟩ := bind_some hF
      refine JL.indexSL (R := R_Panel) sl_23 (SL.mono R_Panel_mono (HSub.trans hs11 (HSub.trans hs42 (HSub.trans hs43 hs2151))) hs_4) rfl hy2155 .none rfl ?_
      rintro b2156 o2157 cs2158 hc2159 - ⟨y2155_v0, rfl, hy2155_0⟩
      refine JL.loadH 0 az_30 rfl hc2159 rfl .none rfl ?_
      obtain ⟨y2160, hy2160, hF⟩ := bind_some hF
      refine JL.callH (c_ref03_TurnedRows n H2151 y2155 y2155_v0 hy2155_0 y2160 hy2160) rfl en_16 .none rfl ?_
      intro H2161 y2160a_v0 hs2161 hy2160a_0
      refine JL.assign .none rfl ?_
      refine JL.done hQ (JQ.go (JC.fresh (fun f => f 2 = .pointer (some ⟨b1, 0, none⟩) ∧ f 3 = .pointer (some ⟨b2, 0, none⟩) ∧ f 5 = .pointer (some ⟨b21, 0, none⟩) ∧ f 6 = .int .i64 i_2149 ∧ f 7 = y2160a_v0) ⟨rfl, rfl, rfl, rfl, rfl⟩ ?_))
      rintro f ⟨hf2, hf3, hf5, hf6, hf7⟩
      refine (JC.norm (i := 2) hf2 (JC.norm (i := 3) hf3 (JC.norm (i := 5) hf5 (JC.norm (i := 6) hf6 (JC.norm (i := 7) hf7 ?_)))))
      refine JC.seq (JC.region (by rfl) ?_)
      intro hQ
      refine JL.assign .none rfl ?_
      refine JL.done hQ (JQ.go ?_)
      obtain ⟨r2367, hlr2367, hKr2367⟩ := bind_some hF
      refine JC.join (fun (rows_2365 : List (List Span)) H2366 f bs gs => ∃ (glrows_2365 : List GS), f 2 = .pointer (some ⟨b1, 0, none⟩) ∧ f 3 = .pointer (some ⟨b2, 0, none⟩) ∧ f 5 = .pointer (some ⟨b21, 0, none⟩) ∧ f 6 = .int .i64 i_2149 ∧ bs = [(b21, .cells [.int .i64 y10.Width, .int .i64 y10.Length, y24a_v0, y26a_v0, w15].toArray 25), (b2, .cells [.int .i64 x_.By, .int .i64 x_.Panel].toArray 42), (b1, .cells [.int .i64 s.Width, .int .i64 s.Length, s_v2, s_v3, s_v4].toArray 25)] ∧ gs = (⟨w15, 30, 1, rows_2365.length, (rxV glrows_2365)⟩ :: glrows_2365) ∧ Rx H2366 2 46 R_Span glrows_2365 rows_2365 ∧ HSub H2161 H2366 ∧ rows_2365 = r2367) ?_ ?_
      ·skip
       refine JC.block (JC.loop hlr2367 (fun (x : Int × List (List Span)) H2504 f bs gs => match x with | (k_2502, rows_2503) => ∃ (glrows_2503 : List GS), f 2 = .pointer (some ⟨b1, 0, none⟩) ∧ f 3 = .pointer (some ⟨b2, 0, none⟩) ∧ f 5 = .pointer (some ⟨b21, 0, none⟩) ∧ f 6 = .int .i64 i_2149 ∧ f 7 = y2160a_v0 ∧ f 8 = .int .i64 k_2502 ∧ bs = [(b21, .cells [.int .i64 y10.Width, .int .i64 y10.Length, y24a_v0, y26a_v0, w15].toArray 25), (b2, .cells [.int .i64 x_.By, .int .i64 x_.Panel].toArray 42), (b1, .cells [.int .i64 s.Width, .int .i64 s.Length, s_v2, s_v3, s_v4].toArray 25)] ∧ gs = (⟨w15, 30, 1, rows_2503.length, (rxV glrows_2503)⟩ :: glrows_2503) ∧ Rx H2504 2 46 R_Span glrows_2503 rows_2503 ∧ HSub H2161 H2504) ⟨glrows_2150, rfl, rfl, rfl, rfl, rfl, rfl, rfl, rfl, (Rx.mono R_Span_mono hs2161 hrows_2150), (HSub.refl _)⟩ ?_)
       rintro ⟨k_2502, rows_2503⟩ x2506 H2504 f bs gs ⟨glrows_2503, hf2, hf3, hf5, hf6, hf7, hf8, rfl, rfl, hrows_2503, hs2504⟩ hF hr2505
       rw [F_law03_LaysMirror_s2] at hF
       refine (JC.norm (i := 2) hf2 (JC.norm (i := 3) hf3 (JC.norm (i := 5) hf5 (JC.norm (i := 6) hf6 (JC.norm (i := 7) hf7 (JC.norm (i := 8) hf8 ?_))))))
       refine JC.seq (JC.seq (JC.region (by rfl) ?_))
       intro hQ
       refine JL.move .none rfl ?_
       refine JL.move .none rfl ?_
       refine JL.lenSL (R := R_Span) ul_28 (SL.mono R_Span_mono hs2504 hy2160a_0) .none rfl ?_
       refine JL.bin rfl rfl rfl .none rfl ?_
       refine JL.done hQ (JQ.go ?_)
       rcases ite_some hF with ⟨hc2507, hF⟩ | ⟨hc2507, hF⟩
       ·refine JC.cond_t (b := decide (k_2502 < (y2160.length : Int))) rfl hc2507 ?_
        refine JC.skip (JQ.go (JC.seq (JC.block ?_)))
        obtain ⟨row2508, hrow2508, hF⟩ := bind_some hF
        obtain ⟨y2513, hy2513, hF⟩ := bind_some hF
        obtain ⟨e2518, he2518, hF⟩ := bind_some hF
        refine JC.mixed 16 17 #[false, false, false, false, false, false, false, false, false, false, false, false, false, false, false, false, false] [(b21, .cells [.int .i64 y10.Width, .int .i64 y10.Length, y24a_v0, y26a_v0, w15].toArray 25), (b2, .cells [.int .i64 x_.By, .int .i64 x_.Panel].toArray 42), (b1, .cells [.int .i64 s.Width, .int .i64 s.Length, s_v2, s_v3, s_v4].toArray 25)] (by rfl) mo_ (by kernel_rfl) (by kernel_rfl) ?_
        intro hQ hE
        refine JA.take 0 (listed' := #[true, false, false, false, false, false, false, false, false, false, false, false, false, false, false, false, false]) hQ rfl (by kernel_rfl) (by kernel_rfl) (by kernel_rfl) (by kernel_rfl) (by kernel_rfl) hE (HSub.refl _) (.cons_cons _ (.cons_cons _ (.cons_cons _ (List.nil_sublist _)))) ?_
        refine JL.fieldAddr fo_25_4 rfl .none rfl ?_
        refine JA.cont ?_
        refine JA.take 1 (listed' := #[true, true, false, false, false, false, false, false, false, false, false, false, false, false, false, false, false]) hQ rfl (by kernel_rfl) (by kernel_rfl) (by kernel_rfl) (by kernel_rfl) (by kernel_rfl) hE (HSub.refl _) (.cons_cons _ (.cons_cons _ (.cons_cons _ (List.nil_sublist _)))) ?_
        refine JL.loadOwn 0 az_23 rfl rfl rfl .none rfl ?_
        refine JA.cont ?_
        refine JA.take 2 (listed' := #[true, true, true, false, false, false, false, false, false, false, false, false, false, false, false, false, false]) hQ rfl (by kernel_rfl) (by kernel_rfl) (by kernel_rfl) (by kernel_rfl) (by kernel_rfl) hE (HSub.refl _) (.cons_cons _ (.cons_cons _ (.cons_cons _ (List.nil_sublist _)))) ?_
        refine JL.move .none rfl ?_
        refine JA.cont ?_
        refine JA.take 6 (listed' := #[true, true, true, false, false, false, true, false, false, false, false, false, false, false, false, false, false]) hQ rfl (by kernel_rfl) (by kernel_rfl) (by kernel_rfl) (by kernel_rfl) (by kernel_rfl) hE (HSub.refl _) (.cons_cons _ (.cons_cons _ (.cons_cons _ (List.nil_sublist _)))) ?_
        refine JL.move .none rfl ?_
        refine JA.cont ?_
        refine JA.take 7 (listed' := #[true, true, true, false, false, false, true, true, false, false, false, false, false, false, false, false, false]) hQ rfl (by kernel_rfl) (by kernel_rfl) (by kernel_rfl) (by kernel_rfl) (by kernel_rfl) hE (HSub.refl _) (.cons_cons _ (.cons_cons _ (.cons_cons _ (List.nil_sublist _)))) ?_
        refine JL.move .none rfl ?_
        refine JA.cont ?_
        refine JA.take 8 (listed' := #[true, true, true, false, false, false, true, true, true, false, false, false, false, false, false, false, false]) hQ rfl (by kernel_rfl) (by kernel_rfl) (by kernel_rfl) (by kernel_rfl) (by kernel_rfl) hE (HSub.refl _) (.cons_cons _ (.cons_cons _ (.cons_cons _ (List.nil_sublist _)))) ?_
        refine JL.move .none rfl ?_
        refine JA.cont ?_
        refine JA.take 9 (listed' := #[true, true, true, false, false, false, true, true, true, true, false, false, false, false, false, false, false]) hQ rfl (by kernel_rfl) (by kernel_rfl) (by kernel_rfl) (by kernel_rfl) (by kernel_rfl) hE (HSub.refl _) (.cons_cons _ (.cons_cons _ (.cons_cons _ (List.nil_sublist _)))) ?_
        refine JL.lenSL (R := R_Span) ul_28 (SL.mono R_Span_mono hs2504 hy2160a_0) .none rfl ?_
        refine JA.cont ?_
        refine JA.take 10 (listed' := #[true, true, true, false, false, false, true, true, true, true, true, false, false, false, false, false, false]) hQ rfl (by kernel_rfl) (by kernel_rfl) (by kernel_rfl) (by kernel_rfl) (by kernel_rfl) hE (HSub.refl _) (.cons_cons _ (.cons_cons _ (.cons_cons _ (List.nil_sublist _)))) ?_
        refine JL.bin rfl rfl rfl .none rfl ?_
        refine JA.cont ?_
        refine JA.take 11 (listed' := #[true, true, true, false, false, false, true, true, true, true, true, true, false, false, false, false, false]) hQ rfl (by kernel_rfl) (by kernel_rfl) (by kernel_rfl) (by kernel_rfl) (by kernel_rfl) hE (HSub.refl _) (.cons_cons _ (.cons_cons _ (.cons_cons _ (List.nil_sublist _)))) ?_
        refine JL.move .none rfl ?_
        refine JA.cont ?_
        refine JA.take 12 (listed' := #[true, true, true, false, false, false, true, true, true, true, true, true, true, false, false, false, false]) hQ rfl (by kernel_rfl) (by kernel_rfl) (by kernel_rfl) (by kernel_rfl) (by kernel_rfl) hE (HSub.refl _) (.cons_cons _ (.cons_cons _ (.cons_cons _ (List.nil_sublist _)))) ?_
        refine JL.bin rfl rfl rfl .none rfl ?_
        refine JA.cont ?_
        refine JA.take 13 (listed' := #[true, true, true, false, false, false, true, true, true, true, true, true, true, true, false, false, false]) hQ rfl (by kernel_rfl) (by kernel_rfl) (by kernel_rfl) (by kernel_rfl) (by kernel_rfl) hE (HSub.refl _) (.cons_cons _ (.cons_cons _ (.cons_cons _ (List.nil_sublist _)))) ?_
        refine JL.indexSL (R := R_Span) sl_28 (SL.mono R_Span_mono hs2504 hy2160a_0) rfl hy2513 .none rfl ?_
        rintro b2559 o2560 cs2561 hc2562 - rfl
        refine JA.cont ?_
        refine JA.take 14 (listed' := #[true, true, true, false, false, false, true, true, true, true, true, true, true, true, true, false, false]) hQ rfl (by kernel_rfl) (by kernel_rfl) (by kernel_rfl) (by kernel_rfl) (by kernel_rfl) hE (HSub.refl _) (.cons_cons _ (.cons_cons _ (.cons_cons _ (List.nil_sublist _)))) ?_
        refine JL.loadH 0 az_46 rfl hc2562 rfl .none rfl ?_
        refine JA.cont ?_
        refine JA.many [3] (by kernel_rfl) (by simp) (all_one ⟨_, #[true, true, true, true, false, false, true, true, true, true, true, true, true, true, true, false, false], rfl, (by kernel_rfl), ?_⟩)
        obtain ⟨gq2563, hg2564⟩ := Rx.at hrows_2503 hrow2508
        refine JL.indexG 0 (l := rxV glrows_2503) (y := gq2563.v) sl_23 rfl rfl (Rx.lenV hrows_2503) rfl (rxV_at hg2564) .none rfl ?_
        intro b2565 hb2566
        refine JA.after hE (HSub.refl _) (.cons_cons _ (.cons_cons _ (.cons_cons _ (List.nil_sublist _)))) ?_
        refine JA.take 4 (listed' := #[true, true, true, true, true, false, true, true, true, true, true, true, true, true, true, false, false]) hQ rfl (by kernel_rfl) (by kernel_rfl) (by kernel_rfl) (by kernel_rfl) (by kernel_rfl) hE (HSub.refl _) (.cons_cons _ (.cons_cons _ (.cons_cons _ (List.nil_sublist _)))) ?_
        refine JL.fieldAddr fo_30_0 rfl .none rfl ?_
        refine JA.cont ?_
        refine JA.many [5] (by kernel_rfl) (by simp) (all_one ⟨_, #[true, true, true, true, true, true, true, true, true, true, true, true, true, true, true, false, false], rfl, (by kernel_rfl), ?_⟩)
        refine JL.loadG (R := RRaw) 0 (i := i_2149) (l := rxV glrows_2503) (y := gq2563.v) (off := 0) az_28 rfl rfl rfl hb2566 (CH.raw _) (rxV_at hg2564) (by rintro cs rfl; rfl) .none rfl ?_
        refine JA.after hE (HSub.refl _) (.cons_cons _ (.cons_cons _ (.cons_cons _ (List.nil_sublist _)))) ?_
        refine JA.many [15] (by kernel_rfl) (by simp) (all_one ⟨_, #[true, true, true, true, true, true, true, true, true, true, true, true, true, true, true, true, false], rfl, (by kernel_rfl), ?_⟩)
        refine JL.indexG (gq := gq2563) ((i_2149).toNat + 1) (l := row2508) sl_28 (geti_at hg2564) rfl (Rx.get hrows_2503 hg2564 hrow2508).2.2.1 rfl he2518 .none rfl ?_
        intro b2567 hb2568
        refine JA.after hE (HSub.refl _) (.cons_cons _ (.cons_cons _ (.cons_cons _ (List.nil_sublist _)))) ?_
        refine JA.many [16] (by kernel_rfl) (by simp) (all_one ⟨_, #[true, true, true, true, true, true, true, true, true, true, true, true, true, true, true, true, true], rfl, (by kernel_rfl), ?_⟩)
        refine JL.storeRx (y' := y2513) (off := 0) hrows_2503 hg2564 hrow2508 az_46 rfl rfl rfl rfl (one_cons rfl (one_cons rfl one_nil)) hb2568 he2518 rfl (by rintro cs rfl; rfl) .none ?_
        intro gl2569 hrx2570
        refine JA.sink (by kernel_rfl) ?_
        refine JA.done hQ (by kernel_rfl) ?_
        refine JQ.normal_block (JQ.go (JC.fresh (fun f => f 2 = .pointer (some ⟨b1, 0, none⟩) ∧ f 3 = .pointer (some ⟨b2, 0, none⟩) ∧ f 5 = .pointer (some ⟨b21, 0, none⟩) ∧ f 6 = .int .i64 i_2149 ∧ f 7 = y2160a_v0 ∧ f 8 = .int .i64 k_2502) ⟨rfl, rfl, rfl, rfl, rfl, rfl⟩ ?_))
        rintro f ⟨hf2, hf3, hf5, hf6, hf7, hf8⟩
        refine (JC.norm (i := 2) hf2 (JC.norm (i := 3) hf3 (JC.norm (i := 5) hf5 (JC.norm (i := 6) hf6 (JC.norm (i := 7) hf7 (JC.norm (i := 8) hf8 ?_))))))
        refine JC.region (by rfl) ?_
        intro hQ
        refine JL.move .none rfl ?_
        refine JL.bin rfl rfl rfl .none rfl ?_
        refine JL.assign .none rfl ?_
        refine JL.done hQ ?_
        obtain rfl := Option.some.inj hF
        exact JQ.next rfl ⟨gl2569, rfl, rfl, rfl, rfl, rfl, rfl, rfl, rfl, hrx2570, hs2504⟩
       ·refine JC.cond_f (b := decide (k_2502 < (y2160.length : Int))) rfl hc2507 ?_
        refine JC.exit (JQ.exit_then (JQ.exit_then (JQ.exit_block ?_)))
        obtain rfl := Option.some.inj hF
        have ehr2505 := hr2505 _ rfl
        subst ehr2505
        exact JQ.join rows_2503 ⟨glrows_2503, rfl, rfl, rfl, rfl, rfl, rfl, hrows_2503, hs2504, rfl⟩
      ·rintro rows_2365 H2366 f bs gs ⟨glrows_2365, hf2, hf3, hf5, hf6, rfl, rfl, hrows_2365, hs2366, rfl⟩
       have hF := hKr2367
       try dsimp only at hF
       refine (JQ.norm (i := 2) hf2 (JQ.norm (i := 3) hf3 (JQ.norm (i := 5) hf5 (JQ.norm (i := 6) hf6 ?_))))
       refine JQ.normal_block (JQ.go (JC.region (by rfl) ?_))
       intro hQ
       refine JL.move .none rfl ?_
       refine JL.bin rfl rfl rfl .none rfl ?_
       refine JL.assign .none rfl ?_
       refine JL.done hQ ?_
       obtain rfl := Option.some.inj hF
       exact JQ.next rfl ⟨glrows_2365, rfl, rfl, rfl, rfl, rfl, rfl, hrows_2365, (HSub.trans hs2151 (HSub.trans hs2161 hs2366))⟩
     ·refine JC.cond_f (b := decide (i_2149 < (rows_2150.length : Int))) rfl hc2154 ?_
      refine JC.exit (JQ.exit_then (JQ.exit_then (JQ.exit_block ?_)))
      obtain rfl := Option.some.inj hF
      have ehr2152 := hr2152 _ rfl
      subst ehr2152
      exact JQ.join rows_2150 ⟨glrows_2150, rfl, rfl, rfl, rfl, rfl, hrows_2150, hs2151, rfl⟩
    ·rintro rows_1306 H1307 f bs gs ⟨glrows_1306, hf2, hf3, hf5, rfl, rfl, hrows_1306, hs1307, rfl⟩
     have hF := hKr1308
     try dsimp only at hF
     refine (JQ.norm (i := 2) hf2 (JQ.norm (i := 3) hf3 (JQ.norm (i := 5) hf5 ?_)))
     refine JQ.go (JC.seq (JC.freezeRx (R := R_Span) (RP := R_Panel) (mk := Panel.mk) R_Span_mono R_Panel_mono (fun _ v _ h => ⟨v, rfl, h⟩) hrows_1306 ?_))
     intro H2571 hs2571 hg2572
     refine JC.region (by rfl) ?_
     intro hQ
     refine JL.loadOwn 2 az_25 rfl rfl rfl .none rfl ?_
     obtain ⟨y2573, hy2573, hF⟩ := bind_some hF
     refine JL.callXC (x_ref03_Copy n H2571 s s_v2 (SL.mono R_Cell_mono (HSub.trans hs11 (HSub.trans hs42 (HSub.trans hs43 (HSub.trans hs1307 hs2571)))) hs_2) s_v3 (SL.mono R_Cell_mono (HSub.trans hs11 (HSub.trans hs42 (HSub.trans hs43 (HSub.trans hs1307 hs2571)))) hs_3) s_v4 (SL.mono R_Panel_mono (HSub.trans hs11 (HSub.trans hs42 (HSub.trans hs43 (HSub.trans hs1307 hs2571)))) hs_4) y2573 hy2573) rfl en_12 .none rfl ?_
     rintro H2574 vv2575 _ hs2574 ⟨y2573_v0, y2573_xs0, y2573_v1, y2573_xs1, y2573_v2, y2573_xs2, rfl, rfl, hy2573_0, hy2573_1, hy2573_2⟩
     refine JL.alloc ze_25 .none rfl ?_
     intro b2579
     refine JL.oneG 2 rfl (fun ho2580 => ?_)
     refine JL.oneG 1 rfl (fun ho2581 => ?_)
     refine JL.oneG 0 rfl (fun ho2582 => ?_)
     refine JL.storeOwn 0 (cs := [.int .i64 y2573.Width, .int .i64 y2573.Length, y2573_v0, y2573_v1, y2573_v2]) az_25 rfl rfl rfl (one_cons rfl (one_cons rfl (one_cons ho2580.1 (one_cons ho2581.1 (one_cons ho2582.1 one_nil))))) rfl rfl .none ?_
     refine JL.done hQ (JQ.go (JC.seq (JC.seq (JC.region (by rfl) ?_))))
     intro hQ
     refine JL.assign .none rfl ?_
     refine JL.done hQ (JQ.go ?_)
     obtain ⟨r2767, hlr2767, hKr2767⟩ := bind_some hF
     refine JC.join (fun (out_2765 : List Panel) H2766 f bs gs => ∃ (vout_2765 : Value) (xsout_2765 : List Value), f 2 = .pointer (some ⟨b1, 0, none⟩) ∧ f 3 = .pointer (some ⟨b2, 0, none⟩) ∧ f 5 = .pointer (some ⟨b21, 0, none⟩) ∧ f 9 = .pointer (some ⟨b2579, 0, none⟩) ∧ bs = [(b2579, .cells [.int .i64 y2573.Width, .int .i64 y2573.Length, y2573_v0, y2573_v1, vout_2765].toArray 25), (b21, .cells [.int .i64 y10.Width, .int .i64 y10.Length, y24a_v0, y26a_v0, w15].toArray 25), (b2, .cells [.int .i64 x_.By, .int .i64 x_.Panel].toArray 42), (b1, .cells [.int .i64 s.Width, .int .i64 s.Length, s_v2, s_v3, s_v4].toArray 25)] ∧ gs = [⟨vout_2765, 30, 1, out_2765.length, xsout_2765⟩, ⟨y2573_v1, 27, 2, y2573.Flaws.length, y2573_xs1⟩, ⟨y2573_v0, 27, 2, y2573.Faults.length, y2573_xs0⟩] ∧ CH H2766 1 R_Panel xsout_2765 out_2765 ∧ HSub H2574 H2766 ∧ out_2765 = r2767) ?_ ?_
     ·skip
      refine JC.block (JC.loop hlr2767 (fun (x : Int × List Panel) H2890 f bs gs => match x with | (i_2888, out_2889) => ∃ (vout_2889 : Value) (xsout_2889 : List Value), f 2 = .pointer (some ⟨b1, 0, none⟩) ∧ f 3 = .pointer (some ⟨b2, 0, none⟩) ∧ f 5 = .pointer (some ⟨b21, 0, none⟩) ∧ f 9 = .pointer (some ⟨b2579, 0, none⟩) ∧ f 10 = .int .i64 i_2888 ∧ bs = [(b2579, .cells [.int .i64 y2573.Width, .int .i64 y2573.Length, y2573_v0, y2573_v1, vout_2889].toArray 25), (b21, .cells [.int .i64 y10.Width, .int .i64 y10.Length, y24a_v0, y26a_v0, w15].toArray 25), (b2, .cells [.int .i64 x_.By, .int .i64 x_.Panel].toArray 42), (b1, .cells [.int .i64 s.Width, .int .i64 s.Length, s_v2, s_v3, s_v4].toArray 25)] ∧ gs = [⟨vout_2889, 30, 1, out_2889.length, xsout_2889⟩, ⟨y2573_v1, 27, 2, y2573.Flaws.length, y2573_xs1⟩, ⟨y2573_v0, 27, 2, y2573.Faults.length, y2573_xs0⟩] ∧ CH H2890 1 R_Panel xsout_2889 out_2889 ∧ HSub H2574 H2890) ⟨y2573_v2, y2573_xs2, rfl, rfl, rfl, rfl, rfl, rfl, rfl, hy2573_2, (HSub.refl _)⟩ ?_)
      rintro ⟨i_2888, out_2889⟩ x2892 H2890 f bs gs ⟨vout_2889, xsout_2889, hf2, hf3, hf5, hf9, hf10, rfl, rfl, hout_2889, hs2890⟩ hF hr2891
      rw [F_law03_LaysMirror_s3] at hF
      refine (JC.norm (i := 2) hf2 (JC.norm (i := 3) hf3 (JC.norm (i := 5) hf5 (JC.norm (i := 9) hf9 (JC.norm (i := 10) hf10 ?_)))))
      refine JC.seq (JC.seq (JC.region (by rfl) ?_))
      intro hQ
      refine JL.move .none rfl ?_
      refine JL.fieldAddr fo_25_4 rfl .none rfl ?_
      refine JL.loadOwn 3 az_23 rfl rfl rfl .none rfl ?_
      refine JL.lenSL (R := R_Panel) ul_23 (SL.mono R_Panel_mono (HSub.trans hs11 (HSub.trans hs42 (HSub.trans hs43 (HSub.trans hs1307 (HSub.trans hs2571 (HSub.trans hs2574 hs2890)))))) hs_4) .none rfl ?_
      refine JL.bin rfl rfl rfl .none rfl ?_
      refine JL.done hQ (JQ.go ?_)
      rcases ite_some hF with ⟨hc2893, hF⟩ | ⟨hc2893, hF⟩
      ·refine JC.cond_t (b := decide (i_2888 < (s.Panels.length : Int))) rfl hc2893 ?_
       refine JC.skip (JQ.go (JC.seq (JC.block ?_)))
       obtain ⟨u2903, hu2903, hF⟩ := bind_some hF
       obtain ⟨y2904, hy2904, hF⟩ := bind_some hF
       obtain ⟨y2909, hy2909, hF⟩ := bind_some hF
       refine JC.mixed 16 17 #[false, false, false, false, false, false, false, false, false, false, false, false, false, false, false, false, false] [(b2579, .cells [.int .i64 y2573.Width, .int .i64 y2573.Length, y2573_v0, y2573_v1, vout_2889].toArray 25), (b21, .cells [.int .i64 y10.Width, .int .i64 y10.Length, y24a_v0, y26a_v0, w15].toArray 25), (b2, .cells [.int .i64 x_.By, .int .i64 x_.Panel].toArray 42), (b1, .cells [.int .i64 s.Width, .int .i64 s.Length, s_v2, s_v3, s_v4].toArray 25)] (by rfl) mo_ (by kernel_rfl) (by kernel_rfl) ?_
       intro hQ hE
       refine JA.take 0 (listed' := #[true, false, false, false, false, false, false, false, false, false, false, false, false, false, false, false, false]) hQ rfl (by kernel_rfl) (by kernel_rfl) (by kernel_rfl) (by kernel_rfl) (by kernel_rfl) hE (HSub.refl _) (.cons_cons _ (.cons_cons _ (.cons_cons _ (.cons_cons _ (List.nil_sublist _))))) ?_
       refine JL.fieldAddr fo_25_4 rfl .none rfl ?_
       refine JA.cont ?_
       refine JA.take 1 (listed' := #[true, true, false, false, false, false, false, false, false, false, false, false, false, false, false, false, false]) hQ rfl (by kernel_rfl) (by kernel_rfl) (by kernel_rfl) (by kernel_rfl) (by kernel_rfl) hE (HSub.refl _) (.cons_cons _ (.cons_cons _ (.cons_cons _ (.cons_cons _ (List.nil_sublist _))))) ?_
       refine JL.loadOwn 0 az_23 rfl rfl rfl .none rfl ?_
       refine JA.cont ?_
       refine JA.take 2 (listed' := #[true, true, true, false, false, false, false, false, false, false, false, false, false, false, false, false, false]) hQ rfl (by kernel_rfl) (by kernel_rfl) (by kernel_rfl) (by kernel_rfl) (by kernel_rfl) hE (HSub.refl _) (.cons_cons _ (.cons_cons _ (.cons_cons _ (.cons_cons _ (List.nil_sublist _))))) ?_
       refine JL.move .none rfl ?_
       refine JA.cont ?_
       refine JA.take 3 (listed' := #[true, true, true, true, false, false, false, false, false, false, false, false, false, false, false, false, false]) hQ rfl (by kernel_rfl) (by kernel_rfl) (by kernel_rfl) (by kernel_rfl) (by kernel_rfl) hE (HSub.refl _) (.cons_cons _ (.cons_cons _ (.cons_cons _ (.cons_cons _ (List.nil_sublist _))))) ?_
       refine JL.fieldAddr fo_25_4 rfl .none rfl ?_
       refine JA.cont ?_
       refine JA.take 4 (listed' := #[true, true, true, true, true, false, false, false, false, false, false, false, false, false, false, false, false]) hQ rfl (by kernel_rfl) (by kernel_rfl) (by kernel_rfl) (by kernel_rfl) (by kernel_rfl) hE (HSub.refl _) (.cons_cons _ (.cons_cons _ (.cons_cons _ (.cons_cons _ (List.nil_sublist _))))) ?_
       refine JL.loadOwn 3 az_23 rfl rfl rfl .none rfl ?_
       refine JA.cont ?_
       refine JA.take 5 (listed' := #[true, true, true, true, true, true, false, false, false, false, false, false, false, false, false, false, false]) hQ rfl (by kernel_rfl) (by kernel_rfl) (by kernel_rfl) (by kernel_rfl) (by kernel_rfl) hE (HSub.refl _) (.cons_cons _ (.cons_cons _ (.cons_cons _ (.cons_cons _ (List.nil_sublist _))))) ?_
       refine JL.move .none rfl ?_
       refine JA.cont ?_
       refine JA.take 6 (listed' := #[true, true, true, true, true, true, true, false, false, false, false, false, false, false, false, false, false]) hQ rfl (by kernel_rfl) (by kernel_rfl) (by kernel_rfl) (by kernel_rfl) (by kernel_rfl) hE (HSub.refl _) (.cons_cons _ (.cons_cons _ (.cons_cons _ (.cons_cons _ (List.nil_sublist _))))) ?_
       refine JL.fieldAddr fo_42_0 rfl .none rfl ?_
       refine JA.cont ?_
       refine JA.take 7 (listed' := #[true, true, true, true, true, true, true, true, false, false, false, false, false, false, false, false, false]) hQ rfl (by kernel_rfl) (by kernel_rfl) (by kernel_rfl) (by kernel_rfl) (by kernel_rfl) hE (HSub.refl _) (.cons_cons _ (.cons_cons _ (.cons_cons _ (.cons_cons _ (List.nil_sublist _))))) ?_
       refine JL.loadOwn 2 az_3 rfl rfl rfl .none rfl ?_
       refine JA.cont ?_
       refine JA.take 8 (listed' := #[true, true, true, true, true, true, true, true, true, false, false, false, false, false, false, false, false]) hQ rfl (by kernel_rfl) (by kernel_rfl) (by kernel_rfl) (by kernel_rfl) (by kernel_rfl) hE (HSub.refl _) (.cons_cons _ (.cons_cons _ (.cons_cons _ (.cons_cons _ (List.nil_sublist _))))) ?_
       refine JL.bin rfl rfl rfl .none rfl ?_
       refine JA.cont ?_
       refine JA.take 9 (listed' := #[true, true, true, true, true, true, true, true, true, true, false, false, false, false, false, false, false]) hQ rfl (by kernel_rfl) (by kernel_rfl) (by kernel_rfl) (by kernel_rfl) (by kernel_rfl) hE (HSub.refl _) (.cons_cons _ (.cons_cons _ (.cons_cons _ (.cons_cons _ (List.nil_sublist _))))) ?_
       refine JL.fieldAddr fo_25_4 rfl .none rfl ?_
       refine JA.cont ?_
       refine JA.take 10 (listed' := #[true, true, true, true, true, true, true, true, true, true, true, false, false, false, false, false, false]) hQ rfl (by kernel_rfl) (by kernel_rfl) (by kernel_rfl) (by kernel_rfl) (by kernel_rfl) hE (HSub.refl _) (.cons_cons _ (.cons_cons _ (.cons_cons _ (.cons_cons _ (List.nil_sublist _))))) ?_
       refine JL.loadOwn 3 az_23 rfl rfl rfl .none rfl ?_
       refine JA.cont ?_
       refine JA.take 11 (listed' := #[true, true, true, true, true, true, true, true, true, true, true, true, false, false, false, false, false]) hQ rfl (by kernel_rfl) (by kernel_rfl) (by kernel_rfl) (by kernel_rfl) (by kernel_rfl) hE (HSub.refl _) (.cons_cons _ (.cons_cons _ (.cons_cons _ (.cons_cons _ (List.nil_sublist _))))) ?_
       refine JL.lenSL (R := R_Panel) ul_23 (SL.mono R_Panel_mono (HSub.trans hs11 (HSub.trans hs42 (HSub.trans hs43 (HSub.trans hs1307 (HSub.trans hs2571 (HSub.trans hs2574 hs2890)))))) hs_4) .none rfl ?_
       refine JA.cont ?_
       refine JA.take 12 (listed' := #[true, true, true, true, true, true, true, true, true, true, true, true, true, false, false, false, false]) hQ rfl (by kernel_rfl) (by kernel_rfl) (by kernel_rfl) (by kernel_rfl) (by kernel_rfl) hE (HSub.refl _) (.cons_cons _ (.cons_cons _ (.cons_cons _ (.cons_cons _ (List.nil_sublist _))))) ?_
       refine JL.div rfl rfl (nz_some hu2903) rfl .none rfl ?_
       refine JA.cont ?_
       refine JA.take 13 (listed' := #[true, true, true, true, true, true, true, true, true, true, true, true, true, true, false, false, false]) hQ rfl (by kernel_rfl) (by kernel_rfl) (by kernel_rfl) (by kernel_rfl) (by kernel_rfl) hE (HSub.refl _) (.cons_cons _ (.cons_cons _ (.cons_cons _ (.cons_cons _ (List.nil_sublist _))))) ?_
       refine JL.indexSL (R := R_Panel) sl_23 (SL.mono R_Panel_mono (HSub.trans hs11 (HSub.trans hs42 (HSub.trans hs43 (HSub.trans hs1307 (HSub.trans hs2571 (HSub.trans hs2574 hs2890)))))) hs_4) rfl hy2904 .none rfl ?_
       rintro b2942 o2943 cs2944 hc2945 - ⟨y2904_v0, rfl, hy2904_0⟩
       refine JA.cont ?_
       refine JA.take 14 (listed' := #[true, true, true, true, true, true, true, true, true, true, true, true, true, true, true, false, false]) hQ rfl (by kernel_rfl) (by kernel_rfl) (by kernel_rfl) (by kernel_rfl) (by kernel_rfl) hE (HSub.refl _) (.cons_cons _ (.cons_cons _ (.cons_cons _ (.cons_cons _ (List.nil_sublist _))))) ?_
       refine JL.loadH 0 az_30 rfl hc2945 rfl .none rfl ?_
       refine JA.cont ?_
       refine JA.many [15] (by kernel_rfl) (by simp) (all_one ⟨_, #[true, true, true, true, true, true, true, true, true, true, true, true, true, true, true, true, false], rfl, (by kernel_rfl), ?_⟩)
       refine JL.indexG 0 (l := out_2889) sl_23 rfl rfl rfl rfl hy2909 .none rfl ?_
       intro b2946 hb2947
       refine JA.after hE (HSub.refl _) (.cons_cons _ (.cons_cons _ (.cons_cons _ (.cons_cons _ (List.nil_sublist _))))) ?_
       refine JA.many [16] (by kernel_rfl) (by simp) (all_one ⟨_, #[true, true, true, true, true, true, true, true, true, true, true, true, true, true, true, true, true], rfl, (by kernel_rfl), ?_⟩)
       refine JL.storeG (R := R_Panel) 0 (i := i_2888) (l := out_2889) (y := y2909) (y' := y2904) (off := 0) az_30 rfl rfl rfl rfl (one_cons (SL.one hy2904_0) one_nil) rfl hb2947 hout_2889 rfl hy2909 rfl (by rintro cs ⟨v0_, rfl, h0_⟩; exact ⟨y2904_v0, rfl, hy2904_0⟩) .none ?_
       intro xs2948 hch2949
       refine JA.sink (by kernel_rfl) ?_
       refine JA.done hQ (by kernel_rfl) ?_
       refine JQ.normal_block (JQ.go (JC.fresh (fun f => f 2 = .pointer (some ⟨b1, 0, none⟩) ∧ f 3 = .pointer (some ⟨b2, 0, none⟩) ∧ f 5 = .pointer (some ⟨b21, 0, none⟩) ∧ f 9 = .pointer (some ⟨b2579, 0, none⟩) ∧ f 10 = .int .i64 i_2888) ⟨rfl, rfl, rfl, rfl, rfl⟩ ?_))
       rintro f ⟨hf2, hf3, hf5, hf9, hf10⟩
       refine (JC.norm (i := 2) hf2 (JC.norm (i := 3) hf3 (JC.norm (i := 5) hf5 (JC.norm (i := 9) hf9 (JC.norm (i := 10) hf10 ?_)))))
       refine JC.region (by rfl) ?_
       intro hQ
       refine JL.move .none rfl ?_
       refine JL.bin rfl rfl rfl .none rfl ?_
       refine JL.assign .none rfl ?_
       refine JL.done hQ ?_
       obtain rfl := Option.some.inj hF
       exact JQ.next rfl ⟨vout_2889, xs2948, rfl, rfl, rfl, rfl, rfl, rfl, rfl, hch2949, hs2890⟩
      ·refine JC.cond_f (b := decide (i_2888 < (s.Panels.length : Int))) rfl hc2893 ?_
       refine JC.exit (JQ.exit_then (JQ.exit_then (JQ.exit_block ?_)))
       obtain rfl := Option.some.inj hF
       have ehr2891 := hr2891 _ rfl
       subst ehr2891
       exact JQ.join out_2889 ⟨vout_2889, xsout_2889, rfl, rfl, rfl, rfl, rfl, rfl, hout_2889, hs2890, rfl⟩
     ·rintro out_2765 H2766 f bs gs ⟨vout_2765, xsout_2765, hf2, hf3, hf5, hf9, rfl, rfl, hout_2765, hs2766, rfl⟩
      have hF := hKr2767
      try dsimp only at hF
      refine (JQ.norm (i := 2) hf2 (JQ.norm (i := 3) hf3 (JQ.norm (i := 5) hf5 (JQ.norm (i := 9) hf9 ?_))))
      refine JQ.go (JC.seq (JC.seq (JC.region (by rfl) ?_)))
      intro hQ
      refine JL.assign .none rfl ?_
      refine JL.done hQ (JQ.go ?_)
      obtain ⟨r3134, hlr3134, hKr3134⟩ := bind_some hF
      refine JC.join (fun (out_3132 : List Cell) H3133 f bs gs => ∃ (vout_3132 : Value) (xsout_3132 : List Value), f 2 = .pointer (some ⟨b1, 0, none⟩) ∧ f 3 = .pointer (some ⟨b2, 0, none⟩) ∧ f 5 = .pointer (some ⟨b21, 0, none⟩) ∧ f 9 = .pointer (some ⟨b2579, 0, none⟩) ∧ bs = [(b2579, .cells [.int .i64 y2573.Width, .int .i64 y2573.Length, vout_3132, y2573_v1, vout_2765].toArray 25), (b21, .cells [.int .i64 y10.Width, .int .i64 y10.Length, y24a_v0, y26a_v0, w15].toArray 25), (b2, .cells [.int .i64 x_.By, .int .i64 x_.Panel].toArray 42), (b1, .cells [.int .i64 s.Width, .int .i64 s.Length, s_v2, s_v3, s_v4].toArray 25)] ∧ gs = [⟨vout_2765, 30, 1, out_2765.length, xsout_2765⟩, ⟨y2573_v1, 27, 2, y2573.Flaws.length, y2573_xs1⟩, ⟨vout_3132, 27, 2, out_3132.length, xsout_3132⟩] ∧ CH H3133 2 R_Cell xsout_3132 out_3132 ∧ HSub H2766 H3133 ∧ out_3132 = r3134) ?_ ?_
      ·skip
       refine JC.block (JC.loop hlr3134 (fun (x : Int × List Cell) H3257 f bs gs => match x with | (i_3255, out_3256) => ∃ (vout_3256 : Value) (xsout_3256 : List Value), f 2 = .pointer (some ⟨b1, 0, none⟩) ∧ f 3 = .pointer (some ⟨b2, 0, none⟩) ∧ f 5 = .pointer (some ⟨b21, 0, none⟩) ∧ f 9 = .pointer (some ⟨b2579, 0, none⟩) ∧ f 11 = .int .i64 i_3255 ∧ bs = [(b2579, .cells [.int .i64 y2573.Width, .int .i64 y2573.Length, vout_3256, y2573_v1, vout_2765].toArray 25), (b21, .cells [.int .i64 y10.Width, .int .i64 y10.Length, y24a_v0, y26a_v0, w15].toArray 25), (b2, .cells [.int .i64 x_.By, .int .i64 x_.Panel].toArray 42), (b1, .cells [.int .i64 s.Width, .int .i64 s.Length, s_v2, s_v3, s_v4].toArray 25)] ∧ gs = [⟨vout_2765, 30, 1, out_2765.length, xsout_2765⟩, ⟨y2573_v1, 27, 2, y2573.Flaws.length, y2573_xs1⟩, ⟨vout_3256, 27, 2, out_3256.length, xsout_3256⟩] ∧ CH H3257 2 R_Cell xsout_3256 out_3256 ∧ HSub H2766 H3257) ⟨y2573_v0, y2573_xs0, rfl, rfl, rfl, rfl, rfl, rfl, rfl, (CH.mono R_Cell_mono hs2766 hy2573_0), (HSub.refl _)⟩ ?_)
       rintro ⟨i_3255, out_3256⟩ x3259 H3257 f bs gs ⟨vout_3256, xsout_3256, hf2, hf3, hf5, hf9, hf11, rfl, rfl, hout_3256, hs3257⟩ hF hr3258
       rw [F_law03_LaysMirror_s4] at hF
       refine (JC.norm (i := 2) hf2 (JC.norm (i := 3) hf3 (JC.norm (i := 5) hf5 (JC.norm (i := 9) hf9 (JC.norm (i := 11) hf11 ?_)))))
       refine JC.seq (JC.seq (JC.region (by rfl) ?_))
       intro hQ
       refine JL.move .none rfl ?_
       refine JL.fieldAddr fo_25_2 rfl .none rfl ?_
       refine JL.loadOwn 3 az_22 rfl rfl rfl .none rfl ?_
       refine JL.lenSL (R := R_Cell) ul_22 (SL.mono R_Cell_mono (HSub.trans hs11 (HSub.trans hs42 (HSub.trans hs43 (HSub.trans hs1307 (HSub.trans hs2571 (HSub.trans hs2574 (HSub.trans hs2766 hs3257))))))) hs_2) .none rfl ?_
       refine JL.bin rfl rfl rfl .none rfl ?_
       refine JL.done hQ (JQ.go ?_)
       rcases ite_some hF with ⟨hc3260, hF⟩ | ⟨hc3260, hF⟩
       ·refine JC.cond_t (b := decide (i_3255 < (s.Faults.length : Int))) rfl hc3260 ?_
        refine JC.skip (JQ.go (JC.seq (JC.block ?_)))
        obtain ⟨u3270, hu3270, hF⟩ := bind_some hF
        obtain ⟨y3271, hy3271, hF⟩ := bind_some hF
        obtain ⟨y3276, hy3276, hF⟩ := bind_some hF
        refine JC.mixed 16 17 #[false, false, false, false, false, false, false, false, false, false, false, false, false, false, false, false, false] [(b2579, .cells [.int .i64 y2573.Width, .int .i64 y2573.Length, vout_3256, y2573_v1, vout_2765].toArray 25), (b21, .cells [.int .i64 y10.Width, .int .i64 y10.Length, y24a_v0, y26a_v0, w15].toArray 25), (b2, .cells [.int .i64 x_.By, .int .i64 x_.Panel].toArray 42), (b1, .cells [.int .i64 s.Width, .int .i64 s.Length, s_v2, s_v3, s_v4].toArray 25)] (by rfl) mo_ (by kernel_rfl) (by kernel_rfl) ?_
        intro hQ hE
        refine JA.take 0 (listed' := #[true, false, false, false, false, false, false, false, false, false, false, false, false, false, false, false, false]) hQ rfl (by kernel_rfl) (by kernel_rfl) (by kernel_rfl) (by kernel_rfl) (by kernel_rfl) hE (HSub.refl _) (.cons_cons _ (.cons_cons _ (.cons_cons _ (.cons_cons _ (List.nil_sublist _))))) ?_
        refine JL.fieldAddr fo_25_2 rfl .none rfl ?_
        refine JA.cont ?_
        refine JA.take 1 (listed' := #[true, true, false, false, false, false, false, false, false, false, false, false, false, false, false, false, false]) hQ rfl (by kernel_rfl) (by kernel_rfl) (by kernel_rfl) (by kernel_rfl) (by kernel_rfl) hE (HSub.refl _) (.cons_cons _ (.cons_cons _ (.cons_cons _ (.cons_cons _ (List.nil_sublist _))))) ?_
        refine JL.loadOwn 0 az_22 rfl rfl rfl .none rfl ?_
        refine JA.cont ?_
        refine JA.take 2 (listed' := #[true, true, true, false, false, false, false, false, false, false, false, false, false, false, false, false, false]) hQ rfl (by kernel_rfl) (by kernel_rfl) (by kernel_rfl) (by kernel_rfl) (by kernel_rfl) hE (HSub.refl _) (.cons_cons _ (.cons_cons _ (.cons_cons _ (.cons_cons _ (List.nil_sublist _))))) ?_
        refine JL.move .none rfl ?_
        refine JA.cont ?_
        refine JA.take 3 (listed' := #[true, true, true, true, false, false, false, false, false, false, false, false, false, false, false, false, false]) hQ rfl (by kernel_rfl) (by kernel_rfl) (by kernel_rfl) (by kernel_rfl) (by kernel_rfl) hE (HSub.refl _) (.cons_cons _ (.cons_cons _ (.cons_cons _ (.cons_cons _ (List.nil_sublist _))))) ?_
        refine JL.fieldAddr fo_25_2 rfl .none rfl ?_
        refine JA.cont ?_
        refine JA.take 4 (listed' := #[true, true, true, true, true, false, false, false, false, false, false, false, false, false, false, false, false]) hQ rfl (by kernel_rfl) (by kernel_rfl) (by kernel_rfl) (by kernel_rfl) (by kernel_rfl) hE (HSub.refl _) (.cons_cons _ (.cons_cons _ (.cons_cons _ (.cons_cons _ (List.nil_sublist _))))) ?_
        refine JL.loadOwn 3 az_22 rfl rfl rfl .none rfl ?_
        refine JA.cont ?_
        refine JA.take 5 (listed' := #[true, true, true, true, true, true, false, false, false, false, false, false, false, false, false, false, false]) hQ rfl (by kernel_rfl) (by kernel_rfl) (by kernel_rfl) (by kernel_rfl) (by kernel_rfl) hE (HSub.refl _) (.cons_cons _ (.cons_cons _ (.cons_cons _ (.cons_cons _ (List.nil_sublist _))))) ?_
        refine JL.move .none rfl ?_
        refine JA.cont ?_
        refine JA.take 6 (listed' := #[true, true, true, true, true, true, true, false, false, false, false, false, false, false, false, false, false]) hQ rfl (by kernel_rfl) (by kernel_rfl) (by kernel_rfl) (by kernel_rfl) (by kernel_rfl) hE (HSub.refl _) (.cons_cons _ (.cons_cons _ (.cons_cons _ (.cons_cons _ (List.nil_sublist _))))) ?_
        refine JL.fieldAddr fo_42_0 rfl .none rfl ?_
        refine JA.cont ?_
        refine JA.take 7 (listed' := #[true, true, true, true, true, true, true, true, false, false, false, false, false, false, false, false, false]) hQ rfl (by kernel_rfl) (by kernel_rfl) (by kernel_rfl) (by kernel_rfl) (by kernel_rfl) hE (HSub.refl _) (.cons_cons _ (.cons_cons _ (.cons_cons _ (.cons_cons _ (List.nil_sublist _))))) ?_
        refine JL.loadOwn 2 az_3 rfl rfl rfl .none rfl ?_
        refine JA.cont ?_
        refine JA.take 8 (listed' := #[true, true, true, true, true, true, true, true, true, false, false, false, false, false, false, false, false]) hQ rfl (by kernel_rfl) (by kernel_rfl) (by kernel_rfl) (by kernel_rfl) (by kernel_rfl) hE (HSub.refl _) (.cons_cons _ (.cons_cons _ (.cons_cons _ (.cons_cons _ (List.nil_sublist _))))) ?_
        refine JL.bin rfl rfl rfl .none rfl ?_
        refine JA.cont ?_
        refine JA.take 9 (listed' := #[true, true, true, true, true, true, true, true, true, true, false, false, false, false, false, false, false]) hQ rfl (by kernel_rfl) (by kernel_rfl) (by kernel_rfl) (by kernel_rfl) (by kernel_rfl) hE (HSub.refl _) (.cons_cons _ (.cons_cons _ (.cons_cons _ (.cons_cons _ (List.nil_sublist _))))) ?_
        refine JL.fieldAddr fo_25_2 rfl .none rfl ?_
        refine JA.cont ?_
        refine JA.take 10 (listed' := #[true, true, true, true, true, true, true, true, true, true, true, false, false, false, false, false, false]) hQ rfl (by kernel_rfl) (by kernel_rfl) (by kernel_rfl) (by kernel_rfl) (by kernel_rfl) hE (HSub.refl _) (.cons_cons _ (.cons_cons _ (.cons_cons _ (.cons_cons _ (List.nil_sublist _))))) ?_
        refine JL.loadOwn 3 az_22 rfl rfl rfl .none rfl ?_
        refine JA.cont ?_
        refine JA.take 11 (listed' := #[true, true, true, true, true, true, true, true, true, true, true, true, false, false, false, false, false]) hQ rfl (by kernel_rfl) (by kernel_rfl) (by kernel_rfl) (by kernel_rfl) (by kernel_rfl) hE (HSub.refl _) (.cons_cons _ (.cons_cons _ (.cons_cons _ (.cons_cons _ (List.nil_sublist _))))) ?_
        refine JL.lenSL (R := R_Cell) ul_22 (SL.mono R_Cell_mono (HSub.trans hs11 (HSub.trans hs42 (HSub.trans hs43 (HSub.trans hs1307 (HSub.trans hs2571 (HSub.trans hs2574 (HSub.trans hs2766 hs3257))))))) hs_2) .none rfl ?_
        refine JA.cont ?_
        refine JA.take 12 (listed' := #[true, true, true, true, true, true, true, true, true, true, true, true, true, false, false, false, false]) hQ rfl (by kernel_rfl) (by kernel_rfl) (by kernel_rfl) (by kernel_rfl) (by kernel_rfl) hE (HSub.refl _) (.cons_cons _ (.cons_cons _ (.cons_cons _ (.cons_cons _ (List.nil_sublist _))))) ?_
        refine JL.div rfl rfl (nz_some hu3270) rfl .none rfl ?_
        refine JA.cont ?_
        refine JA.take 13 (listed' := #[true, true, true, true, true, true, true, true, true, true, true, true, true, true, false, false, false]) hQ rfl (by kernel_rfl) (by kernel_rfl) (by kernel_rfl) (by kernel_rfl) (by kernel_rfl) hE (HSub.refl _) (.cons_cons _ (.cons_cons _ (.cons_cons _ (.cons_cons _ (List.nil_sublist _))))) ?_
        refine JL.indexSL (R := R_Cell) sl_22 (SL.mono R_Cell_mono (HSub.trans hs11 (HSub.trans hs42 (HSub.trans hs43 (HSub.trans hs1307 (HSub.trans hs2571 (HSub.trans hs2574 (HSub.trans hs2766 hs3257))))))) hs_2) rfl hy3271 .none rfl ?_
        rintro b3309 o3310 cs3311 hc3312 - rfl
        refine JA.cont ?_
        refine JA.take 14 (listed' := #[true, true, true, true, true, true, true, true, true, true, true, true, true, true, true, false, false]) hQ rfl (by kernel_rfl) (by kernel_rfl) (by kernel_rfl) (by kernel_rfl) (by kernel_rfl) hE (HSub.refl _) (.cons_cons _ (.cons_cons _ (.cons_cons _ (.cons_cons _ (List.nil_sublist _))))) ?_
        refine JL.loadH 0 az_27 rfl hc3312 rfl .none rfl ?_
        refine JA.cont ?_
        refine JA.many [15] (by kernel_rfl) (by simp) (all_one ⟨_, #[true, true, true, true, true, true, true, true, true, true, true, true, true, true, true, true, false], rfl, (by kernel_rfl), ?_⟩)
        refine JL.indexG 2 (l := out_3256) sl_22 rfl rfl rfl rfl hy3276 .none rfl ?_
        intro b3313 hb3314
        refine JA.after hE (HSub.refl _) (.cons_cons _ (.cons_cons _ (.cons_cons _ (.cons_cons _ (List.nil_sublist _))))) ?_
        refine JA.many [16] (by kernel_rfl) (by simp) (all_one ⟨_, #[true, true, true, true, true, true, true, true, true, true, true, true, true, true, true, true, true], rfl, (by kernel_rfl), ?_⟩)
        refine JL.storeG (R := R_Cell) 2 (i := i_3255) (l := out_3256) (y := y3276) (y' := y3271) (off := 0) az_27 rfl rfl rfl rfl (one_cons rfl (one_cons rfl one_nil)) rfl hb3314 hout_3256 rfl hy3276 rfl (by rintro cs rfl; rfl) .none ?_
        intro xs3315 hch3316
        refine JA.sink (by kernel_rfl) ?_
        refine JA.done hQ (by kernel_rfl) ?_
        refine JQ.normal_block (JQ.go (JC.fresh (fun f => f 2 = .pointer (some ⟨b1, 0, none⟩) ∧ f 3 = .pointer (some ⟨b2, 0, none⟩) ∧ f 5 = .pointer (some ⟨b21, 0, none⟩) ∧ f 9 = .pointer (some ⟨b2579, 0, none⟩) ∧ f 11 = .int .i64 i_3255) ⟨rfl, rfl, rfl, rfl, rfl⟩ ?_))
        rintro f ⟨hf2, hf3, hf5, hf9, hf11⟩
        refine (JC.norm (i := 2) hf2 (JC.norm (i := 3) hf3 (JC.norm (i := 5) hf5 (JC.norm (i := 9) hf9 (JC.norm (i := 11) hf11 ?_)))))
        refine JC.region (by rfl) ?_
        intro hQ
        refine JL.move .none rfl ?_
        refine JL.bin rfl rfl rfl .none rfl ?_
        refine JL.assign .none rfl ?_
        refine JL.done hQ ?_
        obtain rfl := Option.some.inj hF
        exact JQ.next rfl ⟨vout_3256, xs3315, rfl, rfl, rfl, rfl, rfl, rfl, rfl, hch3316, hs3257⟩
       ·refine JC.cond_f (b := decide (i_3255 < (s.Faults.length : Int))) rfl hc3260 ?_
        refine JC.exit (JQ.exit_then (JQ.exit_then (JQ.exit_block ?_)))
        obtain rfl := Option.some.inj hF
        have ehr3258 := hr3258 _ rfl
        subst ehr3258
        exact JQ.join out_3256 ⟨vout_3256, xsout_3256, rfl, rfl, rfl, rfl, rfl, rfl, hout_3256, hs3257, rfl⟩
      ·rintro out_3132 H3133 f bs gs ⟨vout_3132, xsout_3132, hf2, hf3, hf5, hf9, rfl, rfl, hout_3132, hs3133, rfl⟩
       have hF := hKr3134
       try dsimp only at hF
       refine (JQ.norm (i := 2) hf2 (JQ.norm (i := 3) hf3 (JQ.norm (i := 5) hf5 (JQ.norm (i := 9) hf9 ?_))))
       refine JQ.go (JC.seq (JC.seq (JC.region (by rfl) ?_)))
       intro hQ
       refine JL.assign .none rfl ?_
       refine JL.done hQ (JQ.go ?_)
       obtain ⟨r3501, hlr3501, hKr3501⟩ := bind_some hF
       refine JC.join (fun (out_3499 : List Cell) H3500 f bs gs => ∃ (vout_3499 : Value) (xsout_3499 : List Value), f 2 = .pointer (some ⟨b1, 0, none⟩) ∧ f 3 = .pointer (some ⟨b2, 0, none⟩) ∧ f 5 = .pointer (some ⟨b21, 0, none⟩) ∧ f 9 = .pointer (some ⟨b2579, 0, none⟩) ∧ bs = [(b2579, .cells [.int .i64 y2573.Width, .int .i64 y2573.Length, vout_3132, vout_3499, vout_2765].toArray 25), (b21, .cells [.int .i64 y10.Width, .int .i64 y10.Length, y24a_v0, y26a_v0, w15].toArray 25), (b2, .cells [.int .i64 x_.By, .int .i64 x_.Panel].toArray 42), (b1, .cells [.int .i64 s.Width, .int .i64 s.Length, s_v2, s_v3, s_v4].toArray 25)] ∧ gs = [⟨vout_2765, 30, 1, out_2765.length, xsout_2765⟩, ⟨vout_3499, 27, 2, out_3499.length, xsout_3499⟩, ⟨vout_3132, 27, 2, out_3132.length, xsout_3132⟩] ∧ CH H3500 2 R_Cell xsout_3499 out_3499 ∧ HSub H3133 H3500 ∧ out_3499 = r3501) ?_ ?_
       ·skip
        refine JC.block (JC.loop hlr3501 (fun (x : Int × List Cell) H3624 f bs gs => match x with | (i_3622, out_3623) => ∃ (vout_3623 : Value) (xsout_3623 : List Value), f 2 = .pointer (some ⟨b1, 0, none⟩) ∧ f 3 = .pointer (some ⟨b2, 0, none⟩) ∧ f 5 = .pointer (some ⟨b21, 0, none⟩) ∧ f 9 = .pointer (some ⟨b2579, 0, none⟩) ∧ f 12 = .int .i64 i_3622 ∧ bs = [(b2579, .cells [.int .i64 y2573.Width, .int .i64 y2573.Length, vout_3132, vout_3623, vout_2765].toArray 25), (b21, .cells [.int .i64 y10.Width, .int .i64 y10.Length, y24a_v0, y26a_v0, w15].toArray 25), (b2, .cells [.int .i64 x_.By, .int .i64 x_.Panel].toArray 42), (b1, .cells [.int .i64 s.Width, .int .i64 s.Length, s_v2, s_v3, s_v4].toArray 25)] ∧ gs = [⟨vout_2765, 30, 1, out_2765.length, xsout_2765⟩, ⟨vout_3623, 27, 2, out_3623.length, xsout_3623⟩, ⟨vout_3132, 27, 2, out_3132.length, xsout_3132⟩] ∧ CH H3624 2 R_Cell xsout_3623 out_3623 ∧ HSub H3133 H3624) ⟨y2573_v1, y2573_xs1, rfl, rfl, rfl, rfl, rfl, rfl, rfl, (CH.mono R_Cell_mono (HSub.trans hs2766 hs3133) hy2573_1), (HSub.refl _)⟩ ?_)
        rintro ⟨i_3622, out_3623⟩ x3626 H3624 f bs gs ⟨vout_3623, xsout_3623, hf2, hf3, hf5, hf9, hf12, rfl, rfl, hout_3623, hs3624⟩ hF hr3625
        rw [F_law03_LaysMirror_s5] at hF
        refine (JC.norm (i := 2) hf2 (JC.norm (i := 3) hf3 (JC.norm (i := 5) hf5 (JC.norm (i := 9) hf9 (JC.norm (i := 12) hf12 ?_)))))
        refine JC.seq (JC.seq (JC.region (by rfl) ?_))
        intro hQ
        refine JL.move .none rfl ?_
        refine JL.fieldAddr fo_25_3 rfl .none rfl ?_
        refine JL.loadOwn 3 az_22 rfl rfl rfl .none rfl ?_
        refine JL.lenSL (R := R_Cell) ul_22 (SL.mono R_Cell_mono (HSub.trans hs11 (HSub.trans hs42 (HSub.trans hs43 (HSub.trans hs1307 (HSub.trans hs2571 (HSub.trans hs2574 (HSub.trans hs2766 (HSub.trans hs3133 hs3624)))))))) hs_3) .none rfl ?_
        refine JL.bin rfl rfl rfl .none rfl ?_
        refine JL.done hQ (JQ.go ?_)
        rcases ite_some hF with ⟨hc3627, hF⟩ | ⟨hc3627, hF⟩
        ·refine JC.cond_t (b := decide (i_3622 < (s.Flaws.length : Int))) rfl hc3627 ?_
         refine JC.skip (JQ.go (JC.seq (JC.block ?_)))
         obtain ⟨u3637, hu3637, hF⟩ := bind_some hF
         obtain ⟨y3638, hy3638, hF⟩ := bind_some hF
         obtain ⟨y3643, hy3643, hF⟩ := bind_some hF
         refine JC.mixed 16 17 #[false, false, false, false, false, false, false, false, false, false, false, false, false, false, false, false, false] [(b2579, .cells [.int .i64 y2573.Width, .int .i64 y2573.Length, vout_3132, vout_3623, vout_2765].toArray 25), (b21, .cells [.int .i64 y10.Width, .int .i64 y10.Length, y24a_v0, y26a_v0, w15].toArray 25), (b2, .cells [.int .i64 x_.By, .int .i64 x_.Panel].toArray 42), (b1, .cells [.int .i64 s.Width, .int .i64 s.Length, s_v2, s_v3, s_v4].toArray 25)] (by rfl) mo_ (by kernel_rfl) (by kernel_rfl) ?_
         intro hQ hE
         refine JA.take 0 (listed' := #[true, false, false, false, false, false, false, false, false, false, false, false, false, false, false, false, false]) hQ rfl (by kernel_rfl) (by kernel_rfl) (by kernel_rfl) (by kernel_rfl) (by kernel_rfl) hE (HSub.refl _) (.cons_cons _ (.cons_cons _ (.cons_cons _ (.cons_cons _ (List.nil_sublist _))))) ?_
         refine JL.fieldAddr fo_25_3 rfl .none rfl ?_
         refine JA.cont ?_
         refine JA.take 1 (listed' := #[true, true, false, false, false, false, false, false, false, false, false, false, false, false, false, false, false]) hQ rfl (by kernel_rfl) (by kernel_rfl) (by kernel_rfl) (by kernel_rfl) (by kernel_rfl) hE (HSub.refl _) (.cons_cons _ (.cons_cons _ (.cons_cons _ (.cons_cons _ (List.nil_sublist _))))) ?_
         refine JL.loadOwn 0 az_22 rfl rfl rfl .none rfl ?_
         refine JA.cont ?_
         refine JA.take 2 (listed' := #[true, true, true, false, false, false, false, false, false, false, false, false, false, false, false, false, false]) hQ rfl (by kernel_rfl) (by kernel_rfl) (by kernel_rfl) (by kernel_rfl) (by kernel_rfl) hE (HSub.refl _) (.cons_cons _ (.cons_cons _ (.cons_cons _ (.cons_cons _ (List.nil_sublist _))))) ?_
         refine JL.move .none rfl ?_
         refine JA.cont ?_
         refine JA.take 3 (listed' := #[true, true, true, true, false, false, false, false, false, false, false, false, false, false, false, false, false]) hQ rfl (by kernel_rfl) (by kernel_rfl) (by kernel_rfl) (by kernel_rfl) (by kernel_rfl) hE (HSub.refl _) (.cons_cons _ (.cons_cons _ (.cons_cons _ (.cons_cons _ (List.nil_sublist _))))) ?_
         refine JL.fieldAddr fo_25_3 rfl .none rfl ?_
         refine JA.cont ?_
         refine JA.take 4 (listed' := #[true, true, true, true, true, false, false, false, false, false, false, false, false, false, false, false, false]) hQ rfl (by kernel_rfl) (by kernel_rfl) (by kernel_rfl) (by kernel_rfl) (by kernel_rfl) hE (HSub.refl _) (.cons_cons _ (.cons_cons _ (.cons_cons _ (.cons_cons _ (List.nil_sublist _))))) ?_
         refine JL.loadOwn 3 az_22 rfl rfl rfl .none rfl ?_
         refine JA.cont ?_
         refine JA.take 5 (listed' := #[true, true, true, true, true, true, false, false, false, false, false, false, false, false, false, false, false]) hQ rfl (by kernel_rfl) (by kernel_rfl) (by kernel_rfl) (by kernel_rfl) (by kernel_rfl) hE (HSub.refl _) (.cons_cons _ (.cons_cons _ (.cons_cons _ (.cons_cons _ (List.nil_sublist _))))) ?_
         refine JL.move .none rfl ?_
         refine JA.cont ?_
         refine JA.take 6 (listed' := #[true, true, true, true, true, true, true, false, false, false, false, false, false, false, false, false, false]) hQ rfl (by kernel_rfl) (by kernel_rfl) (by kernel_rfl) (by kernel_rfl) (by kernel_rfl) hE (HSub.refl _) (.cons_cons _ (.cons_cons _ (.cons_cons _ (.cons_cons _ (List.nil_sublist _))))) ?_
         refine JL.fieldAddr fo_42_0 rfl .none rfl ?_
         refine JA.cont ?_
         refine JA.take 7 (listed' := #[true, true, true, true, true, true, true, true, false, false, false, false, false, false, false, false, false]) hQ rfl (by kernel_rfl) (by kernel_rfl) (by kernel_rfl) (by kernel_rfl) (by kernel_rfl) hE (HSub.refl _) (.cons_cons _ (.cons_cons _ (.cons_cons _ (.cons_cons _ (List.nil_sublist _))))) ?_
         refine JL.loadOwn 2 az_3 rfl rfl rfl .none rfl ?_
         refine JA.cont ?_
         refine JA.take 8 (listed' := #[true, true, true, true, true, true, true, true, true, false, false, false, false, false, false, false, false]) hQ rfl (by kernel_rfl) (by kernel_rfl) (by kernel_rfl) (by kernel_rfl) (by kernel_rfl) hE (HSub.refl _) (.cons_cons _ (.cons_cons _ (.cons_cons _ (.cons_cons _ (List.nil_sublist _))))) ?_
         refine JL.bin rfl rfl rfl .none rfl ?_
         refine JA.cont ?_
         refine JA.take 9 (listed' := #[true, true, true, true, true, true, true, true, true, true, false, false, false, false, false, false, false]) hQ rfl (by kernel_rfl) (by kernel_rfl) (by kernel_rfl) (by kernel_rfl) (by kernel_rfl) hE (HSub.refl _) (.cons_cons _ (.cons_cons _ (.cons_cons _ (.cons_cons _ (List.nil_sublist _))))) ?_
         refine JL.fieldAddr fo_25_3 rfl .none rfl ?_
         refine JA.cont ?_
         refine JA.take 10 (listed' := #[true, true, true, true, true, true, true, true, true, true, true, false, false, false, false, false, false]) hQ rfl (by kernel_rfl) (by kernel_rfl) (by kernel_rfl) (by kernel_rfl) (by kernel_rfl) hE (HSub.refl _) (.cons_cons _ (.cons_cons _ (.cons_cons _ (.cons_cons _ (List.nil_sublist _))))) ?_
         refine JL.loadOwn 3 az_22 rfl rfl rfl .none rfl ?_
         refine JA.cont ?_
         refine JA.take 11 (listed' := #[true, true, true, true, true, true, true, true, true, true, true, true, false, false, false, false, false]) hQ rfl (by kernel_rfl) (by kernel_rfl) (by kernel_rfl) (by kernel_rfl) (by kernel_rfl) hE (HSub.refl _) (.cons_cons _ (.cons_cons _ (.cons_cons _ (.cons_cons _ (List.nil_sublist _))))) ?_
         refine JL.lenSL (R := R_Cell) ul_22 (SL.mono R_Cell_mono (HSub.trans hs11 (HSub.trans hs42 (HSub.trans hs43 (HSub.trans hs1307 (HSub.trans hs2571 (HSub.trans hs2574 (HSub.trans hs2766 (HSub.trans hs3133 hs3624)))))))) hs_3) .none rfl ?_
         refine JA.cont ?_
         refine JA.take 12 (listed' := #[true, true, true, true, true, true, true, true, true, true, true, true, true, false, false, false, false]) hQ rfl (by kernel_rfl) (by kernel_rfl) (by kernel_rfl) (by kernel_rfl) (by kernel_rfl) hE (HSub.refl _) (.cons_cons _ (.cons_cons _ (.cons_cons _ (.cons_cons _ (List.nil_sublist _))))) ?_
         refine JL.div rfl rfl (nz_some hu3637) rfl .none rfl ?_
         refine JA.cont ?_
         refine JA.take 13 (listed' := #[true, true, true, true, true, true, true, true, true, true, true, true, true, true, false, false, false]) hQ rfl (by kernel_rfl) (by kernel_rfl) (by kernel_rfl) (by kernel_rfl) (by kernel_rfl) hE (HSub.refl _) (.cons_cons _ (.cons_cons _ (.cons_cons _ (.cons_cons _ (List.nil_sublist _))))) ?_
         refine JL.indexSL (R := R_Cell) sl_22 (SL.mono R_Cell_mono (HSub.trans hs11 (HSub.trans hs42 (HSub.trans hs43 (HSub.trans hs1307 (HSub.trans hs2571 (HSub.trans hs2574 (HSub.trans hs2766 (HSub.trans hs3133 hs3624)))))))) hs_3) rfl hy3638 .none rfl ?_
         rintro b3676 o3677 cs3678 hc3679 - rfl
         refine JA.cont ?_
         refine JA.take 14 (listed' := #[true, true, true, true, true, true, true, true, true, true, true, true, true, true, true, false, false]) hQ rfl (by kernel_rfl) (by kernel_rfl) (by kernel_rfl) (by kernel_rfl) (by kernel_rfl) hE (HSub.refl _) (.cons_cons _ (.cons_cons _ (.cons_cons _ (.cons_cons _ (List.nil_sublist _))))) ?_
         refine JL.loadH 0 az_27 rfl hc3679 rfl .none rfl ?_
         refine JA.cont ?_
         refine JA.many [15] (by kernel_rfl) (by simp) (all_one ⟨_, #[true, true, true, true, true, true, true, true, true, true, true, true, true, true, true, true, false], rfl, (by kernel_rfl), ?_⟩)
         refine JL.indexG 1 (l := out_3623) sl_22 rfl rfl rfl rfl hy3643 .none rfl ?_
         intro b3680 hb3681
         refine JA.after hE (HSub.refl _) (.cons_cons _ (.cons_cons _ (.cons_cons _ (.cons_cons _ (List.nil_sublist _))))) ?_
         refine JA.many [16] (by kernel_rfl) (by simp) (all_one ⟨_, #[true, true, true, true, true, true, true, true, true, true, true, true, true, true, true, true, true], rfl, (by kernel_rfl), ?_⟩)
         refine JL.storeG (R := R_Cell) 1 (i := i_3622) (l := out_3623) (y := y3643) (y' := y3638) (off := 0) az_27 rfl rfl rfl rfl (one_cons rfl (one_cons rfl one_nil)) rfl hb3681 hout_3623 rfl hy3643 rfl (by rintro cs rfl; rfl) .none ?_
         intro xs3682 hch3683
         refine JA.sink (by kernel_rfl) ?_
         refine JA.done hQ (by kernel_rfl) ?_
         refine JQ.normal_block (JQ.go (JC.fresh (fun f => f 2 = .pointer (some ⟨b1, 0, none⟩) ∧ f 3 = .pointer (some ⟨b2, 0, none⟩) ∧ f 5 = .pointer (some ⟨b21, 0, none⟩) ∧ f 9 = .pointer (some ⟨b2579, 0, none⟩) ∧ f 12 = .int .i64 i_3622) ⟨rfl, rfl, rfl, rfl, rfl⟩ ?_))
         rintro f ⟨hf2, hf3, hf5, hf9, hf12⟩
         refine (JC.norm (i := 2) hf2 (JC.norm (i := 3) hf3 (JC.norm (i := 5) hf5 (JC.norm (i := 9) hf9 (JC.norm (i := 12) hf12 ?_)))))
         refine JC.region (by rfl) ?_
         intro hQ
         refine JL.move .none rfl ?_
         refine JL.bin rfl rfl rfl .none rfl ?_
         refine JL.assign .none rfl ?_
         refine JL.done hQ ?_
         obtain rfl := Option.some.inj hF
         exact JQ.next rfl ⟨vout_3623, xs3682, rfl, rfl, rfl, rfl, rfl, rfl, rfl, hch3683, hs3624⟩
        ·refine JC.cond_f (b := decide (i_3622 < (s.Flaws.length : Int))) rfl hc3627 ?_
         refine JC.exit (JQ.exit_then (JQ.exit_then (JQ.exit_block ?_)))
         obtain rfl := Option.some.inj hF
         have ehr3625 := hr3625 _ rfl
         subst ehr3625
         exact JQ.join out_3623 ⟨vout_3623, xsout_3623, rfl, rfl, rfl, rfl, rfl, rfl, hout_3623, hs3624, rfl⟩
       ·rintro out_3499 H3500 f bs gs ⟨vout_3499, xsout_3499, hf2, hf3, hf5, hf9, rfl, rfl, hout_3499, hs3500, rfl⟩
        have hF := hKr3501
        try dsimp only at hF
        refine (JQ.norm (i := 2) hf2 (JQ.norm (i := 3) hf3 (JQ.norm (i := 5) hf5 (JQ.norm (i := 9) hf9 ?_))))
        refine JQ.go (JC.seq (JC.freezeG 0 (R := R_Panel) rfl R_Panel_mono (CH.mono R_Panel_mono (HSub.trans hs3133 hs3500) hout_2765) rfl ?_))
        intro H3684 hs3684 hg3685
        refine JC.freezeG 0 (R := R_Cell) rfl R_Cell_mono (CH.mono R_Cell_mono hs3684 hout_3499) rfl ?_
        intro H3686 hs3686 hg3687
        refine JC.freezeG 0 (R := R_Cell) rfl R_Cell_mono (CH.mono R_Cell_mono (HSub.trans hs3500 (HSub.trans hs3684 hs3686)) hout_3132) rfl ?_
        intro H3688 hs3688 hg3689
        refine JC.region (by rfl) ?_
        intro hQ
        refine JL.loadOwn 3 az_25 rfl rfl rfl .none rfl ?_
        obtain ⟨y3690, hy3690, hF⟩ := bind_some hF
        refine JL.callXC (x_ref03_Copy n H3688 s s_v2 (SL.mono R_Cell_mono (HSub.trans hs11 (HSub.trans hs42 (HSub.trans hs43 (HSub.trans hs1307 (HSub.trans hs2571 (HSub.trans hs2574 (HSub.trans hs2766 (HSub.trans hs3133 (HSub.trans hs3500 (HSub.trans hs3684 (HSub.trans hs3686 hs3688))))))))))) hs_2) s_v3 (SL.mono R_Cell_mono (HSub.trans hs11 (HSub.trans hs42 (HSub.trans hs43 (HSub.trans hs1307 (HSub.trans hs2571 (HSub.trans hs2574 (HSub.trans hs2766 (HSub.trans hs3133 (HSub.trans hs3500 (HSub.trans hs3684 (HSub.trans hs3686 hs3688))))))))))) hs_3) s_v4 (SL.mono R_Panel_mono (HSub.trans hs11 (HSub.trans hs42 (HSub.trans hs43 (HSub.trans hs1307 (HSub.trans hs2571 (HSub.trans hs2574 (HSub.trans hs2766 (HSub.trans hs3133 (HSub.trans hs3500 (HSub.trans hs3684 (HSub.trans hs3686 hs3688))))))))))) hs_4) y3690 hy3690) rfl en_12 .none rfl ?_
        rintro H3691 vv3692 _ hs3691 ⟨y3690_v0, y3690_xs0, y3690_v1, y3690_xs1, y3690_v2, y3690_xs2, rfl, rfl, hy3690_0, hy3690_1, hy3690_2⟩
        refine JL.alloc ze_25 .none rfl ?_
        intro b3696
        refine JL.oneG 2 rfl (fun ho3697 => ?_)
        refine JL.oneG 1 rfl (fun ho3698 => ?_)
        refine JL.oneG 0 rfl (fun ho3699 => ?_)
        refine JL.storeOwn 0 (cs := [.int .i64 y3690.Width, .int .i64 y3690.Length, y3690_v0, y3690_v1, y3690_v2]) az_25 rfl rfl rfl (one_cons rfl (one_cons rfl (one_cons ho3697.1 (one_cons ho3698.1 (one_cons ho3699.1 one_nil))))) rfl rfl .none ?_
        refine JL.done hQ (JQ.go (JC.seq (JC.seq (JC.region (by rfl) ?_))))
        intro hQ
        refine JL.fieldAddr fo_42_1 rfl .none rfl ?_
        refine JL.loadOwn 3 az_3 rfl rfl rfl .none rfl ?_
        refine JL.bin rfl rfl rfl .none rfl ?_
        refine JL.move .none rfl ?_
        refine JL.cut 7 (fun f => f 2 = .pointer (some ⟨b1, 0, none⟩) ∧ f 3 = .pointer (some ⟨b2, 0, none⟩) ∧ f 5 = .pointer (some ⟨b21, 0, none⟩) ∧ f 9 = .pointer (some ⟨b2579, 0, none⟩) ∧ f 13 = .pointer (some ⟨b3696, 0, none⟩) ∧ f 160 = .bool ((decide (0 ≤ x_.Panel)) && (decide (x_.Panel < (s.Panels.length : Int))))) ?_ ?_
        ·intro hJ3700
         rcases bcases (decide (0 ≤ x_.Panel)) with hc3701 | hc3701
         ·skip
          refine JL.fieldAddr fo_42_1 rfl (.some rfl rfl rfl hc3701) rfl ?_
          refine JL.loadOwn 3 az_3 rfl rfl rfl (.some rfl rfl rfl hc3701) rfl ?_
          refine JL.fieldAddr fo_25_4 rfl (.some rfl rfl rfl hc3701) rfl ?_
          refine JL.loadOwn 4 az_23 rfl rfl rfl (.some rfl rfl rfl hc3701) rfl ?_
          refine JL.lenSL (R := R_Panel) ul_23 (SL.mono R_Panel_mono (HSub.trans hs11 (HSub.trans hs42 (HSub.trans hs43 (HSub.trans hs1307 (HSub.trans hs2571 (HSub.trans hs2574 (HSub.trans hs2766 (HSub.trans hs3133 (HSub.trans hs3500 (HSub.trans hs3684 (HSub.trans hs3686 (HSub.trans hs3688 hs3691)))))))))))) hs_4) (.some rfl rfl rfl hc3701) rfl ?_
          refine JL.bin rfl rfl rfl (.some rfl rfl rfl hc3701) rfl ?_
          refine JL.pick_t (b := decide (0 ≤ x_.Panel)) rfl hc3701 .none rfl ?_
          exact hJ3700 _ ⟨rfl, rfl, rfl, rfl, rfl, and_t hc3701 rfl⟩
         ·skip
          refine JL.skip (.bool rfl rfl rfl hc3701) rfl ?_
          refine JL.skip (.bool rfl rfl rfl hc3701) rfl ?_
          refine JL.skip (.bool rfl rfl rfl hc3701) rfl ?_
          refine JL.skip (.bool rfl rfl rfl hc3701) rfl ?_
          refine JL.skip (.bool rfl rfl rfl hc3701) rfl ?_
          refine JL.skip (.bool rfl rfl rfl hc3701) rfl ?_
          refine JL.pick_f (b := decide (0 ≤ x_.Panel)) rfl hc3701 .none rfl ?_
          exact hJ3700 _ ⟨rfl, rfl, rfl, rfl, rfl, and_f hc3701 rfl⟩
        ·rintro f ⟨hf2, hf3, hf5, hf9, hf13, hf160⟩
         refine (JL.norm (i := 2) hf2 (JL.norm (i := 3) hf3 (JL.norm (i := 5) hf5 (JL.norm (i := 9) hf9 (JL.norm (i := 13) hf13 (JL.norm (i := 160) hf160 ?_))))))
         refine JL.done hQ (JQ.go ?_)
         obtain ⟨r3762, hlr3762, hKr3762⟩ := bind_some hF
         refine JC.join (fun (out_3760 : List Panel) H3761 f bs gs => ∃ (vout_3760 : Value) (xsout_3760 : List Value), f 2 = .pointer (some ⟨b1, 0, none⟩) ∧ f 5 = .pointer (some ⟨b21, 0, none⟩) ∧ f 9 = .pointer (some ⟨b2579, 0, none⟩) ∧ f 13 = .pointer (some ⟨b3696, 0, none⟩) ∧ bs = [(b3696, .cells [.int .i64 y3690.Width, .int .i64 y3690.Length, y3690_v0, y3690_v1, vout_3760].toArray 25), (b2579, .cells [.int .i64 y2573.Width, .int .i64 y2573.Length, vout_3132, vout_3499, vout_2765].toArray 25), (b21, .cells [.int .i64 y10.Width, .int .i64 y10.Length, y24a_v0, y26a_v0, w15].toArray 25), (b1, .cells [.int .i64 s.Width, .int .i64 s.Length, s_v2, s_v3, s_v4].toArray 25)] ∧ gs = [⟨vout_3760, 30, 1, out_3760.length, xsout_3760⟩, ⟨y3690_v1, 27, 2, y3690.Flaws.length, y3690_xs1⟩, ⟨y3690_v0, 27, 2, y3690.Faults.length, y3690_xs0⟩] ∧ CH H3761 1 R_Panel xsout_3760 out_3760 ∧ HSub H3691 H3761 ∧ out_3760 = r3762) ?_ ?_
         ·have hF := hlr3762
          rcases ite_some hF with ⟨hc3763, hF⟩ | ⟨hc3763, hF⟩
          ·refine JC.cond_t (b := ((decide (0 ≤ x_.Panel)) && (decide (x_.Panel < (s.Panels.length : Int))))) rfl hc3763 ?_
           obtain ⟨y3770, hy3770, hF⟩ := bind_some hF
           obtain ⟨y3775, hy3775, hF⟩ := bind_some hF
           obtain ⟨y3777, hy3777, hF⟩ := bind_some hF
           refine JC.mixed 13 14 #[false, false, false, false, false, false, false, false, false, false, false, false, false, false] [(b3696, .cells [.int .i64 y3690.Width, .int .i64 y3690.Length, y3690_v0, y3690_v1, y3690_v2].toArray 25), (b2579, .cells [.int .i64 y2573.Width, .int .i64 y2573.Length, vout_3132, vout_3499, vout_2765].toArray 25), (b21, .cells [.int .i64 y10.Width, .int .i64 y10.Length, y24a_v0, y26a_v0, w15].toArray 25), (b2, .cells [.int .i64 x_.By, .int .i64 x_.Panel].toArray 42), (b1, .cells [.int .i64 s.Width, .int .i64 s.Length, s_v2, s_v3, s_v4].toArray 25)] (by rfl) mo_ (by kernel_rfl) (by kernel_rfl) ?_
           intro hQ hE
           refine JA.take 0 (listed' := #[true, false, false, false, false, false, false, false, false, false, false, false, false, false]) hQ rfl (by kernel_rfl) (by kernel_rfl) (by kernel_rfl) (by kernel_rfl) (by kernel_rfl) hE (HSub.refl _) (.cons_cons _ (.cons_cons _ (.cons_cons _ (.cons_cons _ (.cons_cons _ (List.nil_sublist _)))))) ?_
           refine JL.fieldAddr fo_25_4 rfl .none rfl ?_
           refine JA.cont ?_
           refine JA.take 1 (listed' := #[true, true, false, false, false, false, false, false, false, false, false, false, false, false]) hQ rfl (by kernel_rfl) (by kernel_rfl) (by kernel_rfl) (by kernel_rfl) (by kernel_rfl) hE (HSub.refl _) (.cons_cons _ (.cons_cons _ (.cons_cons _ (.cons_cons _ (.cons_cons _ (List.nil_sublist _)))))) ?_
           refine JL.loadOwn 0 az_23 rfl rfl rfl .none rfl ?_
           refine JA.cont ?_
           refine JA.take 2 (listed' := #[true, true, true, false, false, false, false, false, false, false, false, false, false, false]) hQ rfl (by kernel_rfl) (by kernel_rfl) (by kernel_rfl) (by kernel_rfl) (by kernel_rfl) hE (HSub.refl _) (.cons_cons _ (.cons_cons _ (.cons_cons _ (.cons_cons _ (.cons_cons _ (List.nil_sublist _)))))) ?_
           refine JL.fieldAddr fo_42_1 rfl .none rfl ?_
           refine JA.cont ?_
           refine JA.take 3 (listed' := #[true, true, true, true, false, false, false, false, false, false, false, false, false, false]) hQ rfl (by kernel_rfl) (by kernel_rfl) (by kernel_rfl) (by kernel_rfl) (by kernel_rfl) hE (HSub.refl _) (.cons_cons _ (.cons_cons _ (.cons_cons _ (.cons_cons _ (.cons_cons _ (List.nil_sublist _)))))) ?_
           refine JL.loadOwn 3 az_3 rfl rfl rfl .none rfl ?_
           refine JA.cont ?_
           refine JA.take 4 (listed' := #[true, true, true, true, true, false, false, false, false, false, false, false, false, false]) hQ rfl (by kernel_rfl) (by kernel_rfl) (by kernel_rfl) (by kernel_rfl) (by kernel_rfl) hE (HSub.refl _) (.cons_cons _ (.cons_cons _ (.cons_cons _ (.cons_cons _ (.cons_cons _ (List.nil_sublist _)))))) ?_
           refine JL.fieldAddr fo_25_4 rfl .none rfl ?_
           refine JA.cont ?_
           refine JA.take 5 (listed' := #[true, true, true, true, true, true, false, false, false, false, false, false, false, false]) hQ rfl (by kernel_rfl) (by kernel_rfl) (by kernel_rfl) (by kernel_rfl) (by kernel_rfl) hE (HSub.refl _) (.cons_cons _ (.cons_cons _ (.cons_cons _ (.cons_cons _ (.cons_cons _ (List.nil_sublist _)))))) ?_
           refine JL.loadOwn 4 az_23 rfl rfl rfl .none rfl ?_
           refine JA.cont ?_
           refine JA.take 6 (listed' := #[true, true, true, true, true, true, true, false, false, false, false, false, false, false]) hQ rfl (by kernel_rfl) (by kernel_rfl) (by kernel_rfl) (by kernel_rfl) (by kernel_rfl) hE (HSub.refl _) (.cons_cons _ (.cons_cons _ (.cons_cons _ (.cons_cons _ (.cons_cons _ (List.nil_sublist _)))))) ?_
           refine JL.fieldAddr fo_42_1 rfl .none rfl ?_
           refine JA.cont ?_
           refine JA.take 7 (listed' := #[true, true, true, true, true, true, true, true, false, false, false, false, false, false]) hQ rfl (by kernel_rfl) (by kernel_rfl) (by kernel_rfl) (by kernel_rfl) (by kernel_rfl) hE (HSub.refl _) (.cons_cons _ (.cons_cons _ (.cons_cons _ (.cons_cons _ (.cons_cons _ (List.nil_sublist _)))))) ?_
           refine JL.loadOwn 3 az_3 rfl rfl rfl .none rfl ?_
           refine JA.cont ?_
           refine JA.take 8 (listed' := #[true, true, true, true, true, true, true, true, true, false, false, false, false, false]) hQ rfl (by kernel_rfl) (by kernel_rfl) (by kernel_rfl) (by kernel_rfl) (by kernel_rfl) hE (HSub.refl _) (.cons_cons _ (.cons_cons _ (.cons_cons _ (.cons_cons _ (.cons_cons _ (List.nil_sublist _)))))) ?_
           refine JL.indexSL (R := R_Panel) sl_23 (SL.mono R_Panel_mono (HSub.trans hs11 (HSub.trans hs42 (HSub.trans hs43 (HSub.trans hs1307 (HSub.trans hs2571 (HSub.trans hs2574 (HSub.trans hs2766 (HSub.trans hs3133 (HSub.trans hs3500 (HSub.trans hs3684 (HSub.trans hs3686 (HSub.trans hs3688 hs3691)))))))))))) hs_4) rfl hy3770 .none rfl ?_
           rintro b3812 o3813 cs3814 hc3815 - ⟨y3770_v0, rfl, hy3770_0⟩
           refine JA.cont ?_
           refine JA.take 9 (listed' := #[true, true, true, true, true, true, true, true, true, true, false, false, false, false]) hQ rfl (by kernel_rfl) (by kernel_rfl) (by kernel_rfl) (by kernel_rfl) (by kernel_rfl) hE (HSub.refl _) (.cons_cons _ (.cons_cons _ (.cons_cons _ (.cons_cons _ (.cons_cons _ (List.nil_sublist _)))))) ?_
           refine JL.loadH 0 az_30 rfl hc3815 rfl .none rfl ?_
           refine JA.cont ?_
           refine JA.many [10] (by kernel_rfl) (by simp) (all_one ⟨_, #[true, true, true, true, true, true, true, true, true, true, true, false, false, false], rfl, (by kernel_rfl), ?_⟩)
           refine JL.callH (c_ref03_TurnedRows n H3691 y3770 y3770_v0 hy3770_0 y3775 hy3775) rfl en_16 .none rfl ?_
           intro H3816 y3775a_v0 hs3816 hy3775a_0
           refine JA.after hE hs3816 (.cons_cons _ (.cons_cons _ (.cons_cons _ (.cons_cons _ (.cons_cons _ (List.nil_sublist _)))))) ?_
           refine JA.many [11] (by kernel_rfl) (by simp) (all_one ⟨_, #[true, true, true, true, true, true, true, true, true, true, true, true, false, false], rfl, (by kernel_rfl), ?_⟩)
           refine JL.indexG 0 (l := y3690.Panels) sl_23 rfl rfl rfl rfl hy3777 .none rfl ?_
           intro b3817 hb3818
           refine JA.after hE hs3816 (.cons_cons _ (.cons_cons _ (.cons_cons _ (.cons_cons _ (.cons_cons _ (List.nil_sublist _)))))) ?_
           refine JA.take 12 (listed' := #[true, true, true, true, true, true, true, true, true, true, true, true, true, false]) hQ rfl (by kernel_rfl) (by kernel_rfl) (by kernel_rfl) (by kernel_rfl) (by kernel_rfl) hE hs3816 (.cons_cons _ (.cons_cons _ (.cons_cons _ (.cons_cons _ (.cons_cons _ (List.nil_sublist _)))))) ?_
           refine JL.fieldAddr fo_30_0 rfl .none rfl ?_
           refine JA.cont ?_
           refine JA.many [13] (by kernel_rfl) (by simp) (all_one ⟨_, #[true, true, true, true, true, true, true, true, true, true, true, true, true, true], rfl, (by kernel_rfl), ?_⟩)
           refine JL.storeG (R := R_Panel) 0 (i := x_.Panel) (l := y3690.Panels) (y := y3777) (y' := (Panel.mk y3775)) (off := 0) az_28 rfl rfl (SL.vc hy3775a_0) rfl (one_cons (SL.one hy3775a_0) one_nil) rfl hb3818 (CH.mono R_Panel_mono hs3816 hy3690_2) rfl hy3777 rfl (by rintro cs ⟨v0_, rfl, h0_⟩; exact ⟨y3775a_v0, rfl, hy3775a_0⟩) .none ?_
           intro xs3819 hch3820
           refine JA.sink (by kernel_rfl) ?_
           refine JA.done hQ (by kernel_rfl) ?_
           obtain rfl := Option.some.inj hF
           refine JQ.mask [true, true, true, false, true] [true, true, true] ?_
           exact JQ.join (setx y3690.Panels x_.Panel (Panel.mk y3775)) ⟨y3690_v2, xs3819, rfl, rfl, rfl, rfl, rfl, rfl, hch3820, hs3816, rfl⟩
          ·refine JC.cond_f (b := ((decide (0 ≤ x_.Panel)) && (decide (x_.Panel < (s.Panels.length : Int))))) rfl hc3763 ?_
           refine JC.skip ?_
           obtain rfl := Option.some.inj hF
           refine JQ.mask [true, true, true, false, true] [true, true, true] ?_
           exact JQ.join y3690.Panels ⟨y3690_v2, y3690_xs2, rfl, rfl, rfl, rfl, rfl, rfl, hy3690_2, (HSub.refl _), rfl⟩
         ·rintro out_3760 H3761 f bs gs ⟨vout_3760, xsout_3760, hf2, hf5, hf9, hf13, rfl, rfl, hout_3760, hs3761, rfl⟩
          have hF := hKr3762
          try dsimp only at hF
          refine (JQ.norm (i := 2) hf2 (JQ.norm (i := 5) hf5 (JQ.norm (i := 9) hf9 (JQ.norm (i := 13) hf13 ?_))))
          refine JQ.go (JC.seq (JC.freezeG 0 (R := R_Panel) rfl R_Panel_mono hout_3760 rfl ?_))
          intro H3821 hs3821 hg3822
          refine JC.freezeG 0 (R := R_Cell) rfl R_Cell_mono (CH.mono R_Cell_mono (HSub.trans hs3761 hs3821) hy3690_1) rfl ?_
          intro H3823 hs3823 hg3824
          refine JC.freezeG 0 (R := R_Cell) rfl R_Cell_mono (CH.mono R_Cell_mono (HSub.trans hs3761 (HSub.trans hs3821 hs3823)) hy3690_0) rfl ?_
          intro H3825 hs3825 hg3826
          refine JC.region (by rfl) ?_
          intro hQ
          refine JL.loadOwn 3 az_25 rfl rfl rfl .none rfl ?_
          refine JL.loadOwn 2 az_25 rfl rfl rfl .none rfl ?_
          obtain ⟨y3827, hy3827, hF⟩ := bind_some hF
          refine JL.callS (c_law03_atLeast n H3825 s s_v2 (SL.mono R_Cell_mono (HSub.trans hs11 (HSub.trans hs42 (HSub.trans hs43 (HSub.trans hs1307 (HSub.trans hs2571 (HSub.trans hs2574 (HSub.trans hs2766 (HSub.trans hs3133 (HSub.trans hs3500 (HSub.trans hs3684 (HSub.trans hs3686 (HSub.trans hs3688 (HSub.trans hs3691 (HSub.trans hs3761 (HSub.trans hs3821 (HSub.trans hs3823 hs3825)))))))))))))))) hs_2) s_v3 (SL.mono R_Cell_mono (HSub.trans hs11 (HSub.trans hs42 (HSub.trans hs43 (HSub.trans hs1307 (HSub.trans hs2571 (HSub.trans hs2574 (HSub.trans hs2766 (HSub.trans hs3133 (HSub.trans hs3500 (HSub.trans hs3684 (HSub.trans hs3686 (HSub.trans hs3688 (HSub.trans hs3691 (HSub.trans hs3761 (HSub.trans hs3821 (HSub.trans hs3823 hs3825)))))))))))))))) hs_3) s_v4 (SL.mono R_Panel_mono (HSub.trans hs11 (HSub.trans hs42 (HSub.trans hs43 (HSub.trans hs1307 (HSub.trans hs2571 (HSub.trans hs2574 (HSub.trans hs2766 (HSub.trans hs3133 (HSub.trans hs3500 (HSub.trans hs3684 (HSub.trans hs3686 (HSub.trans hs3688 (HSub.trans hs3691 (HSub.trans hs3761 (HSub.trans hs3821 (HSub.trans hs3823 hs3825)))))))))))))))) hs_4) (Lap.mk y10.Width y10.Length y24 y26 (rows_1306.map Panel.mk)) y24a_v0 (SL.mono R_Cell_mono (HSub.trans hs43 (HSub.trans hs1307 (HSub.trans hs2571 (HSub.trans hs2574 (HSub.trans hs2766 (HSub.trans hs3133 (HSub.trans hs3500 (HSub.trans hs3684 (HSub.trans hs3686 (HSub.trans hs3688 (HSub.trans hs3691 (HSub.trans hs3761 (HSub.trans hs3821 (HSub.trans hs3823 hs3825)))))))))))))) hy24a_0) y26a_v0 (SL.mono R_Cell_mono (HSub.trans hs1307 (HSub.trans hs2571 (HSub.trans hs2574 (HSub.trans hs2766 (HSub.trans hs3133 (HSub.trans hs3500 (HSub.trans hs3684 (HSub.trans hs3686 (HSub.trans hs3688 (HSub.trans hs3691 (HSub.trans hs3761 (HSub.trans hs3821 (HSub.trans hs3823 hs3825))))))))))))) hy26a_0) w15 (SL.mono R_Panel_mono (HSub.trans hs2574 (HSub.trans hs2766 (HSub.trans hs3133 (HSub.trans hs3500 (HSub.trans hs3684 (HSub.trans hs3686 (HSub.trans hs3688 (HSub.trans hs3691 (HSub.trans hs3761 (HSub.trans hs3821 (HSub.trans hs3823 hs3825))))))))))) hg2572) y3827 hy3827) rfl en_13 .none rfl ?_
          refine JL.move .none rfl ?_
          obtain ⟨p3829, hp3829, hF⟩ := bind_some hF
          refine JL.cut 4 (fun f => f 2 = .pointer (some ⟨b1, 0, none⟩) ∧ f 9 = .pointer (some ⟨b2579, 0, none⟩) ∧ f 13 = .pointer (some ⟨b3696, 0, none⟩) ∧ f 181 = .bool p3829) ?_ ?_
          ·intro hJ3830
           rcases ite_some hp3829 with ⟨hc3831, hF⟩ | ⟨hc3831, hF⟩
           ·skip
            refine JL.loadOwn 2 az_25 rfl rfl rfl (.some rfl rfl rfl hc3831) rfl ?_
            refine JL.loadOwn 3 az_25 rfl rfl rfl (.some rfl rfl rfl hc3831) rfl ?_
            obtain ⟨y3832, hy3832, hF⟩ := bind_some hF
            refine JL.callS (c_law03_atLeast n H3825 (Lap.mk y10.Width y10.Length y24 y26 (rows_1306.map Panel.mk)) y24a_v0 (SL.mono R_Cell_mono (HSub.trans hs43 (HSub.trans hs1307 (HSub.trans hs2571 (HSub.trans hs2574 (HSub.trans hs2766 (HSub.trans hs3133 (HSub.trans hs3500 (HSub.trans hs3684 (HSub.trans hs3686 (HSub.trans hs3688 (HSub.trans hs3691 (HSub.trans hs3761 (HSub.trans hs3821 (HSub.trans hs3823 hs3825)))))))))))))) hy24a_0) y26a_v0 (SL.mono R_Cell_mono (HSub.trans hs1307 (HSub.trans hs2571 (HSub.trans hs2574 (HSub.trans hs2766 (HSub.trans hs3133 (HSub.trans hs3500 (HSub.trans hs3684 (HSub.trans hs3686 (HSub.trans hs3688 (HSub.trans hs3691 (HSub.trans hs3761 (HSub.trans hs3821 (HSub.trans hs3823 hs3825))))))))))))) hy26a_0) w15 (SL.mono R_Panel_mono (HSub.trans hs2574 (HSub.trans hs2766 (HSub.trans hs3133 (HSub.trans hs3500 (HSub.trans hs3684 (HSub.trans hs3686 (HSub.trans hs3688 (HSub.trans hs3691 (HSub.trans hs3761 (HSub.trans hs3821 (HSub.trans hs3823 hs3825))))))))))) hg2572) s s_v2 (SL.mono R_Cell_mono (HSub.trans hs11 (HSub.trans hs42 (HSub.trans hs43 (HSub.trans hs1307 (HSub.trans hs2571 (HSub.trans hs2574 (HSub.trans hs2766 (HSub.trans hs3133 (HSub.trans hs3500 (HSub.trans hs3684 (HSub.trans hs3686 (HSub.trans hs3688 (HSub.trans hs3691 (HSub.trans hs3761 (HSub.trans hs3821 (HSub.trans hs3823 hs3825)))))))))))))))) hs_2) s_v3 (SL.mono R_Cell_mono (HSub.trans hs11 (HSub.trans hs42 (HSub.trans hs43 (HSub.trans hs1307 (HSub.trans hs2571 (HSub.trans hs2574 (HSub.trans hs2766 (HSub.trans hs3133 (HSub.trans hs3500 (HSub.trans hs3684 (HSub.trans hs3686 (HSub.trans hs3688 (HSub.trans hs3691 (HSub.trans hs3761 (HSub.trans hs3821 (HSub.trans hs3823 hs3825)))))))))))))))) hs_3) s_v4 (SL.mono R_Panel_mono (HSub.trans hs11 (HSub.trans hs42 (HSub.trans hs43 (HSub.trans hs1307 (HSub.trans hs2571 (HSub.trans hs2574 (HSub.trans hs2766 (HSub.trans hs3133 (HSub.trans hs3500 (HSub.trans hs3684 (HSub.trans hs3686 (HSub.trans hs3688 (HSub.trans hs3691 (HSub.trans hs3761 (HSub.trans hs3821 (HSub.trans hs3823 hs3825)))))))))))))))) hs_4) y3832 hy3832) rfl en_13 (.some rfl rfl rfl hc3831) rfl ?_
            refine JL.pick_t (b := y3827) rfl hc3831 .none rfl ?_
            obtain rfl := Option.some.inj hF
            exact hJ3830 _ ⟨rfl, rfl, rfl, rfl⟩
           ·skip
            refine JL.skip (.bool rfl rfl rfl hc3831) rfl ?_
            refine JL.skip (.bool rfl rfl rfl hc3831) rfl ?_
            refine JL.skip (.bool rfl rfl rfl hc3831) rfl ?_
            refine JL.pick_f (b := y3827) rfl hc3831 .none rfl ?_
            obtain rfl := Option.some.inj hF
            exact hJ3830 _ ⟨rfl, rfl, rfl, rfl⟩
          ·rintro f ⟨hf2, hf9, hf13, hf181⟩
           refine (JL.norm (i := 2) hf2 (JL.norm (i := 9) hf9 (JL.norm (i := 13) hf13 (JL.norm (i := 181) hf181 ?_))))
           refine JL.move .none rfl ?_
           obtain ⟨p3834, hp3834, hF⟩ := bind_some hF
           refine JL.cut 4 (fun f => f 2 = .pointer (some ⟨b1, 0, none⟩) ∧ f 9 = .pointer (some ⟨b2579, 0, none⟩) ∧ f 13 = .pointer (some ⟨b3696, 0, none⟩) ∧ f 186 = .bool p3834) ?_ ?_
           ·intro hJ3835
            rcases ite_some hp3834 with ⟨hc3836, hF⟩ | ⟨hc3836, hF⟩
            ·skip
             refine JL.loadOwn 3 az_25 rfl rfl rfl (.some rfl rfl rfl hc3836) rfl ?_
             refine JL.loadOwn 1 az_25 rfl rfl rfl (.some rfl rfl rfl hc3836) rfl ?_
             obtain ⟨y3837, hy3837, hF⟩ := bind_some hF
             refine JL.callS (c_law03_atLeast n H3825 s s_v2 (SL.mono R_Cell_mono (HSub.trans hs11 (HSub.trans hs42 (HSub.trans hs43 (HSub.trans hs1307 (HSub.trans hs2571 (HSub.trans hs2574 (HSub.trans hs2766 (HSub.trans hs3133 (HSub.trans hs3500 (HSub.trans hs3684 (HSub.trans hs3686 (HSub.trans hs3688 (HSub.trans hs3691 (HSub.trans hs3761 (HSub.trans hs3821 (HSub.trans hs3823 hs3825)))))))))))))))) hs_2) s_v3 (SL.mono R_Cell_mono (HSub.trans hs11 (HSub.trans hs42 (HSub.trans hs43 (HSub.trans hs1307 (HSub.trans hs2571 (HSub.trans hs2574 (HSub.trans hs2766 (HSub.trans hs3133 (HSub.trans hs3500 (HSub.trans hs3684 (HSub.trans hs3686 (HSub.trans hs3688 (HSub.trans hs3691 (HSub.trans hs3761 (HSub.trans hs3821 (HSub.trans hs3823 hs3825)))))))))))))))) hs_3) s_v4 (SL.mono R_Panel_mono (HSub.trans hs11 (HSub.trans hs42 (HSub.trans hs43 (HSub.trans hs1307 (HSub.trans hs2571 (HSub.trans hs2574 (HSub.trans hs2766 (HSub.trans hs3133 (HSub.trans hs3500 (HSub.trans hs3684 (HSub.trans hs3686 (HSub.trans hs3688 (HSub.trans hs3691 (HSub.trans hs3761 (HSub.trans hs3821 (HSub.trans hs3823 hs3825)))))))))))))))) hs_4) (Lap.mk y2573.Width y2573.Length out_3132 out_3499 out_2765) vout_3132 (SL.mono R_Cell_mono (HSub.trans hs3691 (HSub.trans hs3761 (HSub.trans hs3821 (HSub.trans hs3823 hs3825)))) hg3689) vout_3499 (SL.mono R_Cell_mono (HSub.trans hs3688 (HSub.trans hs3691 (HSub.trans hs3761 (HSub.trans hs3821 (HSub.trans hs3823 hs3825))))) hg3687) vout_2765 (SL.mono R_Panel_mono (HSub.trans hs3686 (HSub.trans hs3688 (HSub.trans hs3691 (HSub.trans hs3761 (HSub.trans hs3821 (HSub.trans hs3823 hs3825)))))) hg3685) y3837 hy3837) rfl en_13 (.some rfl rfl rfl hc3836) rfl ?_
             refine JL.pick_t (b := p3829) rfl hc3836 .none rfl ?_
             obtain rfl := Option.some.inj hF
             exact hJ3835 _ ⟨rfl, rfl, rfl, rfl⟩
            ·skip
             refine JL.skip (.bool rfl rfl rfl hc3836) rfl ?_
             refine JL.skip (.bool rfl rfl rfl hc3836) rfl ?_
             refine JL.skip (.bool rfl rfl rfl hc3836) rfl ?_
             refine JL.pick_f (b := p3829) rfl hc3836 .none rfl ?_
             obtain rfl := Option.some.inj hF
             exact hJ3835 _ ⟨rfl, rfl, rfl, rfl⟩
           ·rintro f ⟨hf2, hf9, hf13, hf186⟩
            refine (JL.norm (i := 2) hf2 (JL.norm (i := 9) hf9 (JL.norm (i := 13) hf13 (JL.norm (i := 186) hf186 ?_))))
            refine JL.move .none rfl ?_
            obtain ⟨p3839, hp3839, hF⟩ := bind_some hF
            refine JL.cut 4 (fun f => f 2 = .pointer (some ⟨b1, 0, none⟩) ∧ f 13 = .pointer (some ⟨b3696, 0, none⟩) ∧ f 191 = .bool p3839) ?_ ?_
            ·intro hJ3840
             rcases ite_some hp3839 with ⟨hc3841, hF⟩ | ⟨hc3841, hF⟩
             ·skip
              refine JL.loadOwn 1 az_25 rfl rfl rfl (.some rfl rfl rfl hc3841) rfl ?_
              refine JL.loadOwn 3 az_25 rfl rfl rfl (.some rfl rfl rfl hc3841) rfl ?_
              obtain ⟨y3842, hy3842, hF⟩ := bind_some hF
              refine JL.callS (c_law03_atLeast n H3825 (Lap.mk y2573.Width y2573.Length out_3132 out_3499 out_2765) vout_3132 (SL.mono R_Cell_mono (HSub.trans hs3691 (HSub.trans hs3761 (HSub.trans hs3821 (HSub.trans hs3823 hs3825)))) hg3689) vout_3499 (SL.mono R_Cell_mono (HSub.trans hs3688 (HSub.trans hs3691 (HSub.trans hs3761 (HSub.trans hs3821 (HSub.trans hs3823 hs3825))))) hg3687) vout_2765 (SL.mono R_Panel_mono (HSub.trans hs3686 (HSub.trans hs3688 (HSub.trans hs3691 (HSub.trans hs3761 (HSub.trans hs3821 (HSub.trans hs3823 hs3825)))))) hg3685) s s_v2 (SL.mono R_Cell_mono (HSub.trans hs11 (HSub.trans hs42 (HSub.trans hs43 (HSub.trans hs1307 (HSub.trans hs2571 (HSub.trans hs2574 (HSub.trans hs2766 (HSub.trans hs3133 (HSub.trans hs3500 (HSub.trans hs3684 (HSub.trans hs3686 (HSub.trans hs3688 (HSub.trans hs3691 (HSub.trans hs3761 (HSub.trans hs3821 (HSub.trans hs3823 hs3825)))))))))))))))) hs_2) s_v3 (SL.mono R_Cell_mono (HSub.trans hs11 (HSub.trans hs42 (HSub.trans hs43 (HSub.trans hs1307 (HSub.trans hs2571 (HSub.trans hs2574 (HSub.trans hs2766 (HSub.trans hs3133 (HSub.trans hs3500 (HSub.trans hs3684 (HSub.trans hs3686 (HSub.trans hs3688 (HSub.trans hs3691 (HSub.trans hs3761 (HSub.trans hs3821 (HSub.trans hs3823 hs3825)))))))))))))))) hs_3) s_v4 (SL.mono R_Panel_mono (HSub.trans hs11 (HSub.trans hs42 (HSub.trans hs43 (HSub.trans hs1307 (HSub.trans hs2571 (HSub.trans hs2574 (HSub.trans hs2766 (HSub.trans hs3133 (HSub.trans hs3500 (HSub.trans hs3684 (HSub.trans hs3686 (HSub.trans hs3688 (HSub.trans hs3691 (HSub.trans hs3761 (HSub.trans hs3821 (HSub.trans hs3823 hs3825)))))))))))))))) hs_4) y3842 hy3842) rfl en_13 (.some rfl rfl rfl hc3841) rfl ?_
              refine JL.pick_t (b := p3834) rfl hc3841 .none rfl ?_
              obtain rfl := Option.some.inj hF
              exact hJ3840 _ ⟨rfl, rfl, rfl⟩
             ·skip
              refine JL.skip (.bool rfl rfl rfl hc3841) rfl ?_
              refine JL.skip (.bool rfl rfl rfl hc3841) rfl ?_
              refine JL.skip (.bool rfl rfl rfl hc3841) rfl ?_
              refine JL.pick_f (b := p3834) rfl hc3841 .none rfl ?_
              obtain rfl := Option.some.inj hF
              exact hJ3840 _ ⟨rfl, rfl, rfl⟩
            ·rintro f ⟨hf2, hf13, hf191⟩
             refine (JL.norm (i := 2) hf2 (JL.norm (i := 13) hf13 (JL.norm (i := 191) hf191 ?_)))
             refine JL.move .none rfl ?_
             obtain ⟨p3844, hp3844, hF⟩ := bind_some hF
             refine JL.cut 4 (fun f => f 2 = .pointer (some ⟨b1, 0, none⟩) ∧ f 13 = .pointer (some ⟨b3696, 0, none⟩) ∧ f 196 = .bool p3844) ?_ ?_
             ·intro hJ3845
              rcases ite_some hp3844 with ⟨hc3846, hF⟩ | ⟨hc3846, hF⟩
              ·skip
               refine JL.loadOwn 3 az_25 rfl rfl rfl (.some rfl rfl rfl hc3846) rfl ?_
               refine JL.loadOwn 0 az_25 rfl rfl rfl (.some rfl rfl rfl hc3846) rfl ?_
               obtain ⟨y3847, hy3847, hF⟩ := bind_some hF
               refine JL.callS (c_law03_atLeast n H3825 s s_v2 (SL.mono R_Cell_mono (HSub.trans hs11 (HSub.trans hs42 (HSub.trans hs43 (HSub.trans hs1307 (HSub.trans hs2571 (HSub.trans hs2574 (HSub.trans hs2766 (HSub.trans hs3133 (HSub.trans hs3500 (HSub.trans hs3684 (HSub.trans hs3686 (HSub.trans hs3688 (HSub.trans hs3691 (HSub.trans hs3761 (HSub.trans hs3821 (HSub.trans hs3823 hs3825)))))))))))))))) hs_2) s_v3 (SL.mono R_Cell_mono (HSub.trans hs11 (HSub.trans hs42 (HSub.trans hs43 (HSub.trans hs1307 (HSub.trans hs2571 (HSub.trans hs2574 (HSub.trans hs2766 (HSub.trans hs3133 (HSub.trans hs3500 (HSub.trans hs3684 (HSub.trans hs3686 (HSub.trans hs3688 (HSub.trans hs3691 (HSub.trans hs3761 (HSub.trans hs3821 (HSub.trans hs3823 hs3825)))))))))))))))) hs_3) s_v4 (SL.mono R_Panel_mono (HSub.trans hs11 (HSub.trans hs42 (HSub.trans hs43 (HSub.trans hs1307 (HSub.trans hs2571 (HSub.trans hs2574 (HSub.trans hs2766 (HSub.trans hs3133 (HSub.trans hs3500 (HSub.trans hs3684 (HSub.trans hs3686 (HSub.trans hs3688 (HSub.trans hs3691 (HSub.trans hs3761 (HSub.trans hs3821 (HSub.trans hs3823 hs3825)))))))))))))))) hs_4) (Lap.mk y3690.Width y3690.Length y3690.Faults y3690.Flaws out_3760) y3690_v0 hg3826 y3690_v1 (SL.mono R_Cell_mono hs3825 hg3824) vout_3760 (SL.mono R_Panel_mono (HSub.trans hs3823 hs3825) hg3822) y3847 hy3847) rfl en_13 (.some rfl rfl rfl hc3846) rfl ?_
               refine JL.pick_t (b := p3839) rfl hc3846 .none rfl ?_
               obtain rfl := Option.some.inj hF
               exact hJ3845 _ ⟨rfl, rfl, rfl⟩
              ·skip
               refine JL.skip (.bool rfl rfl rfl hc3846) rfl ?_
               refine JL.skip (.bool rfl rfl rfl hc3846) rfl ?_
               refine JL.skip (.bool rfl rfl rfl hc3846) rfl ?_
               refine JL.pick_f (b := p3839) rfl hc3846 .none rfl ?_
               obtain rfl := Option.some.inj hF
               exact hJ3845 _ ⟨rfl, rfl, rfl⟩
             ·rintro f ⟨hf2, hf13, hf196⟩
              refine (JL.norm (i := 2) hf2 (JL.norm (i := 13) hf13 (JL.norm (i := 196) hf196 ?_)))
              refine JL.move .none rfl ?_
              obtain ⟨p3849, hp3849, hF⟩ := bind_some hF
              refine JL.cut 4 (fun f => f 201 = .bool p3849) ?_ ?_
              ·intro hJ3850
               rcases ite_some hp3849 with ⟨hc3851, hF⟩ | ⟨hc3851, hF⟩
               ·skip
                refine JL.loadOwn 0 az_25 rfl rfl rfl (.some rfl rfl rfl hc3851) rfl ?_
                refine JL.loadOwn 3 az_25 rfl rfl rfl (.some rfl rfl rfl hc3851) rfl ?_
                obtain ⟨y3852, hy3852, hF⟩ := bind_some hF
                refine JL.callS (c_law03_atLeast n H3825 (Lap.mk y3690.Width y3690.Length y3690.Faults y3690.Flaws out_3760) y3690_v0 hg3826 y3690_v1 (SL.mono R_Cell_mono hs3825 hg3824) vout_3760 (SL.mono R_Panel_mono (HSub.trans hs3823 hs3825) hg3822) s s_v2 (SL.mono R_Cell_mono (HSub.trans hs11 (HSub.trans hs42 (HSub.trans hs43 (HSub.trans hs1307 (HSub.trans hs2571 (HSub.trans hs2574 (HSub.trans hs2766 (HSub.trans hs3133 (HSub.trans hs3500 (HSub.trans hs3684 (HSub.trans hs3686 (HSub.trans hs3688 (HSub.trans hs3691 (HSub.trans hs3761 (HSub.trans hs3821 (HSub.trans hs3823 hs3825)))))))))))))))) hs_2) s_v3 (SL.mono R_Cell_mono (HSub.trans hs11 (HSub.trans hs42 (HSub.trans hs43 (HSub.trans hs1307 (HSub.trans hs2571 (HSub.trans hs2574 (HSub.trans hs2766 (HSub.trans hs3133 (HSub.trans hs3500 (HSub.trans hs3684 (HSub.trans hs3686 (HSub.trans hs3688 (HSub.trans hs3691 (HSub.trans hs3761 (HSub.trans hs3821 (HSub.trans hs3823 hs3825)))))))))))))))) hs_3) s_v4 (SL.mono R_Panel_mono (HSub.trans hs11 (HSub.trans hs42 (HSub.trans hs43 (HSub.trans hs1307 (HSub.trans hs2571 (HSub.trans hs2574 (HSub.trans hs2766 (HSub.trans hs3133 (HSub.trans hs3500 (HSub.trans hs3684 (HSub.trans hs3686 (HSub.trans hs3688 (HSub.trans hs3691 (HSub.trans hs3761 (HSub.trans hs3821 (HSub.trans hs3823 hs3825)))))))))))))))) hs_4) y3852 hy3852) rfl en_13 (.some rfl rfl rfl hc3851) rfl ?_
                refine JL.pick_t (b := p3844) rfl hc3851 .none rfl ?_
                obtain rfl := Option.some.inj hF
                exact hJ3850 _ (rfl)
               ·skip
                refine JL.skip (.bool rfl rfl rfl hc3851) rfl ?_
                refine JL.skip (.bool rfl rfl rfl hc3851) rfl ?_
                refine JL.skip (.bool rfl rfl rfl hc3851) rfl ?_
                refine JL.pick_f (b := p3844) rfl hc3851 .none rfl ?_
                obtain rfl := Option.some.inj hF
                exact hJ3850 _ (rfl)
              ·rintro f hf201
               refine (JL.norm (i := 201) hf201 ?_)
               refine JL.move .none rfl ?_
               obtain ⟨p3854, hp3854, hF⟩ := bind_some hF
               refine JL.cut 2 (fun f => f 204 = .bool p3854) ?_ ?_
               ·intro hJ3855
                rcases ite_some hp3854 with ⟨hc3856, hF⟩ | ⟨hc3856, hF⟩
                ·skip
                 obtain ⟨y3857, hy3857, hF⟩ := bind_some hF
                 refine JL.callS (c_law03_works n H3825 y3857 hy3857) rfl en_11 (.some rfl rfl rfl hc3856) rfl ?_
                 refine JL.pick_t (b := p3849) rfl hc3856 .none rfl ?_
                 obtain rfl := Option.some.inj hF
                 exact hJ3855 _ (rfl)
                ·skip
                 refine JL.skip (.bool rfl rfl rfl hc3856) rfl ?_
                 refine JL.pick_f (b := p3849) rfl hc3856 .none rfl ?_
                 obtain rfl := Option.some.inj hF
                 exact hJ3855 _ (rfl)
               ·rintro f hf204
                refine (JL.norm (i := 204) hf204 ?_)
                refine JL.assign .none rfl ?_
                refine JL.done hQ (JQ.go (JC.ret ?_))
                obtain rfl := Option.some.inj hF
                exact JQ.outS rfl (.tmp .nil) rfl
end Go.Proofs.Ytflhjlgimihmgaa
end
