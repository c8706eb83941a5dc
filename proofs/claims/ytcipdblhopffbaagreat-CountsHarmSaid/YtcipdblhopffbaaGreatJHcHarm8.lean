/-
  A part of the proof of HcHarm: the texts HaGenK12, HaGenK13, HaGenK14.
-/
import Derived.Test.YtcipdblhopffbaaGreatJHcHarm7
section
set_option maxRecDepth 100000
set_option maxHeartbeats 40000000
namespace Go.Proofs.YtcipdblhopffbaaGreat
open Go Go.RowKit Go.Dec
set_option linter.unusedVariables false
-- 8 ferrule/ferruleref13.Copy
def F_ref13_Copy (n : Nat) (r : Run) : Option Run :=
 (F_ref05_Copy n r.Canopy).bind fun y4 => (lim (([] : List Blow) ++ r.Blows)).bind fun l9 => (lim (([] : List Meter) ++ r.Meters)).bind fun l15 => some (Run.mk y4 l9 l15 r.Wrong)
theorem c_ref13_Copy (n : Nat) (H : Hp) (r : Run) (r_v0 : Value) (hr_0 : SL H 7 R_Section r_v0 r.Canopy.Frame.Sections) (r_v7 : Value) (hr_7 : SL H 2 R_Span r_v7 r.Canopy.Ribs) (r_v8 : Value) (hr_8 : SL H 1 RInt r_v8 r.Canopy.Shares) (r_v9 : Value) (hr_9 : SL H 3 R_Blow r_v9 r.Blows) (r_v10 : Value) (hr_10 : SL H 2 R_Meter r_v10 r.Meters) (y : Run) (hF : F_ref13_Copy n r = some y) : HC Tryz.prog 8 [.agg [r_v0, .int .i64 r.Canopy.Frame.Low, .int .i64 r.Canopy.Frame.High, .int .i64 r.Canopy.Frame.Ease.Num, .int .i64 r.Canopy.Frame.Ease.Den, .int .i64 r.Canopy.Frame.Rod, .int .i64 r.Canopy.Frame.Case, r_v7, r_v8, r_v9, r_v10, .int .i64 r.Wrong].toArray] H (fun H' v => ∃ ra_v0 ra_v7 ra_v8 ra_v9 ra_v10 : Value, v = .agg [ra_v0, .int .i64 y.Canopy.Frame.Low, .int .i64 y.Canopy.Frame.High, .int .i64 y.Canopy.Frame.Ease.Num, .int .i64 y.Canopy.Frame.Ease.Den, .int .i64 y.Canopy.Frame.Rod, .int .i64 y.Canopy.Frame.Case, ra_v7, ra_v8, ra_v9, ra_v10, .int .i64 y.Wrong].toArray ∧ SL H' 7 R_Section ra_v0 y.Canopy.Frame.Sections ∧ SL H' 2 R_Span ra_v7 y.Canopy.Ribs ∧ SL H' 1 RInt ra_v8 y.Canopy.Shares ∧ SL H' 3 R_Blow ra_v9 y.Blows ∧ SL H' 2 R_Meter ra_v10 y.Meters) := by
 rw [F_ref13_Copy] at hF
 refine HC.of (N := 20) Tryz.func8 rfl rfl rfl fun w => ?_
 refine JC.seq (JC.region (by rfl) ?_)
 intro hQ
 refine JL.box (cs := [r_v0, .int .i64 r.Canopy.Frame.Low, .int .i64 r.Canopy.Frame.High, .int .i64 r.Canopy.Frame.Ease.Num, .int .i64 r.Canopy.Frame.Ease.Den, .int .i64 r.Canopy.Frame.Rod, .int .i64 r.Canopy.Frame.Case, r_v7, r_v8, r_v9, r_v10, .int .i64 r.Wrong]) rfl .none rfl ?_
 intro b1
 refine JL.alloc ze_34 .none rfl ?_
 intro b2
 refine JL.done hQ (JQ.go (JC.seq (JC.region (by rfl) ?_)))
 intro hQ
 refine JL.loadOwn 1 az_34 rfl rfl rfl .none rfl (JL.alloc ze_34 .none rfl ?_)
 intro b3
 refine JL.storeOwn 0 (cs := [r_v0, .int .i64 r.Canopy.Frame.Low, .int .i64 r.Canopy.Frame.High, .int .i64 r.Canopy.Frame.Ease.Num, .int .i64 r.Canopy.Frame.Ease.Den, .int .i64 r.Canopy.Frame.Rod, .int .i64 r.Canopy.Frame.Case, r_v7, r_v8, r_v9, r_v10, .int .i64 r.Wrong]) az_34 rfl rfl rfl (one_cons (SL.one hr_0) (one_cons rfl (one_cons rfl (one_cons rfl (one_cons rfl (one_cons rfl (one_cons rfl (one_cons (SL.one hr_7) (one_cons (SL.one hr_8) (one_cons (SL.one hr_9) (one_cons (SL.one hr_10) (one_cons rfl one_nil)))))))))))) rfl rfl .none ?_
 refine JL.done hQ (JQ.go (JC.seq (JC.region (by rfl) ?_)))
 intro hQ
 refine JL.fieldAddr fo_34_0 rfl .none rfl (JL.loadOwn 2 az_30 rfl rfl rfl .none rfl ?_)
 obtain ⟨y4, hy4, hF⟩ := bind_some hF
 refine JL.callH (c_ref05_Copy n H r.Canopy r_v0 hr_0 r_v7 hr_7 r_v8 hr_8 y4 hy4) rfl en_40 .none rfl ?_
 rintro H5 vv6 hs5 ⟨y4a_v0, y4a_v7, y4a_v8, rfl, hy4a_0, hy4a_7, hy4a_8⟩
 refine JL.fieldAddr fo_34_0 rfl .none rfl (JL.storeOwn 0 (cs := [y4a_v0, .int .i64 y4.Frame.Low, .int .i64 y4.Frame.High, .int .i64 y4.Frame.Ease.Num, .int .i64 y4.Frame.Ease.Den, .int .i64 y4.Frame.Rod, .int .i64 y4.Frame.Case, y4a_v7, y4a_v8]) az_30 rfl rfl rfl (one_cons (SL.one hy4a_0) (one_cons rfl (one_cons rfl (one_cons rfl (one_cons rfl (one_cons rfl (one_cons rfl (one_cons (SL.one hy4a_7) (one_cons (SL.one hy4a_8) one_nil))))))))) rfl rfl .none ?_)
 refine JL.done hQ (JQ.go (JC.seq ?_))
 obtain ⟨l9, hl9, hF⟩ := bind_some hF
 obtain ⟨l15, hl15, hF⟩ := bind_some hF
 refine JC.mixed 12 12 (tf 0 12) [(b2, .cells [.slice none 0 0, .int .i64 0, .int .i64 0, .int .i64 0, .int .i64 0, .int .i64 0, .int .i64 0, .slice none 0 0, .slice none 0 0, .slice none 0 0, .slice none 0 0, .int .i64 0].toArray 34), (b1, .cells [r_v0, .int .i64 r.Canopy.Frame.Low, .int .i64 r.Canopy.Frame.High, .int .i64 r.Canopy.Frame.Ease.Num, .int .i64 r.Canopy.Frame.Ease.Den, .int .i64 r.Canopy.Frame.Rod, .int .i64 r.Canopy.Frame.Case, r_v7, r_v8, r_v9, r_v10, .int .i64 r.Wrong].toArray 34)] (by rfl) mo_ (by kernel_rfl) (by kernel_rfl) ?_
 intro hQ hE
 refine JA.cut 4 #[true, true, true, true, true, true, true, false, true, false, false, false] (fun H116 f bs gs => ∃ (v106 : Value) (v99 : Value) (xs100 : List Value), f 2 = .pointer (some ⟨b2, 0, none⟩) ∧ f 3 = .pointer (some ⟨b3, 0, none⟩) ∧ f 12 = v99 ∧ f 13 = v106 ∧ f 15 = r_v10 ∧ f 17 = .pointer (some ⟨b3, 9, none⟩) ∧ bs = [(b3, .cells [y4a_v0, .int .i64 y4.Frame.Low, .int .i64 y4.Frame.High, .int .i64 y4.Frame.Ease.Num, .int .i64 y4.Frame.Ease.Den, .int .i64 y4.Frame.Rod, .int .i64 y4.Frame.Case, y4a_v7, y4a_v8, r_v9, r_v10, .int .i64 r.Wrong].toArray 34), (b2, .cells [.slice none 0 0, .int .i64 0, .int .i64 0, .int .i64 0, .int .i64 0, .int .i64 0, .int .i64 0, .slice none 0 0, .slice none 0 0, .slice none 0 0, .slice none 0 0, .int .i64 0].toArray 34), (b1, .cells [r_v0, .int .i64 r.Canopy.Frame.Low, .int .i64 r.Canopy.Frame.High, .int .i64 r.Canopy.Frame.Ease.Num, .int .i64 r.Canopy.Frame.Ease.Den, .int .i64 r.Canopy.Frame.Rod, .int .i64 r.Canopy.Frame.Case, r_v7, r_v8, r_v9, r_v10, .int .i64 r.Wrong].toArray 34)] ∧ gs = [⟨v106, 73, 2, 0, []⟩, ⟨v99, 62, 3, l9.length, xs100⟩] ∧ CH H116 3 R_Blow xs100 l9 ∧ HSub H5 H116) ?_ ?_
 ·rintro H116 f bs gs ⟨v106, v99, xs100, hf2, hf3, hf12, hf13, hf15, hf17, rfl, rfl, hm117, hs116⟩
  refine (JA.norm (i := 2) hf2 (JA.norm (i := 3) hf3 (JA.norm (i := 12) hf12 (JA.norm (i := 13) hf13 (JA.norm (i := 15) hf15 (JA.norm (i := 17) hf17 ?_))))))
  refine JA.many [7] (by kernel_rfl) (by simp) (all_one ⟨_, (tf 9 3), rfl, (by kernel_rfl), ?_⟩)
  refine JL.appD (R := R_Meter) 0 (l := ([] : List Meter)) (m := r.Meters) ap_32 rfl ⟨rfl, rfl⟩ rfl CH.nil rfl (SL.mono R_Meter_mono (HSub.trans hs5 hs116) hr_10) (R_Meter_one _) hl15 .none rfl ?_
  intro v118 xs119 hch120
  refine JA.after hE hs116 (.cons _ (.cons_cons _ (.cons_cons _ (List.nil_sublist _)))) ?_
  refine JA.many [9] (by kernel_rfl) (by simp) (all_one ⟨_, (tf 10 2), rfl, (by kernel_rfl), ?_⟩)
  refine JL.oneG 1 rfl (fun ho121 => ?_)
  refine JL.storeOwn 0 (cs := [v99]) az_31 rfl ho121.2 rfl (one_cons ho121.1 one_nil) rfl rfl .none ?_
  refine JA.after hE hs116 (.cons _ (.cons_cons _ (.cons_cons _ (List.nil_sublist _)))) ?_
  refine JA.take 10 (listed' := (tf 11 1)) hQ rfl (by kernel_rfl) (by kernel_rfl) (by kernel_rfl) (by kernel_rfl) (by kernel_rfl) hE hs116 (.cons _ (.cons_cons _ (.cons_cons _ (List.nil_sublist _)))) ?_
  refine JL.fieldAddr fo_34_2 rfl .none rfl (JA.cont ?_)
  refine JA.many [11] (by kernel_rfl) (by simp) (all_one ⟨_, (tf 12 0), rfl, (by kernel_rfl), ?_⟩)
  refine JL.oneG 0 rfl (fun ho122 => ?_)
  refine JL.storeOwn 0 (cs := [v118]) az_32 rfl ho122.2 rfl (one_cons ho122.1 one_nil) rfl rfl .none ?_
  refine JA.after hE hs116 (.cons _ (.cons_cons _ (.cons_cons _ (List.nil_sublist _)))) ?_
  refine JA.done hQ (by kernel_rfl) ?_
  refine JQ.go (JC.seq (JC.region (by rfl) ?_))
  intro hQ
  refine JL.loadOwn 0 az_34 rfl rfl rfl .none rfl (JL.oneG 1 rfl (fun ho123 => ?_))
  refine JL.oneG 0 rfl (fun ho124 => ?_)
  refine JL.storeOwn 1 (cs := [y4a_v0, .int .i64 y4.Frame.Low, .int .i64 y4.Frame.High, .int .i64 y4.Frame.Ease.Num, .int .i64 y4.Frame.Ease.Den, .int .i64 y4.Frame.Rod, .int .i64 y4.Frame.Case, y4a_v7, y4a_v8, v99, v118, .int .i64 r.Wrong]) az_34 rfl rfl rfl (one_cons (SL.one (SL.mono R_Section_mono hs116 hy4a_0)) (one_cons rfl (one_cons rfl (one_cons rfl (one_cons rfl (one_cons rfl (one_cons rfl (one_cons (SL.one (SL.mono R_Span_mono hs116 hy4a_7)) (one_cons (SL.one (SL.mono RInt.mono hs116 hy4a_8)) (one_cons ho123.1 (one_cons ho124.1 (one_cons rfl one_nil)))))))))))) rfl rfl .none ?_
  refine JL.done hQ (JQ.go (JC.ret (JQ.freezeG 1 (R := R_Blow) rfl R_Blow_mono hm117 rfl ?_)))
  intro H125 hs125 hg126
  refine JQ.freezeG 0 (R := R_Meter) rfl R_Meter_mono (CH.mono R_Meter_mono hs125 hch120) rfl ?_
  intro H127 hs127 hg128
  obtain rfl := Option.some.inj hF
  exact JQ.outH rfl (.cell 1 az_34 rfl rfl rfl .nil) ⟨y4a_v0, y4a_v7, y4a_v8, v99, v118, rfl, (SL.mono R_Section_mono (HSub.trans hs116 (HSub.trans hs125 hs127)) hy4a_0), (SL.mono R_Span_mono (HSub.trans hs116 (HSub.trans hs125 hs127)) hy4a_7), (SL.mono RInt.mono (HSub.trans hs116 (HSub.trans hs125 hs127)) hy4a_8), (SL.mono R_Blow_mono hs127 hg126), hg128⟩
 intro nd115_0
 refine JA.cut 6 #[true, true, true, false, true, true, true, false, false, false, false, false] (fun H129 f bs gs => ∃ (v102 : Value) (v95 : Value), f 2 = .pointer (some ⟨b2, 0, none⟩) ∧ f 3 = .pointer (some ⟨b3, 0, none⟩) ∧ f 9 = v95 ∧ f 11 = r_v9 ∧ f 13 = v102 ∧ f 15 = r_v10 ∧ bs = [(b3, .cells [y4a_v0, .int .i64 y4.Frame.Low, .int .i64 y4.Frame.High, .int .i64 y4.Frame.Ease.Num, .int .i64 y4.Frame.Ease.Den, .int .i64 y4.Frame.Rod, .int .i64 y4.Frame.Case, y4a_v7, y4a_v8, r_v9, r_v10, .int .i64 r.Wrong].toArray 34), (b2, .cells [.slice none 0 0, .int .i64 0, .int .i64 0, .int .i64 0, .int .i64 0, .int .i64 0, .int .i64 0, .slice none 0 0, .slice none 0 0, .slice none 0 0, .slice none 0 0, .int .i64 0].toArray 34), (b1, .cells [r_v0, .int .i64 r.Canopy.Frame.Low, .int .i64 r.Canopy.Frame.High, .int .i64 r.Canopy.Frame.Ease.Num, .int .i64 r.Canopy.Frame.Ease.Den, .int .i64 r.Canopy.Frame.Rod, .int .i64 r.Canopy.Frame.Case, r_v7, r_v8, r_v9, r_v10, .int .i64 r.Wrong].toArray 34)] ∧ gs = [⟨v102, 73, 2, 0, []⟩, ⟨v95, 62, 3, 0, []⟩] ∧ HSub H5 H129) ?_ ?_
 ·rintro H129 f bs gs ⟨v102, v95, hf2, hf3, hf9, hf11, hf13, hf15, rfl, rfl, hs129⟩
  refine (JA.norm (i := 2) hf2 (JA.norm (i := 3) hf3 (JA.norm (i := 9) hf9 (JA.norm (i := 11) hf11 (JA.norm (i := 13) hf13 (JA.norm (i := 15) hf15 ?_))))))
  refine JA.many [3] (by kernel_rfl) (by simp) (all_one ⟨_, (tf 7 5), rfl, (by kernel_rfl), ?_⟩)
  refine JL.appD (R := R_Blow) 1 (l := ([] : List Blow)) (m := r.Blows) ap_31 rfl ⟨rfl, rfl⟩ rfl CH.nil rfl (SL.mono R_Blow_mono (HSub.trans hs5 hs129) hr_9) (R_Blow_one _) hl9 .none rfl ?_
  intro v130 xs131 hch132
  refine JA.after hE hs129 (.cons _ (.cons_cons _ (.cons_cons _ (List.nil_sublist _)))) ?_
  refine JA.take 8 (listed' := #[true, true, true, true, true, true, true, false, true, false, false, false]) hQ rfl (by kernel_rfl) (by kernel_rfl) (by kernel_rfl) (by kernel_rfl) (by kernel_rfl) hE hs129 (.cons _ (.cons_cons _ (.cons_cons _ (List.nil_sublist _)))) ?_
  refine JL.fieldAddr fo_34_1 rfl .none rfl (JA.cont ?_)
  exact nd115_0 _ _ _ _ ⟨v102, v130, xs131, rfl, rfl, rfl, rfl, rfl, rfl, rfl, rfl, hch132, hs129⟩
 intro nd115_1
 refine JA.tk 1 #[false, true, false, false, false, false, false, false, false, false, false, false] hQ rfl hE (.cons _ (.cons_cons _ (.cons_cons _ (List.nil_sublist _)))) ?_
 refine JL.fieldAddr fo_34_1 rfl .none rfl (JA.cont ?_)
 refine JA.tk 2 #[false, true, true, false, false, false, false, false, false, false, false, false] hQ rfl hE (.cons _ (.cons_cons _ (.cons_cons _ (List.nil_sublist _)))) ?_
 refine JL.loadOwn 1 az_31 rfl rfl rfl .none rfl (JA.cont ?_)
 refine JA.tk 5 #[false, true, true, false, false, true, false, false, false, false, false, false] hQ rfl hE (.cons _ (.cons_cons _ (.cons_cons _ (List.nil_sublist _)))) ?_
 refine JL.fieldAddr fo_34_2 rfl .none rfl (JA.cont ?_)
 refine JA.tk 6 #[false, true, true, false, false, true, true, false, false, false, false, false] hQ rfl hE (.cons _ (.cons_cons _ (.cons_cons _ (List.nil_sublist _)))) ?_
 refine JL.loadOwn 1 az_32 rfl rfl rfl .none rfl (JA.cont ?_)
 refine JA.many [0, 4] (by kernel_rfl) (by simp) (all_cons ⟨_, #[true, true, true, false, false, true, true, false, false, false, false, false], rfl, (by kernel_rfl), ?_⟩ (all_one ⟨_, #[false, true, true, false, true, true, true, false, false, false, false, false], rfl, (by kernel_rfl), ?_⟩))
 ·skip
  refine JL.emptySlice ap_31 .none rfl ?_
  intro v133
  refine JA.after hE (HSub.refl _) (.cons _ (.cons_cons _ (.cons_cons _ (List.nil_sublist _)))) ?_
  refine JA.many [3, 4] (by kernel_rfl) (by simp) (all_cons ⟨_, #[true, true, true, true, false, true, true, false, false, false, false, false], rfl, (by kernel_rfl), ?_⟩ (all_one ⟨_, #[true, true, true, false, true, true, true, false, false, false, false, false], rfl, (by kernel_rfl), ?_⟩))
  ·skip
   refine JL.appD (R := R_Blow) 0 (l := ([] : List Blow)) (m := r.Blows) ap_31 rfl ⟨rfl, rfl⟩ rfl CH.nil rfl (SL.mono R_Blow_mono hs5 hr_9) (R_Blow_one _) hl9 .none rfl ?_
   intro v135 xs136 hch137
   refine JA.after hE (HSub.refl _) (.cons _ (.cons_cons _ (.cons_cons _ (List.nil_sublist _)))) ?_
   refine JA.tk 8 #[true, true, true, true, false, true, true, false, true, false, false, false] hQ rfl hE (.cons _ (.cons_cons _ (.cons_cons _ (List.nil_sublist _)))) ?_
   refine JL.fieldAddr fo_34_1 rfl .none rfl (JA.cont ?_)
   refine JA.many [4] (by kernel_rfl) (by simp) (all_one ⟨_, #[true, true, true, true, true, true, true, false, true, false, false, false], rfl, (by kernel_rfl), ?_⟩)
   refine JL.emptySlice ap_32 .none rfl ?_
   intro v138
   refine JA.after hE (HSub.refl _) (.cons _ (.cons_cons _ (.cons_cons _ (List.nil_sublist _)))) ?_
   exact nd115_0 _ _ _ _ ⟨v138, v135, xs136, rfl, rfl, rfl, rfl, rfl, rfl, rfl, rfl, hch137, (HSub.refl _)⟩
  ·skip
   refine JL.emptySlice ap_32 .none rfl ?_
   intro v140
   refine JA.after hE (HSub.refl _) (.cons _ (.cons_cons _ (.cons_cons _ (List.nil_sublist _)))) ?_
   exact nd115_1 _ _ _ _ ⟨v140, v133, rfl, rfl, rfl, rfl, rfl, rfl, rfl, rfl, (HSub.refl _)⟩
 ·skip
  refine JL.emptySlice ap_32 .none rfl ?_
  intro v142
  refine JA.after hE (HSub.refl _) (.cons _ (.cons_cons _ (.cons_cons _ (List.nil_sublist _)))) ?_
  refine JA.many [0] (by kernel_rfl) (by simp) (all_one ⟨_, #[true, true, true, false, true, true, true, false, false, false, false, false], rfl, (by kernel_rfl), ?_⟩)
  refine JL.emptySlice ap_31 .none rfl ?_
  intro v144
  refine JA.after hE (HSub.refl _) (.cons _ (.cons_cons _ (.cons_cons _ (List.nil_sublist _)))) ?_
  refine JA.permG (swapAt_perm 0 _) ?_
  exact nd115_1 _ _ _ _ ⟨v142, v144, rfl, rfl, rfl, rfl, rfl, rfl, rfl, rfl, (HSub.refl _)⟩
-- 70 ferrule/ferruleref13.cases
def F_ref13_cases_s1 (n : Nat) (rec : Run → List Int → Option (List (List Int))) (r : Run) (first : List Int) (y10 : Blow) : Int × List (List Int) → Option ((Int × List (List Int)) ⊕ (List (List Int)))
 | (n_443, out_444) => if decide (n_443 ≤ y10.Force.High) = true then ((lim (([] : List Int) ++ first)).bind fun l451 => (lim (l451 ++ [n_443])).bind fun l456 => (rec r l456).bind fun y462 => (lim (out_444 ++ y462)).bind fun l464 => some (Sum.inl ((w64 (n_443 + 1)), l464))) else (some (Sum.inr out_444))
def F_ref13_cases : Nat → Run → List Int → Option (List (List Int))
 | 0, _, _ => none
 | n + 1, r, first => (fun rec => if ((first.length : Int) == (r.Blows.length : Int)) = true then (some [first]) else ((geti r.Blows (first.length : Int)).bind fun y10 => (loopO n (F_ref13_cases_s1 n rec r first y10) (y10.Force.Low, ([] : List (List Int)))).bind fun out_300 => some out_300)) (F_ref13_cases n)
theorem c_ref13_cases (n : Nat) : ∀ (H : Hp) (r : Run) (r_v0 : Value) (hr_0 : SL H 7 R_Section r_v0 r.Canopy.Frame.Sections) (r_v7 : Value) (hr_7 : SL H 2 R_Span r_v7 r.Canopy.Ribs) (r_v8 : Value) (hr_8 : SL H 1 RInt r_v8 r.Canopy.Shares) (r_v9 : Value) (hr_9 : SL H 3 R_Blow r_v9 r.Blows) (r_v10 : Value) (hr_10 : SL H 2 R_Meter r_v10 r.Meters) (first : List Int) (first_v0 : Value) (hfirst_0 : SL H 1 RInt first_v0 first) (y : (List (List Int))) (hF : F_ref13_cases n r first = some y), HC Tryz.prog 70 [.agg [r_v0, .int .i64 r.Canopy.Frame.Low, .int .i64 r.Canopy.Frame.High, .int .i64 r.Canopy.Frame.Ease.Num, .int .i64 r.Canopy.Frame.Ease.Den, .int .i64 r.Canopy.Frame.Rod, .int .i64 r.Canopy.Frame.Case, r_v7, r_v8, r_v9, r_v10, .int .i64 r.Wrong].toArray, first_v0] H (fun H' ra_v0 => SL H' 1 (RSl 1 RInt) ra_v0 y) := by
 induction n with
 | zero => intro H r r_v0 hr_0 r_v7 hr_7 r_v8 hr_8 r_v9 hr_9 r_v10 hr_10 first first_v0 hfirst_0 y hF; simp [F_ref13_cases] at hF
 | succ n ih =>
 intro H r r_v0 hr_0 r_v7 hr_7 r_v8 hr_8 r_v9 hr_9 r_v10 hr_10 first first_v0 hfirst_0 y hF
 rw [F_ref13_cases] at hF
 dsimp only at hF
 refine HC.of (N := 42) Tryz.func70 rfl rfl rfl fun w => ?_
 refine JC.seq (JC.region (by rfl) ?_)
 intro hQ
 refine JL.box (cs := [r_v0, .int .i64 r.Canopy.Frame.Low, .int .i64 r.Canopy.Frame.High, .int .i64 r.Canopy.Frame.Ease.Num, .int .i64 r.Canopy.Frame.Ease.Den, .int .i64 r.Canopy.Frame.Rod, .int .i64 r.Canopy.Frame.Case, r_v7, r_v8, r_v9, r_v10, .int .i64 r.Wrong]) rfl .none rfl ?_
 intro b1
 refine JL.assign .none rfl (JL.done hQ (JQ.go (JC.seq (JC.seq (JC.region (by rfl) ?_)))))
 intro hQ
 refine JL.move .none rfl (JL.lenSL (R := RInt) ul_28 hfirst_0 .none rfl ?_)
 refine JL.fieldAddr fo_34_1 rfl .none rfl (JL.loadOwn 0 az_31 rfl rfl rfl .none rfl (JL.lenSL (R := R_Blow) ul_31 hr_9 .none rfl ?_))
 refine JL.bin rfl rfl rfl .none rfl (JL.done hQ (JQ.go ?_))
 rcases ite_some hF with ⟨hc2, hF⟩ | ⟨hc2, hF⟩
 ·refine JC.cond_t (b := ((first.length : Int) == (r.Blows.length : Int))) rfl hc2 ?_
  refine JC.seq (JC.region (by rfl) ?_)
  intro hQ
  refine JL.move .none rfl ?_
  obtain ⟨a3, c4, rfl, hh5⟩ := hfirst_0
  have hfirst_0 : SL H 1 RInt (.slice a3 first.length c4) first := ⟨a3, c4, rfl, hh5⟩
  refine JL.buildSlice (e := 28) (l := [(.slice a3 first.length c4)]) (by kernel_rfl) .none rfl ?_
  intro b6
  refine JL.assign .none rfl (JL.done hQ (JQ.go (JC.ret (JQ.ret_then (JQ.freezeC 0 (l := [(.slice a3 first.length c4)]) rfl ?_)))))
  intro H7 hs7 hc8
  have hg9 : SL H7 1 (RSl 1 RInt) (.slice (some ⟨b6, 0, none⟩) 1 1) [first] := CH.sl (l := [first]) (CH.cons (cs := [(.slice a3 first.length c4)]) rfl ⟨_, rfl, (SL.mono RInt.mono hs7 hfirst_0)⟩ CH.nil) hc8 ⟨by simp, by simp⟩
  obtain rfl := Option.some.inj hF
  exact JQ.outH rfl (.tmp .nil) hg9
 ·refine JC.cond_f (b := ((first.length : Int) == (r.Blows.length : Int))) rfl hc2 ?_
  refine JC.skip (JQ.go (JC.seq (JC.region (by rfl) ?_)))
  intro hQ
  refine JL.assign .none rfl (JL.done hQ (JQ.go (JC.seq (JC.region (by rfl) ?_))))
  intro hQ
  refine JL.fieldAddr fo_34_1 rfl .none rfl (JL.loadOwn 0 az_31 rfl rfl rfl .none rfl (JL.move .none rfl (JL.lenSL (R := RInt) ul_28 hfirst_0 .none rfl ?_)))
  obtain ⟨y10, hy10, hF⟩ := bind_some hF
  refine JL.indexSL (R := R_Blow) sl_31 hr_9 rfl hy10 .none rfl ?_
  rintro b11 o12 cs13 hc14 - rfl
  refine JL.fieldAddr fo_62_1 rfl .none rfl (JL.loadH 1 az_42 rfl hc14 rfl .none rfl ?_)
  refine JL.alloc ze_42 .none rfl ?_
  intro b15
  refine JL.storeOwn 0 (cs := [.int .i64 y10.Force.Low, .int .i64 y10.Force.High]) az_42 rfl rfl rfl (one_cons rfl (one_cons rfl one_nil)) rfl rfl .none ?_
  refine JL.done hQ (JQ.go (JC.fresh (fun f => f 1 = first_v0 ∧ f 2 = .pointer (some ⟨b1, 0, none⟩) ∧ f 4 = .slice none 0 0 ∧ f 5 = .slice none 0 0 ∧ f 6 = .pointer (some ⟨b15, 0, none⟩)) ⟨rfl, rfl, rfl, rfl, rfl⟩ ?_))
  rintro f ⟨hf1, hf2, hf4, hf5, hf6⟩
  refine (JC.norm (i := 1) hf1 (JC.norm (i := 2) hf2 (JC.norm (i := 4) hf4 (JC.norm (i := 5) hf5 (JC.norm (i := 6) hf6 ?_)))))
  refine JC.seq (JC.seq (JC.region (by rfl) ?_))
  intro hQ
  refine JL.fieldAddr fo_42_0 rfl .none rfl (JL.loadOwn 0 az_3 rfl rfl rfl .none rfl (JL.assign .none rfl (JL.done hQ (JQ.go (JC.newNil (e := 28) (sz := 1) ?_)))))
  obtain ⟨r302, hlr302, hKr302⟩ := bind_some hF
  refine JC.join (fun (out_300 : List (List Int)) H301 f bs gs => ∃ (vout_300 : Value) (xsout_300 : List Value), f 5 = vout_300 ∧ bs = [] ∧ gs = [⟨vout_300, 28, 1, out_300.length, xsout_300⟩] ∧ CH H301 1 (RSl 1 RInt) xsout_300 out_300 ∧ HSub H H301 ∧ out_300 = r302) ?_ ?_
  ·skip
   refine JC.block (JC.loop hlr302 (fun (x : Int × List (List Int)) H445 f bs gs => match x with | (n_443, out_444) => ∃ (vout_444 : Value) (xsout_444 : List Value), f 1 = first_v0 ∧ f 2 = .pointer (some ⟨b1, 0, none⟩) ∧ f 5 = vout_444 ∧ f 6 = .pointer (some ⟨b15, 0, none⟩) ∧ f 7 = .int .i64 n_443 ∧ bs = [(b15, .cells [.int .i64 y10.Force.Low, .int .i64 y10.Force.High].toArray 42), (b1, .cells [r_v0, .int .i64 r.Canopy.Frame.Low, .int .i64 r.Canopy.Frame.High, .int .i64 r.Canopy.Frame.Ease.Num, .int .i64 r.Canopy.Frame.Ease.Den, .int .i64 r.Canopy.Frame.Rod, .int .i64 r.Canopy.Frame.Case, r_v7, r_v8, r_v9, r_v10, .int .i64 r.Wrong].toArray 34)] ∧ gs = [⟨vout_444, 28, 1, out_444.length, xsout_444⟩] ∧ CH H445 1 (RSl 1 RInt) xsout_444 out_444 ∧ HSub H H445) ⟨(.slice none 0 0), [], rfl, rfl, rfl, rfl, rfl, rfl, rfl, CH.nil, (HSub.refl _)⟩ ?_)
   rintro ⟨n_443, out_444⟩ x447 H445 f bs gs ⟨vout_444, xsout_444, hf1, hf2, hf5, hf6, hf7, rfl, rfl, hout_444, hs445⟩ hF hr446
   rw [F_ref13_cases_s1] at hF
   refine (JC.norm (i := 1) hf1 (JC.norm (i := 2) hf2 (JC.norm (i := 5) hf5 (JC.norm (i := 6) hf6 (JC.norm (i := 7) hf7 ?_)))))
   refine JC.seq (JC.seq (JC.region (by rfl) ?_))
   intro hQ
   refine JL.move .none rfl (JL.fieldAddr fo_42_1 rfl .none rfl (JL.loadOwn 0 az_3 rfl rfl rfl .none rfl (JL.bin rfl rfl rfl .none rfl (JL.done hQ (JQ.go ?_)))))
   rcases ite_some hF with ⟨hc448, hF⟩ | ⟨hc448, hF⟩
   ·refine JC.cond_t (b := decide (n_443 ≤ y10.Force.High)) rfl hc448 ?_
    refine JC.skip (JQ.go (JC.seq (JC.block ?_)))
    obtain ⟨l451, hl451, hF⟩ := bind_some hF
    obtain ⟨l456, hl456, hF⟩ := bind_some hF
    obtain ⟨y462, hy462, hF⟩ := bind_some hF
    obtain ⟨l464, hl464, hF⟩ := bind_some hF
    refine JC.mixed 11 11 (tf 0 11) [(b15, .cells [.int .i64 y10.Force.Low, .int .i64 y10.Force.High].toArray 42), (b1, .cells [r_v0, .int .i64 r.Canopy.Frame.Low, .int .i64 r.Canopy.Frame.High, .int .i64 r.Canopy.Frame.Ease.Num, .int .i64 r.Canopy.Frame.Ease.Den, .int .i64 r.Canopy.Frame.Rod, .int .i64 r.Canopy.Frame.Case, r_v7, r_v8, r_v9, r_v10, .int .i64 r.Wrong].toArray 34)] (by rfl) mo_ (by kernel_rfl) (by kernel_rfl) ?_
    intro hQ hE
    refine JA.cut 4 (tf 7 4) (fun H490 f bs gs => ∃ (b477 : Nat) (v471 : Value) (xs472 : List Value), f 1 = first_v0 ∧ f 2 = .pointer (some ⟨b1, 0, none⟩) ∧ f 5 = vout_444 ∧ f 6 = .pointer (some ⟨b15, 0, none⟩) ∧ f 7 = .int .i64 n_443 ∧ f 31 = vout_444 ∧ f 32 = .agg [r_v0, .int .i64 r.Canopy.Frame.Low, .int .i64 r.Canopy.Frame.High, .int .i64 r.Canopy.Frame.Ease.Num, .int .i64 r.Canopy.Frame.Ease.Den, .int .i64 r.Canopy.Frame.Rod, .int .i64 r.Canopy.Frame.Case, r_v7, r_v8, r_v9, r_v10, .int .i64 r.Wrong].toArray ∧ f 35 = v471 ∧ f 37 = .slice (some ⟨b477, 0, none⟩) 1 1 ∧ bs = [(b477, .cells [.int .i64 n_443].toArray 3), (b15, .cells [.int .i64 y10.Force.Low, .int .i64 y10.Force.High].toArray 42), (b1, .cells [r_v0, .int .i64 r.Canopy.Frame.Low, .int .i64 r.Canopy.Frame.High, .int .i64 r.Canopy.Frame.Ease.Num, .int .i64 r.Canopy.Frame.Ease.Den, .int .i64 r.Canopy.Frame.Rod, .int .i64 r.Canopy.Frame.Case, r_v7, r_v8, r_v9, r_v10, .int .i64 r.Wrong].toArray 34)] ∧ gs = [⟨v471, 3, 1, l451.length, xs472⟩, ⟨vout_444, 28, 1, out_444.length, xsout_444⟩] ∧ CH H490 1 RInt xs472 l451 ∧ HSub H445 H490) ?_ ?_
    ·rintro H490 f bs gs ⟨b477, v471, xs472, hf1, hf2, hf5, hf6, hf7, hf31, hf32, hf35, hf37, rfl, rfl, hm491, hs490⟩
     refine (JA.norm (i := 1) hf1 (JA.norm (i := 2) hf2 (JA.norm (i := 5) hf5 (JA.norm (i := 6) hf6 (JA.norm (i := 7) hf7 (JA.norm (i := 31) hf31 (JA.norm (i := 32) hf32 (JA.norm (i := 35) hf35 (JA.norm (i := 37) hf37 ?_)))))))))
     refine JA.many [7] (by kernel_rfl) (by simp) (all_one ⟨_, (tf 8 3), rfl, (by kernel_rfl), ?_⟩)
     refine JL.appO (R := RInt) 0 0 (l := l451) (m := [n_443]) ap_28 rfl ⟨rfl, rfl⟩ rfl hm491 rfl rfl rfl (CH.cons (cs := [.int .i64 n_443]) rfl rfl CH.nil) rfl (one_cons rfl one_nil) hl456 .none rfl ?_
     intro v492 xs493 hch494
     refine JA.after hE hs490 (.cons _ (.cons_cons _ (.cons_cons _ (List.nil_sublist _)))) ?_
     refine JA.many [8] (by kernel_rfl) (by simp) (all_one ⟨_, (tf 9 2), rfl, (by kernel_rfl), ?_⟩)
     refine JL.freezeG 0 (R := RInt) rfl RInt.mono hch494 rfl ?_
     intro H495 hs495 hg496
     refine JL.callH (ih H495 r r_v0 (SL.mono R_Section_mono (HSub.trans hs445 (HSub.trans hs490 hs495)) hr_0) r_v7 (SL.mono R_Span_mono (HSub.trans hs445 (HSub.trans hs490 hs495)) hr_7) r_v8 (SL.mono RInt.mono (HSub.trans hs445 (HSub.trans hs490 hs495)) hr_8) r_v9 (SL.mono R_Blow_mono (HSub.trans hs445 (HSub.trans hs490 hs495)) hr_9) r_v10 (SL.mono R_Meter_mono (HSub.trans hs445 (HSub.trans hs490 hs495)) hr_10) l456 v492 hg496 y462 hy462) rfl en_70 .none rfl ?_
     intro H497 y462a_v0 hs497 hy462a_0
     refine JA.after hE (HSub.trans hs490 (HSub.trans hs495 hs497)) (.cons _ (.cons_cons _ (.cons_cons _ (List.nil_sublist _)))) ?_
     refine JA.many [9] (by kernel_rfl) (by simp) (all_one ⟨_, (tf 10 1), rfl, (by kernel_rfl), ?_⟩)
     refine JL.appD (R := (RSl 1 RInt)) 0 (l := out_444) (m := y462) ap_84 rfl ⟨rfl, rfl⟩ rfl (CH.mono (RSl.mono RInt.mono) (HSub.trans hs490 (HSub.trans hs495 hs497)) hout_444) rfl hy462a_0 (RSl.one _) hl464 .none rfl ?_
     intro v498 xs499 hch500
     refine JA.after hE (HSub.trans hs490 (HSub.trans hs495 hs497)) (.cons _ (.cons_cons _ (.cons_cons _ (List.nil_sublist _)))) ?_
     refine JA.take 10 (listed' := (tf 11 0)) hQ rfl (by kernel_rfl) (by kernel_rfl) (by kernel_rfl) (by kernel_rfl) (by kernel_rfl) hE (HSub.trans hs490 (HSub.trans hs495 hs497)) (.cons _ (.cons_cons _ (.cons_cons _ (List.nil_sublist _)))) ?_
     refine JL.assign .none rfl (JA.cont ?_)
     refine JA.done hQ (by kernel_rfl) ?_
     refine JQ.normal_block (JQ.go (JC.region (by rfl) ?_))
     intro hQ
     refine JL.move .none rfl (JL.bin rfl rfl rfl .none rfl (JL.assign .none rfl (JL.done hQ ?_)))
     obtain rfl := Option.some.inj hF
     refine JQ.mask [false, true, true] [true] ?_
     exact JQ.next rfl ⟨v498, xs499, rfl, rfl, rfl, rfl, rfl, rfl, rfl, hch500, (HSub.trans hs445 (HSub.trans hs490 (HSub.trans hs495 hs497)))⟩
    intro nd489_0
    refine JA.cut 5 #[true, true, true, true, false, true, true, false, false, false, false] (fun H501 f bs gs => ∃ (b474 : Nat) (v468 : Value), f 1 = first_v0 ∧ f 2 = .pointer (some ⟨b1, 0, none⟩) ∧ f 5 = vout_444 ∧ f 6 = .pointer (some ⟨b15, 0, none⟩) ∧ f 7 = .int .i64 n_443 ∧ f 31 = vout_444 ∧ f 32 = .agg [r_v0, .int .i64 r.Canopy.Frame.Low, .int .i64 r.Canopy.Frame.High, .int .i64 r.Canopy.Frame.Ease.Num, .int .i64 r.Canopy.Frame.Ease.Den, .int .i64 r.Canopy.Frame.Rod, .int .i64 r.Canopy.Frame.Case, r_v7, r_v8, r_v9, r_v10, .int .i64 r.Wrong].toArray ∧ f 33 = v468 ∧ f 34 = first_v0 ∧ f 37 = .slice (some ⟨b474, 0, none⟩) 1 1 ∧ bs = [(b474, .cells [.int .i64 n_443].toArray 3), (b15, .cells [.int .i64 y10.Force.Low, .int .i64 y10.Force.High].toArray 42), (b1, .cells [r_v0, .int .i64 r.Canopy.Frame.Low, .int .i64 r.Canopy.Frame.High, .int .i64 r.Canopy.Frame.Ease.Num, .int .i64 r.Canopy.Frame.Ease.Den, .int .i64 r.Canopy.Frame.Rod, .int .i64 r.Canopy.Frame.Case, r_v7, r_v8, r_v9, r_v10, .int .i64 r.Wrong].toArray 34)] ∧ gs = [⟨v468, 3, 1, 0, []⟩, ⟨vout_444, 28, 1, out_444.length, xsout_444⟩] ∧ HSub H445 H501) ?_ ?_
    ·rintro H501 f bs gs ⟨b474, v468, hf1, hf2, hf5, hf6, hf7, hf31, hf32, hf33, hf34, hf37, rfl, rfl, hs501⟩
     refine (JA.norm (i := 1) hf1 (JA.norm (i := 2) hf2 (JA.norm (i := 5) hf5 (JA.norm (i := 6) hf6 (JA.norm (i := 7) hf7 (JA.norm (i := 31) hf31 (JA.norm (i := 32) hf32 (JA.norm (i := 33) hf33 (JA.norm (i := 34) hf34 (JA.norm (i := 37) hf37 ?_))))))))))
     refine JA.many [4] (by kernel_rfl) (by simp) (all_one ⟨_, (tf 7 4), rfl, (by kernel_rfl), ?_⟩)
     refine JL.appD (R := RInt) 0 (l := ([] : List Int)) (m := first) ap_28 rfl ⟨rfl, rfl⟩ rfl CH.nil rfl (SL.mono RInt.mono (HSub.trans hs445 hs501) hfirst_0) (RInt.one _) hl451 .none rfl ?_
     intro v502 xs503 hch504
     refine JA.after hE hs501 (.cons _ (.cons_cons _ (.cons_cons _ (List.nil_sublist _)))) ?_
     exact nd489_0 _ _ _ _ ⟨b474, v502, xs503, rfl, rfl, rfl, rfl, rfl, rfl, rfl, rfl, rfl, rfl, rfl, hch504, hs501⟩
    intro nd489_1
    refine JA.tk 0 (tf 1 10) hQ rfl hE (.cons_cons _ (.cons_cons _ (List.nil_sublist _))) ?_
    refine JL.move .none rfl (JA.cont ?_)
    refine JA.tk 1 (tf 2 9) hQ rfl hE (.cons_cons _ (.cons_cons _ (List.nil_sublist _))) ?_
    refine JL.loadOwn 1 az_34 rfl rfl rfl .none rfl (JA.cont ?_)
    refine JA.tk 3 #[true, true, false, true, false, false, false, false, false, false, false] hQ rfl hE (.cons_cons _ (.cons_cons _ (List.nil_sublist _))) ?_
    refine JL.move .none rfl (JA.cont ?_)
    refine JA.tk 5 #[true, true, false, true, false, true, false, false, false, false, false] hQ rfl hE (.cons_cons _ (.cons_cons _ (List.nil_sublist _))) ?_
    refine JL.move .none rfl (JA.cont ?_)
    refine JA.many [2, 6] (by kernel_rfl) (by simp) (all_cons ⟨_, #[true, true, true, true, false, true, false, false, false, false, false], rfl, (by kernel_rfl), ?_⟩ (all_one ⟨_, #[true, true, false, true, false, true, true, false, false, false, false], rfl, (by kernel_rfl), ?_⟩))
    ·skip
     refine JL.emptySlice ap_28 .none rfl ?_
     intro v505
     refine JA.after hE (HSub.refl _) (.cons_cons _ (.cons_cons _ (List.nil_sublist _))) ?_
     refine JA.many [4, 6] (by kernel_rfl) (by simp) (all_cons ⟨_, (tf 6 5), rfl, (by kernel_rfl), ?_⟩ (all_one ⟨_, #[true, true, true, true, false, true, true, false, false, false, false], rfl, (by kernel_rfl), ?_⟩))
     ·skip
      refine JL.appD (R := RInt) 0 (l := ([] : List Int)) (m := first) ap_28 rfl ⟨rfl, rfl⟩ rfl CH.nil rfl (SL.mono RInt.mono hs445 hfirst_0) (RInt.one _) hl451 .none rfl ?_
      intro v507 xs508 hch509
      refine JA.after hE (HSub.refl _) (.cons_cons _ (.cons_cons _ (List.nil_sublist _))) ?_
      refine JA.many [6] (by kernel_rfl) (by simp) (all_one ⟨_, (tf 7 4), rfl, (by kernel_rfl), ?_⟩)
      refine JL.buildSlice (e := 3) (l := [.int .i64 n_443]) (by kernel_rfl) .none rfl ?_
      intro b510
      refine JA.after hE (HSub.refl _) (.cons _ (.cons_cons _ (.cons_cons _ (List.nil_sublist _)))) ?_
      exact nd489_0 _ _ _ _ ⟨b510, v507, xs508, rfl, rfl, rfl, rfl, rfl, rfl, rfl, rfl, rfl, rfl, rfl, hch509, (HSub.refl _)⟩
     ·skip
      refine JL.buildSlice (e := 3) (l := [.int .i64 n_443]) (by kernel_rfl) .none rfl ?_
      intro b511
      refine JA.after hE (HSub.refl _) (.cons _ (.cons_cons _ (.cons_cons _ (List.nil_sublist _)))) ?_
      exact nd489_1 _ _ _ _ ⟨b511, v505, rfl, rfl, rfl, rfl, rfl, rfl, rfl, rfl, rfl, rfl, rfl, rfl, (HSub.refl _)⟩
    ·skip
     refine JL.buildSlice (e := 3) (l := [.int .i64 n_443]) (by kernel_rfl) .none rfl ?_
     intro b512
     refine JA.after hE (HSub.refl _) (.cons _ (.cons_cons _ (.cons_cons _ (List.nil_sublist _)))) ?_
     refine JA.many [2] (by kernel_rfl) (by simp) (all_one ⟨_, #[true, true, true, true, false, true, true, false, false, false, false], rfl, (by kernel_rfl), ?_⟩)
     refine JL.emptySlice ap_28 .none rfl ?_
     intro v513
     refine JA.after hE (HSub.refl _) (.cons _ (.cons_cons _ (.cons_cons _ (List.nil_sublist _)))) ?_
     exact nd489_1 _ _ _ _ ⟨b512, v513, rfl, rfl, rfl, rfl, rfl, rfl, rfl, rfl, rfl, rfl, rfl, rfl, (HSub.refl _)⟩
   ·refine JC.cond_f (b := decide (n_443 ≤ y10.Force.High)) rfl hc448 ?_
    refine JC.exit (JQ.exit_then (JQ.exit_then (JQ.exit_block ?_)))
    obtain rfl := Option.some.inj hF
    have ehr446 := hr446 _ rfl
    subst ehr446
    refine JQ.mask [false, false] [true] ?_
    exact JQ.join out_444 ⟨vout_444, xsout_444, rfl, rfl, rfl, hout_444, hs445, rfl⟩
  ·rintro out_300 H301 f bs gs ⟨vout_300, xsout_300, hf5, rfl, rfl, hout_300, hs301, rfl⟩
   have hF := hKr302
   try dsimp only at hF
   refine (JQ.norm (i := 5) hf5 ?_)
   refine JQ.go (JC.seq (JC.region (by rfl) ?_))
   intro hQ
   refine JL.move .none rfl (JL.assign .none rfl (JL.done hQ (JQ.go (JC.ret (JQ.freezeG 0 (R := (RSl 1 RInt)) rfl (RSl.mono RInt.mono) hout_300 rfl ?_)))))
   intro H515 hs515 hg516
   obtain rfl := Option.some.inj hF
   exact JQ.outH rfl (.tmp .nil) hg516
-- 21 ferrule/ferruleref13.Above
def F_ref13_Above_s1 (n : Nat) (forces : List Int) (limit : Int) : Int × Int → Option ((Int × Int) ⊕ Int)
 | (n_76, i_77) => if decide (i_77 < (forces.length : Int)) = true then ((geti forces i_77).bind fun y82 => (if decide (limit ≤ y82) = true then (some (w64 (n_76 + 1))) else (some n_76)).bind fun n_88 => some (Sum.inl (n_88, (w64 (i_77 + 1))))) else (some (Sum.inr n_76))
def F_ref13_Above (n : Nat) (forces : List Int) (limit : Int) : Option Int :=
 (loopO n (F_ref13_Above_s1 n forces limit) (0, 0)).bind fun n_45 => some n_45
theorem c_ref13_Above (n : Nat) (H : Hp) (forces : List Int) (forces_v0 : Value) (hforces_0 : SL H 1 RInt forces_v0 forces) (limit : Int) (y : Int) (hF : F_ref13_Above n forces limit = some y) : SC Tryz.prog 21 [forces_v0, .int .i64 limit] (.int .i64 y) H := by
 rw [F_ref13_Above] at hF
 refine SC.of (N := 22) Tryz.func21 rfl rfl rfl fun w => ?_
 refine JC.seq (JC.region (by rfl) ?_)
 intro hQ
 refine JL.assign .none rfl (JL.done hQ (JQ.go (JC.seq (JC.region (by rfl) ?_))))
 intro hQ
 refine JL.assign .none rfl (JL.done hQ (JQ.go (JC.seq (JC.seq (JC.region (by rfl) ?_)))))
 intro hQ
 refine JL.assign .none rfl (JL.done hQ (JQ.go ?_))
 obtain ⟨r47, hlr47, hKr47⟩ := bind_some hF
 refine JC.join (fun (n_45 : Int) H46 f bs gs => f 5 = .int .i64 n_45 ∧ bs = [] ∧ gs = [] ∧ HSub H H46 ∧ n_45 = r47) ?_ ?_
 ·skip
  refine JC.block (JC.loop hlr47 (fun (x : Int × Int) H78 f bs gs => match x with | (n_76, i_77) => f 0 = forces_v0 ∧ f 1 = .int .i64 limit ∧ f 5 = .int .i64 n_76 ∧ f 6 = .int .i64 i_77 ∧ bs = [] ∧ gs = [] ∧ HSub H H78) ⟨rfl, rfl, rfl, rfl, rfl, rfl, (HSub.refl _)⟩ ?_)
  rintro ⟨n_76, i_77⟩ x80 H78 f bs gs ⟨hf0, hf1, hf5, hf6, rfl, rfl, hs78⟩ hF hr79
  rw [F_ref13_Above_s1] at hF
  refine (JC.norm (i := 0) hf0 (JC.norm (i := 1) hf1 (JC.norm (i := 5) hf5 (JC.norm (i := 6) hf6 ?_))))
  refine JC.seq (JC.seq (JC.region (by rfl) ?_))
  intro hQ
  refine JL.move .none rfl (JL.move .none rfl (JL.lenSL (R := RInt) ul_28 (SL.mono RInt.mono hs78 hforces_0) .none rfl ?_))
  refine JL.bin rfl rfl rfl .none rfl (JL.done hQ (JQ.go ?_))
  rcases ite_some hF with ⟨hc81, hF⟩ | ⟨hc81, hF⟩
  ·refine JC.cond_t (b := decide (i_77 < (forces.length : Int))) rfl hc81 ?_
   refine JC.skip (JQ.go (JC.seq (JC.block (JC.seq (JC.region (by rfl) ?_)))))
   intro hQ
   refine JL.move .none rfl (JL.move .none rfl ?_)
   obtain ⟨y82, hy82, hF⟩ := bind_some hF
   refine JL.indexSL (R := RInt) sl_28 (SL.mono RInt.mono hs78 hforces_0) rfl hy82 .none rfl ?_
   rintro b83 o84 cs85 hc86 - rfl
   refine JL.loadH 0 az_3 rfl hc86 rfl .none rfl ?_
   refine JL.move .none rfl (JL.bin rfl rfl rfl .none rfl (JL.done hQ (JQ.go (JC.fresh (fun f => f 0 = forces_v0 ∧ f 1 = .int .i64 limit ∧ f 5 = .int .i64 n_76 ∧ f 6 = .int .i64 i_77 ∧ f 18 = .bool (decide (limit ≤ y82))) ⟨rfl, rfl, rfl, rfl, rfl⟩ ?_))))
   rintro f ⟨hf0, hf1, hf5, hf6, hf18⟩
   refine (JC.norm (i := 0) hf0 (JC.norm (i := 1) hf1 (JC.norm (i := 5) hf5 (JC.norm (i := 6) hf6 (JC.norm (i := 18) hf18 ?_)))))
   obtain ⟨r90, hlr90, hKr90⟩ := bind_some hF
   refine JC.join (fun (n_88 : Int) H89 f bs gs => f 0 = forces_v0 ∧ f 1 = .int .i64 limit ∧ f 5 = .int .i64 n_88 ∧ f 6 = .int .i64 i_77 ∧ bs = [] ∧ gs = [] ∧ HSub H78 H89 ∧ n_88 = r90) ?_ ?_
   ·have hF := hlr90
    rcases ite_some hF with ⟨hc91, hF⟩ | ⟨hc91, hF⟩
    ·refine JC.cond_t (b := decide (limit ≤ y82)) rfl hc91 ?_
     refine JC.region (by rfl) ?_
     intro hQ
     refine JL.move .none rfl (JL.bin rfl rfl rfl .none rfl (JL.assign .none rfl (JL.done hQ ?_)))
     obtain rfl := Option.some.inj hF
     exact JQ.join (w64 (n_76 + 1)) ⟨rfl, rfl, rfl, rfl, rfl, rfl, (HSub.refl _), rfl⟩
    ·refine JC.cond_f (b := decide (limit ≤ y82)) rfl hc91 ?_
     refine JC.skip ?_
     obtain rfl := Option.some.inj hF
     exact JQ.join n_76 ⟨rfl, rfl, rfl, rfl, rfl, rfl, (HSub.refl _), rfl⟩
   ·rintro n_88 H89 f bs gs ⟨hf0, hf1, hf5, hf6, rfl, rfl, hs89, rfl⟩
    have hF := hKr90
    try dsimp only at hF
    refine (JQ.norm (i := 0) hf0 (JQ.norm (i := 1) hf1 (JQ.norm (i := 5) hf5 (JQ.norm (i := 6) hf6 ?_))))
    refine JQ.normal_block (JQ.go (JC.region (by rfl) ?_))
    intro hQ
    refine JL.move .none rfl (JL.bin rfl rfl rfl .none rfl (JL.assign .none rfl (JL.done hQ ?_)))
    obtain rfl := Option.some.inj hF
    exact JQ.next rfl ⟨rfl, rfl, rfl, rfl, rfl, rfl, (HSub.trans hs78 hs89)⟩
  ·refine JC.cond_f (b := decide (i_77 < (forces.length : Int))) rfl hc81 ?_
   refine JC.exit (JQ.exit_then (JQ.exit_then (JQ.exit_block ?_)))
   obtain rfl := Option.some.inj hF
   have ehr79 := hr79 _ rfl
   subst ehr79
   exact JQ.join n_76 ⟨rfl, rfl, rfl, hs78, rfl⟩
 ·rintro n_45 H46 f bs gs ⟨hf5, rfl, rfl, hs46, rfl⟩
  have hF := hKr47
  try dsimp only at hF
  refine (JQ.norm (i := 5) hf5 ?_)
  refine JQ.go (JC.seq (JC.region (by rfl) ?_))
  intro hQ
  refine JL.move .none rfl (JL.assign .none rfl (JL.done hQ (JQ.go (JC.ret ?_))))
  obtain rfl := Option.some.inj hF
  exact JQ.outS rfl (.tmp .nil) rfl
-- 26 ferrule/ferruleref13.IsRight
def F_ref13_IsRight (n : Nat) (m : Meter) (forces : List Int) : Option Bool :=
 (F_ref13_Above n forces m.Limit).bind fun y3 => some (y3 == m.Count)
theorem c_ref13_IsRight (n : Nat) (H : Hp) (m : Meter) (forces : List Int) (forces_v0 : Value) (hforces_0 : SL H 1 RInt forces_v0 forces) (y : Bool) (hF : F_ref13_IsRight n m forces = some y) : SC Tryz.prog 26 [.agg [.int .i64 m.Limit, .int .i64 m.Count].toArray, forces_v0] (.bool y) H := by
 rw [F_ref13_IsRight] at hF
 refine SC.of (N := 12) Tryz.func26 rfl rfl rfl fun w => ?_
 refine JC.seq (JC.region (by rfl) ?_)
 intro hQ
 refine JL.box (cs := [.int .i64 m.Limit, .int .i64 m.Count]) rfl .none rfl ?_
 intro b1
 refine JL.assign .none rfl (JL.done hQ (JQ.go (JC.seq (JC.draw (by rfl) mo_ (by kernel_rfl) ?_))))
 intro hQ
 refine JL.move .none rfl (JL.fieldAddr fo_73_0 rfl .none rfl (JL.loadOwn 0 az_3 rfl rfl rfl .none rfl ?_))
 obtain ⟨y3, hy3, hF⟩ := bind_some hF
 refine JL.callS (c_ref13_Above n H forces forces_v0 hforces_0 m.Limit y3 hy3) rfl en_21 .none rfl ?_
 refine JL.fieldAddr fo_73_1 rfl .none rfl (JL.loadOwn 0 az_3 rfl rfl rfl .none rfl (JL.bin rfl rfl rfl .none rfl (JL.assign .none rfl (JL.doneQ hQ ?_))))
 refine JQ.go (JC.ret ?_)
 obtain rfl := Option.some.inj hF
 exact JQ.outS rfl (.tmp .nil) rfl
end Go.Proofs.YtcipdblhopffbaaGreat
end
section
set_option maxRecDepth 100000
set_option maxHeartbeats 40000000
namespace Go.Proofs.YtcipdblhopffbaaGreat
open Go Go.RowKit Go.Dec
set_option linter.unusedVariables false
-- 51 ferrule/ferruleref13.Wrongs
def F_ref13_Wrongs_s1 (n : Nat) (r : Run) (forces : List Int) : Int × Int → Option ((Int × Int) ⊕ Int)
 | (n_82, i_83) => if decide (i_83 < (r.Meters.length : Int)) = true then ((geti r.Meters i_83).bind fun y88 => (F_ref13_IsRight n y88 forces).bind fun y93 => (if (!y93) = true then (some (w64 (n_82 + 1))) else (some n_82)).bind fun n_95 => some (Sum.inl (n_95, (w64 (i_83 + 1))))) else (some (Sum.inr n_82))
def F_ref13_Wrongs (n : Nat) (r : Run) (forces : List Int) : Option Int :=
 (loopO n (F_ref13_Wrongs_s1 n r forces) (0, 0)).bind fun n_49 => some n_49
theorem c_ref13_Wrongs (n : Nat) (H : Hp) (r : Run) (r_v0 : Value) (hr_0 : SL H 7 R_Section r_v0 r.Canopy.Frame.Sections) (r_v7 : Value) (hr_7 : SL H 2 R_Span r_v7 r.Canopy.Ribs) (r_v8 : Value) (hr_8 : SL H 1 RInt r_v8 r.Canopy.Shares) (r_v9 : Value) (hr_9 : SL H 3 R_Blow r_v9 r.Blows) (r_v10 : Value) (hr_10 : SL H 2 R_Meter r_v10 r.Meters) (forces : List Int) (forces_v0 : Value) (hforces_0 : SL H 1 RInt forces_v0 forces) (y : Int) (hF : F_ref13_Wrongs n r forces = some y) : SC Tryz.prog 51 [.agg [r_v0, .int .i64 r.Canopy.Frame.Low, .int .i64 r.Canopy.Frame.High, .int .i64 r.Canopy.Frame.Ease.Num, .int .i64 r.Canopy.Frame.Ease.Den, .int .i64 r.Canopy.Frame.Rod, .int .i64 r.Canopy.Frame.Case, r_v7, r_v8, r_v9, r_v10, .int .i64 r.Wrong].toArray, forces_v0] (.int .i64 y) H := by
 rw [F_ref13_Wrongs] at hF
 refine SC.of (N := 25) Tryz.func51 rfl rfl rfl fun w => ?_
 refine JC.seq (JC.region (by rfl) ?_)
 intro hQ
 refine JL.box (cs := [r_v0, .int .i64 r.Canopy.Frame.Low, .int .i64 r.Canopy.Frame.High, .int .i64 r.Canopy.Frame.Ease.Num, .int .i64 r.Canopy.Frame.Ease.Den, .int .i64 r.Canopy.Frame.Rod, .int .i64 r.Canopy.Frame.Case, r_v7, r_v8, r_v9, r_v10, .int .i64 r.Wrong]) rfl .none rfl ?_
 intro b1
 refine JL.assign .none rfl (JL.done hQ (JQ.go (JC.seq (JC.region (by rfl) ?_))))
 intro hQ
 refine JL.assign .none rfl (JL.done hQ (JQ.go (JC.seq (JC.seq (JC.region (by rfl) ?_)))))
 intro hQ
 refine JL.assign .none rfl (JL.done hQ (JQ.go ?_))
 obtain ⟨r51, hlr51, hKr51⟩ := bind_some hF
 refine JC.join (fun (n_49 : Int) H50 f bs gs => f 5 = .int .i64 n_49 ∧ bs = [] ∧ gs = [] ∧ HSub H H50 ∧ n_49 = r51) ?_ ?_
 ·skip
  refine JC.block (JC.loop hlr51 (fun (x : Int × Int) H84 f bs gs => match x with | (n_82, i_83) => f 1 = forces_v0 ∧ f 2 = .pointer (some ⟨b1, 0, none⟩) ∧ f 5 = .int .i64 n_82 ∧ f 6 = .int .i64 i_83 ∧ bs = [(b1, .cells [r_v0, .int .i64 r.Canopy.Frame.Low, .int .i64 r.Canopy.Frame.High, .int .i64 r.Canopy.Frame.Ease.Num, .int .i64 r.Canopy.Frame.Ease.Den, .int .i64 r.Canopy.Frame.Rod, .int .i64 r.Canopy.Frame.Case, r_v7, r_v8, r_v9, r_v10, .int .i64 r.Wrong].toArray 34)] ∧ gs = [] ∧ HSub H H84) ⟨rfl, rfl, rfl, rfl, rfl, rfl, (HSub.refl _)⟩ ?_)
  rintro ⟨n_82, i_83⟩ x86 H84 f bs gs ⟨hf1, hf2, hf5, hf6, rfl, rfl, hs84⟩ hF hr85
  rw [F_ref13_Wrongs_s1] at hF
  refine (JC.norm (i := 1) hf1 (JC.norm (i := 2) hf2 (JC.norm (i := 5) hf5 (JC.norm (i := 6) hf6 ?_))))
  refine JC.seq (JC.seq (JC.region (by rfl) ?_))
  intro hQ
  refine JL.move .none rfl (JL.fieldAddr fo_34_2 rfl .none rfl (JL.loadOwn 0 az_32 rfl rfl rfl .none rfl (JL.lenSL (R := R_Meter) ul_32 (SL.mono R_Meter_mono hs84 hr_10) .none rfl ?_)))
  refine JL.bin rfl rfl rfl .none rfl (JL.done hQ (JQ.go ?_))
  rcases ite_some hF with ⟨hc87, hF⟩ | ⟨hc87, hF⟩
  ·refine JC.cond_t (b := decide (i_83 < (r.Meters.length : Int))) rfl hc87 ?_
   refine JC.skip (JQ.go (JC.seq (JC.block (JC.seq (JC.region (by rfl) ?_)))))
   intro hQ
   refine JL.fieldAddr fo_34_2 rfl .none rfl (JL.loadOwn 0 az_32 rfl rfl rfl .none rfl (JL.move .none rfl ?_))
   obtain ⟨y88, hy88, hF⟩ := bind_some hF
   refine JL.indexSL (R := R_Meter) sl_32 (SL.mono R_Meter_mono hs84 hr_10) rfl hy88 .none rfl ?_
   rintro b89 o90 cs91 hc92 - rfl
   refine JL.loadH 0 az_73 rfl hc92 rfl .none rfl ?_
   refine JL.move .none rfl ?_
   obtain ⟨y93, hy93, hF⟩ := bind_some hF
   refine JL.callS (c_ref13_IsRight n H84 y88 forces forces_v0 (SL.mono RInt.mono hs84 hforces_0) y93 hy93) rfl en_26 .none rfl ?_
   refine JL.not rfl .none rfl (JL.done hQ (JQ.go (JC.fresh (fun f => f 1 = forces_v0 ∧ f 2 = .pointer (some ⟨b1, 0, none⟩) ∧ f 5 = .int .i64 n_82 ∧ f 6 = .int .i64 i_83 ∧ f 21 = .bool (!y93)) ⟨rfl, rfl, rfl, rfl, rfl⟩ ?_)))
   rintro f ⟨hf1, hf2, hf5, hf6, hf21⟩
   refine (JC.norm (i := 1) hf1 (JC.norm (i := 2) hf2 (JC.norm (i := 5) hf5 (JC.norm (i := 6) hf6 (JC.norm (i := 21) hf21 ?_)))))
   obtain ⟨r97, hlr97, hKr97⟩ := bind_some hF
   refine JC.join (fun (n_95 : Int) H96 f bs gs => f 1 = forces_v0 ∧ f 2 = .pointer (some ⟨b1, 0, none⟩) ∧ f 5 = .int .i64 n_95 ∧ f 6 = .int .i64 i_83 ∧ bs = [(b1, .cells [r_v0, .int .i64 r.Canopy.Frame.Low, .int .i64 r.Canopy.Frame.High, .int .i64 r.Canopy.Frame.Ease.Num, .int .i64 r.Canopy.Frame.Ease.Den, .int .i64 r.Canopy.Frame.Rod, .int .i64 r.Canopy.Frame.Case, r_v7, r_v8, r_v9, r_v10, .int .i64 r.Wrong].toArray 34)] ∧ gs = [] ∧ HSub H84 H96 ∧ n_95 = r97) ?_ ?_
   ·have hF := hlr97
    rcases ite_some hF with ⟨hc98, hF⟩ | ⟨hc98, hF⟩
    ·refine JC.cond_t (b := (!y93)) rfl hc98 ?_
     refine JC.region (by rfl) ?_
     intro hQ
     refine JL.move .none rfl (JL.bin rfl rfl rfl .none rfl (JL.assign .none rfl (JL.done hQ ?_)))
     obtain rfl := Option.some.inj hF
     exact JQ.join (w64 (n_82 + 1)) ⟨rfl, rfl, rfl, rfl, rfl, rfl, (HSub.refl _), rfl⟩
    ·refine JC.cond_f (b := (!y93)) rfl hc98 ?_
     refine JC.skip ?_
     obtain rfl := Option.some.inj hF
     exact JQ.join n_82 ⟨rfl, rfl, rfl, rfl, rfl, rfl, (HSub.refl _), rfl⟩
   ·rintro n_95 H96 f bs gs ⟨hf1, hf2, hf5, hf6, rfl, rfl, hs96, rfl⟩
    have hF := hKr97
    try dsimp only at hF
    refine (JQ.norm (i := 1) hf1 (JQ.norm (i := 2) hf2 (JQ.norm (i := 5) hf5 (JQ.norm (i := 6) hf6 ?_))))
    refine JQ.normal_block (JQ.go (JC.region (by rfl) ?_))
    intro hQ
    refine JL.move .none rfl (JL.bin rfl rfl rfl .none rfl (JL.assign .none rfl (JL.done hQ ?_)))
    obtain rfl := Option.some.inj hF
    exact JQ.next rfl ⟨rfl, rfl, rfl, rfl, rfl, rfl, (HSub.trans hs84 hs96)⟩
  ·refine JC.cond_f (b := decide (i_83 < (r.Meters.length : Int))) rfl hc87 ?_
   refine JC.exit (JQ.exit_then (JQ.exit_then (JQ.exit_block ?_)))
   obtain rfl := Option.some.inj hF
   have ehr85 := hr85 _ rfl
   subst ehr85
   refine JQ.mask [false] [] ?_
   exact JQ.join n_82 ⟨rfl, rfl, rfl, hs84, rfl⟩
 ·rintro n_49 H50 f bs gs ⟨hf5, rfl, rfl, hs50, rfl⟩
  have hF := hKr51
  try dsimp only at hF
  refine (JQ.norm (i := 5) hf5 ?_)
  refine JQ.go (JC.seq (JC.region (by rfl) ?_))
  intro hQ
  refine JL.move .none rfl (JL.assign .none rfl (JL.done hQ (JQ.go (JC.ret ?_))))
  obtain rfl := Option.some.inj hF
  exact JQ.outS rfl (.tmp .nil) rfl
-- 76 ferrule/ferruleref13.truths
def F_ref13_truths_s1 (n : Nat) (r : Run) (y2 : (List (List Int))) : Int × List (List Int) → Option ((Int × List (List Int)) ⊕ (List (List Int)))
 | (i_306, out_307) => if decide (i_306 < (y2.length : Int)) = true then ((geti y2 i_306).bind fun y318 => (F_ref13_Wrongs n r y318).bind fun y323 => (if decide (y323 ≤ r.Wrong) = true then ((geti y2 i_306).bind fun y342 => (lim (out_307 ++ [y342])).bind fun l351 => some l351) else (some out_307)).bind fun out_338 => some (Sum.inl ((w64 (i_306 + 1)), out_338))) else (some (Sum.inr out_307))
def F_ref13_truths (n : Nat) (r : Run) : Option (List (List Int)) :=
 (F_ref13_cases n r ([] : List Int)).bind fun y2 => (loopO n (F_ref13_truths_s1 n r y2) (0, ([] : List (List Int)))).bind fun out_209 => some out_209
theorem c_ref13_truths (n : Nat) (H : Hp) (r : Run) (r_v0 : Value) (hr_0 : SL H 7 R_Section r_v0 r.Canopy.Frame.Sections) (r_v7 : Value) (hr_7 : SL H 2 R_Span r_v7 r.Canopy.Ribs) (r_v8 : Value) (hr_8 : SL H 1 RInt r_v8 r.Canopy.Shares) (r_v9 : Value) (hr_9 : SL H 3 R_Blow r_v9 r.Blows) (r_v10 : Value) (hr_10 : SL H 2 R_Meter r_v10 r.Meters) (y : (List (List Int))) (hF : F_ref13_truths n r = some y) : HC Tryz.prog 76 [.agg [r_v0, .int .i64 r.Canopy.Frame.Low, .int .i64 r.Canopy.Frame.High, .int .i64 r.Canopy.Frame.Ease.Num, .int .i64 r.Canopy.Frame.Ease.Den, .int .i64 r.Canopy.Frame.Rod, .int .i64 r.Canopy.Frame.Case, r_v7, r_v8, r_v9, r_v10, .int .i64 r.Wrong].toArray] H (fun H' ra_v0 => SL H' 1 (RSl 1 RInt) ra_v0 y) := by
 rw [F_ref13_truths] at hF
 refine HC.of (N := 31) Tryz.func76 rfl rfl rfl fun w => ?_
 refine JC.seq (JC.region (by rfl) ?_)
 intro hQ
 refine JL.box (cs := [r_v0, .int .i64 r.Canopy.Frame.Low, .int .i64 r.Canopy.Frame.High, .int .i64 r.Canopy.Frame.Ease.Num, .int .i64 r.Canopy.Frame.Ease.Den, .int .i64 r.Canopy.Frame.Rod, .int .i64 r.Canopy.Frame.Case, r_v7, r_v8, r_v9, r_v10, .int .i64 r.Wrong]) rfl .none rfl ?_
 intro b1
 refine JL.assign .none rfl (JL.done hQ (JQ.go (JC.seq (JC.region (by rfl) ?_))))
 intro hQ
 refine JL.assign .none rfl (JL.done hQ (JQ.go (JC.seq (JC.region (by rfl) ?_))))
 intro hQ
 refine JL.loadOwn 0 az_34 rfl rfl rfl .none rfl ?_
 obtain ⟨y2, hy2, hF⟩ := bind_some hF
 refine JL.callH (c_ref13_cases n H r r_v0 hr_0 r_v7 hr_7 r_v8 hr_8 r_v9 hr_9 r_v10 hr_10 ([] : List Int) (.slice none 0 0) SL.nil y2 hy2) rfl en_70 .none rfl ?_
 intro H3 y2a_v0 hs3 hy2a_0
 refine JL.assign .none rfl (JL.done hQ (JQ.go (JC.seq (JC.seq (JC.region (by rfl) ?_)))))
 intro hQ
 refine JL.assign .none rfl (JL.done hQ (JQ.go (JC.newNil (e := 28) (sz := 1) ?_)))
 obtain ⟨r211, hlr211, hKr211⟩ := bind_some hF
 refine JC.join (fun (out_209 : List (List Int)) H210 f bs gs => ∃ (vout_209 : Value) (xsout_209 : List Value), f 3 = vout_209 ∧ bs = [] ∧ gs = [⟨vout_209, 28, 1, out_209.length, xsout_209⟩] ∧ CH H210 1 (RSl 1 RInt) xsout_209 out_209 ∧ HSub H3 H210 ∧ out_209 = r211) ?_ ?_
 ·skip
  refine JC.block (JC.loop hlr211 (fun (x : Int × List (List Int)) H308 f bs gs => match x with | (i_306, out_307) => ∃ (vout_307 : Value) (xsout_307 : List Value), f 1 = .pointer (some ⟨b1, 0, none⟩) ∧ f 3 = vout_307 ∧ f 4 = y2a_v0 ∧ f 5 = .int .i64 i_306 ∧ bs = [(b1, .cells [r_v0, .int .i64 r.Canopy.Frame.Low, .int .i64 r.Canopy.Frame.High, .int .i64 r.Canopy.Frame.Ease.Num, .int .i64 r.Canopy.Frame.Ease.Den, .int .i64 r.Canopy.Frame.Rod, .int .i64 r.Canopy.Frame.Case, r_v7, r_v8, r_v9, r_v10, .int .i64 r.Wrong].toArray 34)] ∧ gs = [⟨vout_307, 28, 1, out_307.length, xsout_307⟩] ∧ CH H308 1 (RSl 1 RInt) xsout_307 out_307 ∧ HSub H3 H308) ⟨(.slice none 0 0), [], rfl, rfl, rfl, rfl, rfl, rfl, CH.nil, (HSub.refl _)⟩ ?_)
  rintro ⟨i_306, out_307⟩ x310 H308 f bs gs ⟨vout_307, xsout_307, hf1, hf3, hf4, hf5, rfl, rfl, hout_307, hs308⟩ hF hr309
  rw [F_ref13_truths_s1] at hF
  refine (JC.norm (i := 1) hf1 (JC.norm (i := 3) hf3 (JC.norm (i := 4) hf4 (JC.norm (i := 5) hf5 ?_))))
  refine JC.seq (JC.seq (JC.region (by rfl) ?_))
  intro hQ
  refine JL.move .none rfl (JL.move .none rfl (JL.lenSL (R := (RSl 1 RInt)) ul_84 (SL.mono (RSl.mono RInt.mono) hs308 hy2a_0) .none rfl ?_))
  refine JL.bin rfl rfl rfl .none rfl (JL.done hQ (JQ.go ?_))
  rcases ite_some hF with ⟨hc311, hF⟩ | ⟨hc311, hF⟩
  ·refine JC.cond_t (b := decide (i_306 < (y2.length : Int))) rfl hc311 ?_
   refine JC.skip (JQ.go (JC.seq (JC.block (JC.seq (JC.draw (by rfl) mo_ (by kernel_rfl) ?_)))))
   intro hQ
   refine JL.loadOwn 0 az_34 rfl rfl rfl .none rfl (JL.move .none rfl (JL.move .none rfl ?_))
   obtain ⟨y318, hy318, hF⟩ := bind_some hF
   refine JL.indexSL (R := (RSl 1 RInt)) sl_84 (SL.mono (RSl.mono RInt.mono) hs308 hy2a_0) rfl hy318 .none rfl ?_
   rintro b319 o320 cs321 hc322 - ⟨y318_v0, rfl, hy318_0⟩
   refine JL.loadH 0 az_28 rfl hc322 rfl .none rfl ?_
   obtain ⟨y323, hy323, hF⟩ := bind_some hF
   refine JL.callS (c_ref13_Wrongs n H308 r r_v0 (SL.mono R_Section_mono (HSub.trans hs3 hs308) hr_0) r_v7 (SL.mono R_Span_mono (HSub.trans hs3 hs308) hr_7) r_v8 (SL.mono RInt.mono (HSub.trans hs3 hs308) hr_8) r_v9 (SL.mono R_Blow_mono (HSub.trans hs3 hs308) hr_9) r_v10 (SL.mono R_Meter_mono (HSub.trans hs3 hs308) hr_10) y318 y318_v0 hy318_0 y323 hy323) rfl en_51 .none rfl ?_
   refine JL.fieldAddr fo_34_3 rfl .none rfl (JL.loadOwn 0 az_3 rfl rfl rfl .none rfl (JL.bin rfl rfl rfl .none rfl (JL.doneQ hQ ?_)))
   refine JQ.go (JC.fresh (fun f => f 1 = .pointer (some ⟨b1, 0, none⟩) ∧ f 3 = vout_307 ∧ f 4 = y2a_v0 ∧ f 5 = .int .i64 i_306 ∧ f 22 = .bool (decide (y323 ≤ r.Wrong))) ⟨rfl, rfl, rfl, rfl, rfl⟩ ?_)
   rintro f ⟨hf1, hf3, hf4, hf5, hf22⟩
   refine (JC.norm (i := 1) hf1 (JC.norm (i := 3) hf3 (JC.norm (i := 4) hf4 (JC.norm (i := 5) hf5 (JC.norm (i := 22) hf22 ?_)))))
   obtain ⟨r340, hlr340, hKr340⟩ := bind_some hF
   refine JC.join (fun (out_338 : List (List Int)) H339 f bs gs => ∃ (vout_338 : Value) (xsout_338 : List Value), f 1 = .pointer (some ⟨b1, 0, none⟩) ∧ f 3 = vout_338 ∧ f 4 = y2a_v0 ∧ f 5 = .int .i64 i_306 ∧ bs = [(b1, .cells [r_v0, .int .i64 r.Canopy.Frame.Low, .int .i64 r.Canopy.Frame.High, .int .i64 r.Canopy.Frame.Ease.Num, .int .i64 r.Canopy.Frame.Ease.Den, .int .i64 r.Canopy.Frame.Rod, .int .i64 r.Canopy.Frame.Case, r_v7, r_v8, r_v9, r_v10, .int .i64 r.Wrong].toArray 34)] ∧ gs = [⟨vout_338, 28, 1, out_338.length, xsout_338⟩] ∧ CH H339 1 (RSl 1 RInt) xsout_338 out_338 ∧ HSub H308 H339 ∧ out_338 = r340) ?_ ?_
   ·have hF := hlr340
    rcases ite_some hF with ⟨hc341, hF⟩ | ⟨hc341, hF⟩
    ·refine JC.cond_t (b := decide (y323 ≤ r.Wrong)) rfl hc341 ?_
     refine JC.region (by rfl) ?_
     intro hQ
     refine JL.move .none rfl (JL.move .none rfl (JL.move .none rfl ?_))
     obtain ⟨y342, hy342, hF⟩ := bind_some hF
     refine JL.indexSL (R := (RSl 1 RInt)) sl_84 (SL.mono (RSl.mono RInt.mono) hs308 hy2a_0) rfl hy342 .none rfl ?_
     rintro b343 o344 cs345 hc346 - ⟨y342_v0, rfl, hy342_0⟩
     refine JL.loadH 0 az_28 rfl hc346 rfl .none rfl ?_
     obtain ⟨a347, c348, rfl, hh349⟩ := hy342_0
     have hy342_0 : SL H308 1 RInt (.slice a347 y342.length c348) y342 := ⟨a347, c348, rfl, hh349⟩
     refine JL.buildSlice (e := 28) (l := [(.slice a347 y342.length c348)]) (by kernel_rfl) .none rfl ?_
     intro b350
     obtain ⟨l351, hl351, hF⟩ := bind_some hF
     refine JL.appO (R := (RSl 1 RInt)) 0 0 (l := out_307) (m := [y342]) ap_84 rfl ⟨rfl, rfl⟩ rfl hout_307 rfl rfl rfl (CH.cons (cs := [(.slice a347 y342.length c348)]) rfl ⟨_, rfl, hy342_0⟩ CH.nil) rfl (one_cons (SL.one hy342_0) one_nil) hl351 .none rfl ?_
     intro v352 xs353 hch354
     refine JL.assign .none rfl (JL.done hQ ?_)
     obtain rfl := Option.some.inj hF
     refine JQ.mask [false, true] [true] ?_
     exact JQ.join l351 ⟨v352, xs353, rfl, rfl, rfl, rfl, rfl, rfl, hch354, (HSub.refl _), rfl⟩
    ·refine JC.cond_f (b := decide (y323 ≤ r.Wrong)) rfl hc341 ?_
     refine JC.skip ?_
     obtain rfl := Option.some.inj hF
     exact JQ.join out_307 ⟨vout_307, xsout_307, rfl, rfl, rfl, rfl, rfl, rfl, hout_307, (HSub.refl _), rfl⟩
   ·rintro out_338 H339 f bs gs ⟨vout_338, xsout_338, hf1, hf3, hf4, hf5, rfl, rfl, hout_338, hs339, rfl⟩
    have hF := hKr340
    try dsimp only at hF
    refine (JQ.norm (i := 1) hf1 (JQ.norm (i := 3) hf3 (JQ.norm (i := 4) hf4 (JQ.norm (i := 5) hf5 ?_))))
    refine JQ.normal_block (JQ.go (JC.region (by rfl) ?_))
    intro hQ
    refine JL.move .none rfl (JL.bin rfl rfl rfl .none rfl (JL.assign .none rfl (JL.done hQ ?_)))
    obtain rfl := Option.some.inj hF
    exact JQ.next rfl ⟨vout_338, xsout_338, rfl, rfl, rfl, rfl, rfl, rfl, hout_338, (HSub.trans hs308 hs339)⟩
  ·refine JC.cond_f (b := decide (i_306 < (y2.length : Int))) rfl hc311 ?_
   refine JC.exit (JQ.exit_then (JQ.exit_then (JQ.exit_block ?_)))
   obtain rfl := Option.some.inj hF
   have ehr309 := hr309 _ rfl
   subst ehr309
   refine JQ.mask [false] [true] ?_
   exact JQ.join out_307 ⟨vout_307, xsout_307, rfl, rfl, rfl, hout_307, hs308, rfl⟩
 ·rintro out_209 H210 f bs gs ⟨vout_209, xsout_209, hf3, rfl, rfl, hout_209, hs210, rfl⟩
  have hF := hKr211
  try dsimp only at hF
  refine (JQ.norm (i := 3) hf3 ?_)
  refine JQ.go (JC.seq (JC.region (by rfl) ?_))
  intro hQ
  refine JL.move .none rfl (JL.assign .none rfl (JL.done hQ (JQ.go (JC.ret (JQ.freezeG 0 (R := (RSl 1 RInt)) rfl (RSl.mono RInt.mono) hout_209 rfl ?_)))))
  intro H355 hs355 hg356
  obtain rfl := Option.some.inj hF
  exact JQ.outH rfl (.tmp .nil) hg356
-- 43 ferrule/ferruleref13.known
def F_ref13_known (n : Nat) (r : Run) (is : Bool) : Option ((List (List Int)) × Int) :=
 (F_ref13_Check n r).bind fun y2 => if (y2 != 0) = true then (some (([] : List (List Int)), y2)) else (if (!is) = true then (some (([] : List (List Int)), 1)) else ((F_ref13_truths n r).bind fun y5 => if ((y5.length : Int) == 0) = true then (some (([] : List (List Int)), 3)) else (some (y5, 0))))
theorem c_ref13_known (n : Nat) (H : Hp) (r : Run) (r_v0 : Value) (hr_0 : SL H 7 R_Section r_v0 r.Canopy.Frame.Sections) (r_v7 : Value) (hr_7 : SL H 2 R_Span r_v7 r.Canopy.Ribs) (r_v8 : Value) (hr_8 : SL H 1 RInt r_v8 r.Canopy.Shares) (r_v9 : Value) (hr_9 : SL H 3 R_Blow r_v9 r.Blows) (r_v10 : Value) (hr_10 : SL H 2 R_Meter r_v10 r.Meters) (is : Bool) (y : (List (List Int)) × Int) (hF : F_ref13_known n r is = some y) : HC Tryz.prog 43 [.agg [r_v0, .int .i64 r.Canopy.Frame.Low, .int .i64 r.Canopy.Frame.High, .int .i64 r.Canopy.Frame.Ease.Num, .int .i64 r.Canopy.Frame.Ease.Den, .int .i64 r.Canopy.Frame.Rod, .int .i64 r.Canopy.Frame.Case, r_v7, r_v8, r_v9, r_v10, .int .i64 r.Wrong].toArray, .bool is] H (fun H' v => ∃ ra_v0 : Value, v = .tuple [ra_v0, .int .i64 y.2].toArray ∧ SL H' 1 (RSl 1 RInt) ra_v0 y.1) := by
 rw [F_ref13_known] at hF
 refine HC.of (N := 21) Tryz.func43 rfl rfl rfl fun w => ?_
 refine JC.seq (JC.region (by rfl) ?_)
 intro hQ
 refine JL.box (cs := [r_v0, .int .i64 r.Canopy.Frame.Low, .int .i64 r.Canopy.Frame.High, .int .i64 r.Canopy.Frame.Ease.Num, .int .i64 r.Canopy.Frame.Ease.Den, .int .i64 r.Canopy.Frame.Rod, .int .i64 r.Canopy.Frame.Case, r_v7, r_v8, r_v9, r_v10, .int .i64 r.Wrong]) rfl .none rfl ?_
 intro b1
 refine JL.assign .none rfl (JL.assign .none rfl (JL.done hQ (JQ.go (JC.seq (JC.seq (JC.region (by rfl) ?_))))))
 intro hQ
 refine JL.loadOwn 0 az_34 rfl rfl rfl .none rfl ?_
 obtain ⟨y2, hy2, hF⟩ := bind_some hF
 refine JL.callS (c_ref13_Check n H r r_v0 hr_0 r_v7 hr_7 r_v8 hr_8 r_v9 hr_9 r_v10 hr_10 y2 hy2) rfl en_28 .none rfl ?_
 refine JL.assign .none rfl (JL.done hQ (JQ.go (JC.seq (JC.region (by rfl) ?_))))
 intro hQ
 refine JL.move .none rfl (JL.bin rfl rfl rfl .none rfl (JL.done hQ (JQ.go ?_)))
 rcases ite_some hF with ⟨hc3, hF⟩ | ⟨hc3, hF⟩
 ·refine JC.cond_t (b := (y2 != 0)) rfl hc3 ?_
  refine JC.seq (JC.region (by rfl) ?_)
  intro hQ
  refine JL.move .none rfl (JL.assign .none rfl (JL.assign .none rfl (JL.done hQ (JQ.go (JC.ret (JQ.ret_then ?_))))))
  obtain rfl := Option.some.inj hF
  exact JQ.outH rfl (.tmp (.tmp .nil)) ⟨(.slice none 0 0), rfl, SL.nil⟩
 ·refine JC.cond_f (b := (y2 != 0)) rfl hc3 ?_
  refine JC.skip (JQ.go (JC.seq (JC.seq (JC.region (by rfl) ?_))))
  intro hQ
  refine JL.move .none rfl (JL.not rfl .none rfl (JL.done hQ (JQ.go ?_)))
  rcases ite_some hF with ⟨hc4, hF⟩ | ⟨hc4, hF⟩
  ·refine JC.cond_t (b := (!is)) rfl hc4 ?_
   refine JC.seq (JC.region (by rfl) ?_)
   intro hQ
   refine JL.assign .none rfl (JL.assign .none rfl (JL.done hQ (JQ.go (JC.ret (JQ.ret_then ?_)))))
   obtain rfl := Option.some.inj hF
   exact JQ.outH rfl (.tmp (.tmp .nil)) ⟨(.slice none 0 0), rfl, SL.nil⟩
  ·refine JC.cond_f (b := (!is)) rfl hc4 ?_
   refine JC.skip (JQ.go (JC.seq (JC.region (by rfl) ?_)))
   intro hQ
   refine JL.loadOwn 0 az_34 rfl rfl rfl .none rfl ?_
   obtain ⟨y5, hy5, hF⟩ := bind_some hF
   refine JL.callH (c_ref13_truths n H r r_v0 hr_0 r_v7 hr_7 r_v8 hr_8 r_v9 hr_9 r_v10 hr_10 y5 hy5) rfl en_76 .none rfl ?_
   intro H6 y5a_v0 hs6 hy5a_0
   refine JL.assign .none rfl (JL.done hQ (JQ.go (JC.fresh (fun f => f 4 = .slice none 0 0 ∧ f 5 = .int .i64 0 ∧ f 7 = y5a_v0) ⟨rfl, rfl, rfl⟩ ?_)))
   rintro f ⟨hf4, hf5, hf7⟩
   refine (JC.norm (i := 4) hf4 (JC.norm (i := 5) hf5 (JC.norm (i := 7) hf7 ?_)))
   refine JC.seq (JC.seq (JC.region (by rfl) ?_))
   intro hQ
   refine JL.move .none rfl (JL.lenSL (R := (RSl 1 RInt)) ul_84 hy5a_0 .none rfl ?_)
   refine JL.bin rfl rfl rfl .none rfl (JL.done hQ (JQ.go ?_))
   rcases ite_some hF with ⟨hc7, hF⟩ | ⟨hc7, hF⟩
   ·refine JC.cond_t (b := ((y5.length : Int) == 0)) rfl hc7 ?_
    refine JC.seq (JC.region (by rfl) ?_)
    intro hQ
    refine JL.assign .none rfl (JL.assign .none rfl (JL.done hQ (JQ.go (JC.ret (JQ.ret_then ?_)))))
    obtain rfl := Option.some.inj hF
    exact JQ.outH rfl (.tmp (.tmp .nil)) ⟨(.slice none 0 0), rfl, SL.nil⟩
   ·refine JC.cond_f (b := ((y5.length : Int) == 0)) rfl hc7 ?_
    refine JC.skip (JQ.go (JC.seq (JC.region (by rfl) ?_)))
    intro hQ
    refine JL.move .none rfl (JL.assign .none rfl (JL.assign .none rfl (JL.done hQ (JQ.go (JC.ret ?_)))))
    obtain rfl := Option.some.inj hF
    exact JQ.outH rfl (.tmp (.tmp .nil)) ⟨y5a_v0, rfl, hy5a_0⟩
-- 114 ferrule/ferruleref05.IsClass
def F_ref05_IsClass_s1 (n : Nat) (d : Canopy) (class_ : List Gust) : Int → Option (Int ⊕ (Bool ⊕ Unit))
 | i_236 => if decide (i_236 < (class_.length : Int)) = true then ((geti class_ i_236).bind fun y262 => (F_ref05_within n y262.Force 0 99).bind fun y267 => (if (!y267) = true then (some true) else ((geti class_ i_236).bind fun y277 => (F_ref05_IsRib n d y277.At).bind fun y282 => some (!y282)) : Option Bool).bind fun p274 => if p274 = true then (some (Sum.inr (Sum.inl false))) else (some (Sum.inl (w64 (i_236 + 1))))) else (some (Sum.inr (Sum.inr ())))
def F_ref05_IsClass (n : Nat) (d : Canopy) (class_ : List Gust) : Option Bool :=
 (loopO n (F_ref05_IsClass_s1 n d class_) 0).bind fun r143 => match r143 with | .inl o => some o | .inr _ => some (decide ((class_.length : Int) ≤ 20))
theorem c_ref05_IsClass (n : Nat) (H : Hp) (d : Canopy) (d_v0 : Value) (hd_0 : SL H 7 R_Section d_v0 d.Frame.Sections) (d_v7 : Value) (hd_7 : SL H 2 R_Span d_v7 d.Ribs) (d_v8 : Value) (hd_8 : SL H 1 RInt d_v8 d.Shares) (class_ : List Gust) (class__v0 : Value) (hclass__0 : SL H 2 R_Gust class__v0 class_) (y : Bool) (hF : F_ref05_IsClass n d class_ = some y) : SC Tryz.prog 114 [.agg [d_v0, .int .i64 d.Frame.Low, .int .i64 d.Frame.High, .int .i64 d.Frame.Ease.Num, .int .i64 d.Frame.Ease.Den, .int .i64 d.Frame.Rod, .int .i64 d.Frame.Case, d_v7, d_v8].toArray, class__v0] (.bool y) H := by
 rw [F_ref05_IsClass] at hF
 refine SC.of (N := 32) Tryz.func114 rfl rfl rfl fun w => ?_
 refine JC.seq (JC.region (by rfl) ?_)
 intro hQ
 refine JL.box (cs := [d_v0, .int .i64 d.Frame.Low, .int .i64 d.Frame.High, .int .i64 d.Frame.Ease.Num, .int .i64 d.Frame.Ease.Den, .int .i64 d.Frame.Rod, .int .i64 d.Frame.Case, d_v7, d_v8]) rfl .none rfl ?_
 intro b1
 refine JL.assign .none rfl (JL.done hQ (JQ.go (JC.seq (JC.seq (JC.region (by rfl) ?_)))))
 intro hQ
 refine JL.assign .none rfl (JL.done hQ (JQ.go ?_))
 obtain ⟨r143, hlr143, hKr143⟩ := bind_some hF
 refine JC.join (fun (_ : Unit) H142 f bs gs => f 1 = class__v0 ∧ bs = [] ∧ gs = [] ∧ HSub H H142 ∧ Sum.inr () = r143) ?_ ?_
 ·skip
  refine JC.block (JC.loop hlr143 (fun (i_236 : Int) H237 f bs gs => f 1 = class__v0 ∧ f 2 = .pointer (some ⟨b1, 0, none⟩) ∧ f 5 = .int .i64 i_236 ∧ bs = [(b1, .cells [d_v0, .int .i64 d.Frame.Low, .int .i64 d.Frame.High, .int .i64 d.Frame.Ease.Num, .int .i64 d.Frame.Ease.Den, .int .i64 d.Frame.Rod, .int .i64 d.Frame.Case, d_v7, d_v8].toArray 30)] ∧ gs = [] ∧ HSub H H237) ⟨rfl, rfl, rfl, rfl, rfl, (HSub.refl _)⟩ ?_)
  rintro i_236 x239 H237 f bs gs ⟨hf1, hf2, hf5, rfl, rfl, hs237⟩ hF hr238
  rw [F_ref05_IsClass_s1] at hF
  refine (JC.norm (i := 1) hf1 (JC.norm (i := 2) hf2 (JC.norm (i := 5) hf5 ?_)))
  refine JC.seq (JC.seq (JC.region (by rfl) ?_))
  intro hQ
  refine JL.move .none rfl (JL.move .none rfl (JL.lenSL (R := R_Gust) ul_65 (SL.mono R_Gust_mono hs237 hclass__0) .none rfl ?_))
  refine JL.bin rfl rfl rfl .none rfl (JL.done hQ (JQ.go ?_))
  rcases ite_some hF with ⟨hc240, hF⟩ | ⟨hc240, hF⟩
  ·refine JC.cond_t (b := decide (i_236 < (class_.length : Int))) rfl hc240 ?_
   refine JC.skip (JQ.go (JC.seq (JC.block (JC.seq (JC.draw (by rfl) mo_ (by kernel_rfl) ?_)))))
   intro hQ
   refine JL.move .none rfl (JL.move .none rfl ?_)
   obtain ⟨y262, hy262, hF⟩ := bind_some hF
   refine JL.indexSL (R := R_Gust) sl_65 (SL.mono R_Gust_mono hs237 hclass__0) rfl hy262 .none rfl ?_
   rintro b263 o264 cs265 hc266 - rfl
   refine JL.fieldAddr fo_64_0 rfl .none rfl (JL.loadH 0 az_3 rfl hc266 rfl .none rfl ?_)
   obtain ⟨y267, hy267, hF⟩ := bind_some hF
   refine JL.callS (c_ref05_within n H237 y262.Force 0 99 y267 hy267) rfl en_52 .none rfl ?_
   refine JL.not rfl .none rfl (JL.move .none rfl ?_)
   obtain ⟨p274, hp274, hF⟩ := bind_some hF
   refine JL.cut 9 (fun f => f 1 = class__v0 ∧ f 2 = .pointer (some ⟨b1, 0, none⟩) ∧ f 5 = .int .i64 i_236 ∧ f 28 = .bool p274) ?_ ?_
   ·intro hJ275
    rcases ite_some hp274 with ⟨hc276, hF⟩ | ⟨hc276, hF⟩
    ·skip
     refine JL.skip (.bool rfl rfl rfl hc276) rfl (JL.skip (.bool rfl rfl rfl hc276) rfl (JL.skip (.bool rfl rfl rfl hc276) rfl (JL.skip (.bool rfl rfl rfl hc276) rfl (JL.skip (.bool rfl rfl rfl hc276) rfl (JL.skip (.bool rfl rfl rfl hc276) rfl (JL.skip (.bool rfl rfl rfl hc276) rfl (JL.skip (.bool rfl rfl rfl hc276) rfl (JL.pick_t (b := (!y267)) rfl hc276 .none rfl ?_))))))))
     obtain rfl := Option.some.inj hF
     exact hJ275 _ ⟨rfl, rfl, rfl, rfl⟩
    ·skip
     refine JL.loadOwn 0 az_30 rfl rfl rfl (.some rfl rfl rfl hc276) rfl (JL.move (.some rfl rfl rfl hc276) rfl (JL.move (.some rfl rfl rfl hc276) rfl ?_))
     obtain ⟨y277, hy277, hF⟩ := bind_some hF
     refine JL.indexSL (R := R_Gust) sl_65 (SL.mono R_Gust_mono hs237 hclass__0) rfl hy277 (.some rfl rfl rfl hc276) rfl ?_
     rintro b278 o279 cs280 hc281 - rfl
     refine JL.fieldAddr fo_64_1 rfl (.some rfl rfl rfl hc276) rfl (JL.loadH 1 az_3 rfl hc281 rfl (.some rfl rfl rfl hc276) rfl ?_)
     obtain ⟨y282, hy282, hF⟩ := bind_some hF
     refine JL.callS (c_ref05_IsRib n H237 d d_v0 (SL.mono R_Section_mono hs237 hd_0) d_v7 (SL.mono R_Span_mono hs237 hd_7) d_v8 (SL.mono RInt.mono hs237 hd_8) y277.At y282 hy282) rfl en_67 (.some rfl rfl rfl hc276) rfl ?_
     refine JL.not rfl (.some rfl rfl rfl hc276) rfl (JL.pick_f (b := (!y267)) rfl hc276 .none rfl ?_)
     obtain rfl := Option.some.inj hF
     exact hJ275 _ ⟨rfl, rfl, rfl, rfl⟩
   ·rintro f ⟨hf1, hf2, hf5, hf28⟩
    refine (JL.norm (i := 1) hf1 (JL.norm (i := 2) hf2 (JL.norm (i := 5) hf5 (JL.norm (i := 28) hf28 ?_))))
    refine JL.doneQ hQ ?_
    refine JQ.go ?_
    rcases ite_some hF with ⟨hc283, hF⟩ | ⟨hc283, hF⟩
    ·refine JC.cond_t (b := p274) rfl hc283 ?_
     refine JC.seq (JC.region (by rfl) ?_)
     intro hQ
     refine JL.assign .none rfl (JL.done hQ (JQ.go (JC.ret (JQ.ret_block (JQ.ret_then (JQ.ret_then (JQ.ret_block (JQ.ret_join (JQ.ret_then ?_)))))))))
     obtain rfl := Option.some.inj hF
     have ehr238 := hr238 _ rfl
     subst ehr238
     have hF := hKr143
     try dsimp only at hF
     obtain rfl := Option.some.inj hF
     exact JQ.outS rfl (.tmp .nil) rfl
    ·refine JC.cond_f (b := p274) rfl hc283 ?_
     refine JC.skip (JQ.normal_block (JQ.go (JC.region (by rfl) ?_)))
     intro hQ
     refine JL.move .none rfl (JL.bin rfl rfl rfl .none rfl (JL.assign .none rfl (JL.done hQ ?_)))
     obtain rfl := Option.some.inj hF
     exact JQ.next rfl ⟨rfl, rfl, rfl, rfl, rfl, hs237⟩
  ·refine JC.cond_f (b := decide (i_236 < (class_.length : Int))) rfl hc240 ?_
   refine JC.exit (JQ.exit_then (JQ.exit_then (JQ.exit_block ?_)))
   obtain rfl := Option.some.inj hF
   have ehr238 := hr238 _ rfl
   subst ehr238
   refine JQ.mask [false] [] ?_
   exact JQ.join () ⟨rfl, rfl, rfl, hs237, rfl⟩
 ·rintro _ H142 f bs gs ⟨hf1, rfl, rfl, hs142, rfl⟩
  have hF := hKr143
  try dsimp only at hF
  refine (JQ.norm (i := 1) hf1 ?_)
  refine JQ.go (JC.seq (JC.region (by rfl) ?_))
  intro hQ
  refine JL.move .none rfl (JL.lenSL (R := R_Gust) ul_65 (SL.mono R_Gust_mono hs142 hclass__0) .none rfl ?_)
  refine JL.bin rfl rfl rfl .none rfl (JL.assign .none rfl (JL.done hQ (JQ.go (JC.ret ?_))))
  obtain rfl := Option.some.inj hF
  exact JQ.outS rfl (.tmp .nil) rfl
-- 98 ferrule/ferruleref05.check
def F_ref05_check (n : Nat) (d : Canopy) (class_ : List Gust) : Option Int :=
 (F_ref05_Check n d).bind fun y2 => if (y2 != 0) = true then (some y2) else ((F_ref05_IsClass n d class_).bind fun y4 => if (!y4) = true then (some 1) else (some 0))
theorem c_ref05_check (n : Nat) (H : Hp) (d : Canopy) (d_v0 : Value) (hd_0 : SL H 7 R_Section d_v0 d.Frame.Sections) (d_v7 : Value) (hd_7 : SL H 2 R_Span d_v7 d.Ribs) (d_v8 : Value) (hd_8 : SL H 1 RInt d_v8 d.Shares) (class_ : List Gust) (class__v0 : Value) (hclass__0 : SL H 2 R_Gust class__v0 class_) (y : Int) (hF : F_ref05_check n d class_ = some y) : SC Tryz.prog 98 [.agg [d_v0, .int .i64 d.Frame.Low, .int .i64 d.Frame.High, .int .i64 d.Frame.Ease.Num, .int .i64 d.Frame.Ease.Den, .int .i64 d.Frame.Rod, .int .i64 d.Frame.Case, d_v7, d_v8].toArray, class__v0] (.int .i64 y) H := by
 rw [F_ref05_check] at hF
 refine SC.of (N := 15) Tryz.func98 rfl rfl rfl fun w => ?_
 refine JC.seq (JC.region (by rfl) ?_)
 intro hQ
 refine JL.box (cs := [d_v0, .int .i64 d.Frame.Low, .int .i64 d.Frame.High, .int .i64 d.Frame.Ease.Num, .int .i64 d.Frame.Ease.Den, .int .i64 d.Frame.Rod, .int .i64 d.Frame.Case, d_v7, d_v8]) rfl .none rfl ?_
 intro b1
 refine JL.assign .none rfl (JL.done hQ (JQ.go (JC.seq (JC.seq (JC.region (by rfl) ?_)))))
 intro hQ
 refine JL.loadOwn 0 az_30 rfl rfl rfl .none rfl ?_
 obtain ⟨y2, hy2, hF⟩ := bind_some hF
 refine JL.callS (c_ref05_Check n H d d_v0 hd_0 d_v7 hd_7 d_v8 hd_8 y2 hy2) rfl en_65 .none rfl ?_
 refine JL.assign .none rfl (JL.done hQ (JQ.go (JC.seq (JC.region (by rfl) ?_))))
 intro hQ
 refine JL.move .none rfl (JL.bin rfl rfl rfl .none rfl (JL.done hQ (JQ.go ?_)))
 rcases ite_some hF with ⟨hc3, hF⟩ | ⟨hc3, hF⟩
 ·refine JC.cond_t (b := (y2 != 0)) rfl hc3 ?_
  refine JC.seq (JC.region (by rfl) ?_)
  intro hQ
  refine JL.move .none rfl (JL.assign .none rfl (JL.done hQ (JQ.go (JC.ret (JQ.ret_then ?_)))))
  obtain rfl := Option.some.inj hF
  exact JQ.outS rfl (.tmp .nil) rfl
 ·refine JC.cond_f (b := (y2 != 0)) rfl hc3 ?_
  refine JC.skip (JQ.go (JC.seq (JC.seq (JC.region (by rfl) ?_))))
  intro hQ
  refine JL.loadOwn 0 az_30 rfl rfl rfl .none rfl (JL.move .none rfl ?_)
  obtain ⟨y4, hy4, hF⟩ := bind_some hF
  refine JL.callS (c_ref05_IsClass n H d d_v0 hd_0 d_v7 hd_7 d_v8 hd_8 class_ class__v0 hclass__0 y4 hy4) rfl en_114 .none rfl ?_
  refine JL.not rfl .none rfl (JL.done hQ (JQ.go ?_))
  rcases ite_some hF with ⟨hc5, hF⟩ | ⟨hc5, hF⟩
  ·refine JC.cond_t (b := (!y4)) rfl hc5 ?_
   refine JC.seq (JC.region (by rfl) ?_)
   intro hQ
   refine JL.assign .none rfl (JL.done hQ (JQ.go (JC.ret (JQ.ret_then ?_))))
   obtain rfl := Option.some.inj hF
   exact JQ.outS rfl (.tmp .nil) rfl
  ·refine JC.cond_f (b := (!y4)) rfl hc5 ?_
   refine JC.skip (JQ.go (JC.seq (JC.region (by rfl) ?_)))
   intro hQ
   refine JL.assign .none rfl (JL.done hQ (JQ.go (JC.ret ?_)))
   obtain rfl := Option.some.inj hF
   exact JQ.outS rfl (.tmp .nil) rfl
-- 122 ferrule/ferruleref01.Pairs
def F_ref01_Pairs_s2 (n : Nat) (y2 : Section) (a_411 : Int) : Int × List ref01_Pair → Option ((Int × List ref01_Pair) ⊕ (List ref01_Pair))
 | (b_467, out_468) => if decide (b_467 ≤ y2.Stretch.High) = true then ((lim (out_468 ++ [(ref01_Pair.mk a_411 b_467)])).bind fun l474 => some (Sum.inl ((w64 (b_467 + 1)), l474))) else (some (Sum.inr out_468))
def F_ref01_Pairs_s1 (n : Nat) (y2 : Section) : Int × List ref01_Pair → Option ((Int × List ref01_Pair) ⊕ (List ref01_Pair))
 | (a_411, out_412) => if decide (a_411 ≤ y2.Arm.High) = true then ((loopO n (F_ref01_Pairs_s2 n y2 a_411) (y2.Stretch.Low, out_412)).bind fun out_446 => some (Sum.inl ((w64 (a_411 + 1)), out_446))) else (some (Sum.inr out_412))
def F_ref01_Pairs (n : Nat) (f_ : Frame) (section_ : Int) : Option (List ref01_Pair) :=
 (geti f_.Sections section_).bind fun y2 => (loopO n (F_ref01_Pairs_s1 n y2) (y2.Arm.Low, ([] : List ref01_Pair))).bind fun out_278 => some out_278
theorem c_ref01_Pairs (n : Nat) (H : Hp) (f_ : Frame) (f__v0 : Value) (hf__0 : SL H 7 R_Section f__v0 f_.Sections) (section_ : Int) (y : (List ref01_Pair)) (hF : F_ref01_Pairs n f_ section_ = some y) : HC Tryz.prog 122 [.agg [f__v0, .int .i64 f_.Low, .int .i64 f_.High, .int .i64 f_.Ease.Num, .int .i64 f_.Ease.Den, .int .i64 f_.Rod, .int .i64 f_.Case].toArray, .int .i64 section_] H (fun H' ra_v0 => SL H' 2 R_ref01_Pair ra_v0 y) := by
 rw [F_ref01_Pairs] at hF
 refine HC.of (N := 41) Tryz.func122 rfl rfl rfl fun w => ?_
 refine JC.seq (JC.region (by rfl) ?_)
 intro hQ
 refine JL.box (cs := [f__v0, .int .i64 f_.Low, .int .i64 f_.High, .int .i64 f_.Ease.Num, .int .i64 f_.Ease.Den, .int .i64 f_.Rod, .int .i64 f_.Case]) rfl .none rfl ?_
 intro b1
 refine JL.assign .none rfl (JL.done hQ (JQ.go (JC.seq (JC.region (by rfl) ?_))))
 intro hQ
 refine JL.fieldAddr fo_26_0 rfl .none rfl (JL.loadOwn 0 az_22 rfl rfl rfl .none rfl (JL.move .none rfl ?_))
 obtain ⟨y2, hy2, hF⟩ := bind_some hF
 refine JL.indexSL (R := R_Section) sl_22 hf__0 rfl hy2 .none rfl ?_
 rintro b3 o4 cs5 hc6 - rfl
 refine JL.loadH 0 az_124 rfl hc6 rfl .none rfl ?_
 refine JL.alloc ze_124 .none rfl ?_
 intro b7
 refine JL.storeOwn 0 (cs := [.int .i64 y2.Arm.Low, .int .i64 y2.Arm.High, .int .i64 y2.Stretch.Low, .int .i64 y2.Stretch.High, .int .i64 y2.Base, .int .i64 y2.Gear.Num, .int .i64 y2.Gear.Den]) az_124 rfl rfl rfl (one_cons rfl (one_cons rfl (one_cons rfl (one_cons rfl (one_cons rfl (one_cons rfl (one_cons rfl one_nil))))))) rfl rfl .none ?_
 refine JL.done hQ (JQ.go (JC.seq (JC.region (by rfl) ?_)))
 intro hQ
 refine JL.assign .none rfl (JL.done hQ (JQ.go (JC.seq (JC.seq (JC.region (by rfl) ?_)))))
 intro hQ
 refine JL.fieldAddr fo_124_0 rfl .none rfl (JL.fieldAddr fo_42_0 rfl .none rfl (JL.loadOwn 0 az_3 rfl rfl rfl .none rfl (JL.assign .none rfl (JL.done hQ (JQ.go (JC.fresh (fun f => f 4 = .slice none 0 0 ∧ f 5 = .pointer (some ⟨b7, 0, none⟩) ∧ f 6 = .slice none 0 0 ∧ f 7 = .int .i64 y2.Arm.Low) ⟨rfl, rfl, rfl, rfl⟩ ?_))))))
 rintro f ⟨hf4, hf5, hf6, hf7⟩
 refine (JC.norm (i := 4) hf4 (JC.norm (i := 5) hf5 (JC.norm (i := 6) hf6 (JC.norm (i := 7) hf7 ?_))))
 refine JC.newNil (e := 50) (sz := 2) ?_
 obtain ⟨r280, hlr280, hKr280⟩ := bind_some hF
 refine JC.join (fun (out_278 : List ref01_Pair) H279 f bs gs => ∃ (vout_278 : Value) (xsout_278 : List Value), f 6 = vout_278 ∧ bs = [] ∧ gs = [⟨vout_278, 50, 2, out_278.length, xsout_278⟩] ∧ CH H279 2 R_ref01_Pair xsout_278 out_278 ∧ HSub H H279 ∧ out_278 = r280) ?_ ?_
 ·skip
  refine JC.block (JC.mask [true, false] [true] ?_)
  refine JC.loop hlr280 (fun (x : Int × List ref01_Pair) H413 f bs gs => match x with | (a_411, out_412) => ∃ (vout_412 : Value) (xsout_412 : List Value), f 5 = .pointer (some ⟨b7, 0, none⟩) ∧ f 6 = vout_412 ∧ f 7 = .int .i64 a_411 ∧ bs = [(b7, .cells [.int .i64 y2.Arm.Low, .int .i64 y2.Arm.High, .int .i64 y2.Stretch.Low, .int .i64 y2.Stretch.High, .int .i64 y2.Base, .int .i64 y2.Gear.Num, .int .i64 y2.Gear.Den].toArray 124)] ∧ gs = [⟨vout_412, 50, 2, out_412.length, xsout_412⟩] ∧ CH H413 2 R_ref01_Pair xsout_412 out_412 ∧ HSub H H413) ⟨(.slice none 0 0), [], rfl, rfl, rfl, rfl, rfl, CH.nil, (HSub.refl _)⟩ ?_
  rintro ⟨a_411, out_412⟩ x415 H413 f bs gs ⟨vout_412, xsout_412, hf5, hf6, hf7, rfl, rfl, hout_412, hs413⟩ hF hr414
  rw [F_ref01_Pairs_s1] at hF
  refine (JC.norm (i := 5) hf5 (JC.norm (i := 6) hf6 (JC.norm (i := 7) hf7 ?_)))
  refine JC.seq (JC.seq (JC.region (by rfl) ?_))
  intro hQ
  refine JL.move .none rfl (JL.fieldAddr fo_124_0 rfl .none rfl (JL.fieldAddr fo_42_1 rfl .none rfl (JL.loadOwn 0 az_3 rfl rfl rfl .none rfl (JL.bin rfl rfl rfl .none rfl (JL.done hQ (JQ.go ?_))))))
  rcases ite_some hF with ⟨hc416, hF⟩ | ⟨hc416, hF⟩
  ·refine JC.cond_t (b := decide (a_411 ≤ y2.Arm.High)) rfl hc416 ?_
   refine JC.skip (JQ.go (JC.seq (JC.block (JC.seq (JC.region (by rfl) ?_)))))
   intro hQ
   refine JL.fieldAddr fo_124_1 rfl .none rfl (JL.fieldAddr fo_42_0 rfl .none rfl (JL.loadOwn 0 az_3 rfl rfl rfl .none rfl (JL.assign .none rfl (JL.done hQ (JQ.go ?_)))))
   obtain ⟨r448, hlr448, hKr448⟩ := bind_some hF
   refine JC.join (fun (out_446 : List ref01_Pair) H447 f bs gs => ∃ (vout_446 : Value) (xsout_446 : List Value), f 5 = .pointer (some ⟨b7, 0, none⟩) ∧ f 6 = vout_446 ∧ f 7 = .int .i64 a_411 ∧ bs = [(b7, .cells [.int .i64 y2.Arm.Low, .int .i64 y2.Arm.High, .int .i64 y2.Stretch.Low, .int .i64 y2.Stretch.High, .int .i64 y2.Base, .int .i64 y2.Gear.Num, .int .i64 y2.Gear.Den].toArray 124)] ∧ gs = [⟨vout_446, 50, 2, out_446.length, xsout_446⟩] ∧ CH H447 2 R_ref01_Pair xsout_446 out_446 ∧ HSub H413 H447 ∧ out_446 = r448) ?_ ?_
   ·skip
    refine JC.block (JC.loop hlr448 (fun (x : Int × List ref01_Pair) H469 f bs gs => match x with | (b_467, out_468) => ∃ (vout_468 : Value) (xsout_468 : List Value), f 5 = .pointer (some ⟨b7, 0, none⟩) ∧ f 6 = vout_468 ∧ f 7 = .int .i64 a_411 ∧ f 8 = .int .i64 b_467 ∧ bs = [(b7, .cells [.int .i64 y2.Arm.Low, .int .i64 y2.Arm.High, .int .i64 y2.Stretch.Low, .int .i64 y2.Stretch.High, .int .i64 y2.Base, .int .i64 y2.Gear.Num, .int .i64 y2.Gear.Den].toArray 124)] ∧ gs = [⟨vout_468, 50, 2, out_468.length, xsout_468⟩] ∧ CH H469 2 R_ref01_Pair xsout_468 out_468 ∧ HSub H413 H469) ⟨vout_412, xsout_412, rfl, rfl, rfl, rfl, rfl, rfl, hout_412, (HSub.refl _)⟩ ?_)
    rintro ⟨b_467, out_468⟩ x471 H469 f bs gs ⟨vout_468, xsout_468, hf5, hf6, hf7, hf8, rfl, rfl, hout_468, hs469⟩ hF hr470
    rw [F_ref01_Pairs_s2] at hF
    refine (JC.norm (i := 5) hf5 (JC.norm (i := 6) hf6 (JC.norm (i := 7) hf7 (JC.norm (i := 8) hf8 ?_))))
    refine JC.seq (JC.seq (JC.region (by rfl) ?_))
    intro hQ
    refine JL.move .none rfl (JL.fieldAddr fo_124_1 rfl .none rfl (JL.fieldAddr fo_42_1 rfl .none rfl (JL.loadOwn 0 az_3 rfl rfl rfl .none rfl (JL.bin rfl rfl rfl .none rfl (JL.done hQ (JQ.go ?_))))))
    rcases ite_some hF with ⟨hc472, hF⟩ | ⟨hc472, hF⟩
    ·refine JC.cond_t (b := decide (b_467 ≤ y2.Stretch.High)) rfl hc472 ?_
     refine JC.skip (JQ.go (JC.seq (JC.block (JC.region (by rfl) ?_))))
     intro hQ
     refine JL.move .none rfl (JL.move .none rfl (JL.move .none rfl (JL.build (l := [.int .i64 a_411, .int .i64 b_467]) (by kernel_rfl) .none rfl ?_)))
     refine JL.buildSlice (e := 50) (l := [.int .i64 a_411, .int .i64 b_467]) (by kernel_rfl) .none rfl ?_
     intro b473
     obtain ⟨l474, hl474, hF⟩ := bind_some hF
     refine JL.appO (R := R_ref01_Pair) 0 0 (l := out_468) (m := [(ref01_Pair.mk a_411 b_467)]) ap_166 rfl ⟨rfl, rfl⟩ rfl hout_468 rfl rfl rfl (CH.cons (cs := [.int .i64 a_411, .int .i64 b_467]) rfl rfl CH.nil) rfl (one_cons rfl (one_cons rfl one_nil)) hl474 .none rfl ?_
     intro v475 xs476 hch477
     refine JL.assign .none rfl (JL.done hQ (JQ.normal_block (JQ.go (JC.fresh (fun f => f 5 = .pointer (some ⟨b7, 0, none⟩) ∧ f 6 = v475 ∧ f 7 = .int .i64 a_411 ∧ f 8 = .int .i64 b_467) ⟨rfl, rfl, rfl, rfl⟩ ?_))))
     rintro f ⟨hf5, hf6, hf7, hf8⟩
     refine (JC.norm (i := 5) hf5 (JC.norm (i := 6) hf6 (JC.norm (i := 7) hf7 (JC.norm (i := 8) hf8 ?_))))
     refine JC.region (by rfl) ?_
     intro hQ
     refine JL.move .none rfl (JL.bin rfl rfl rfl .none rfl (JL.assign .none rfl (JL.done hQ ?_)))
     obtain rfl := Option.some.inj hF
     refine JQ.mask [false, true] [true] ?_
     exact JQ.next rfl ⟨v475, xs476, rfl, rfl, rfl, rfl, rfl, rfl, hch477, hs469⟩
    ·refine JC.cond_f (b := decide (b_467 ≤ y2.Stretch.High)) rfl hc472 ?_
     refine JC.exit (JQ.exit_then (JQ.exit_then (JQ.exit_block ?_)))
     obtain rfl := Option.some.inj hF
     have ehr470 := hr470 _ rfl
     subst ehr470
     exact JQ.join out_468 ⟨vout_468, xsout_468, rfl, rfl, rfl, rfl, rfl, hout_468, hs469, rfl⟩
   ·rintro out_446 H447 f bs gs ⟨vout_446, xsout_446, hf5, hf6, hf7, rfl, rfl, hout_446, hs447, rfl⟩
    have hF := hKr448
    try dsimp only at hF
    refine (JQ.norm (i := 5) hf5 (JQ.norm (i := 6) hf6 (JQ.norm (i := 7) hf7 ?_)))
    refine JQ.normal_block (JQ.go (JC.region (by rfl) ?_))
    intro hQ
    refine JL.move .none rfl (JL.bin rfl rfl rfl .none rfl (JL.assign .none rfl (JL.done hQ ?_)))
    obtain rfl := Option.some.inj hF
    exact JQ.next rfl ⟨vout_446, xsout_446, rfl, rfl, rfl, rfl, rfl, hout_446, (HSub.trans hs413 hs447)⟩
  ·refine JC.cond_f (b := decide (a_411 ≤ y2.Arm.High)) rfl hc416 ?_
   refine JC.exit (JQ.exit_then (JQ.exit_then (JQ.exit_block ?_)))
   obtain rfl := Option.some.inj hF
   have ehr414 := hr414 _ rfl
   subst ehr414
   refine JQ.mask [false] [true] ?_
   exact JQ.join out_412 ⟨vout_412, xsout_412, rfl, rfl, rfl, hout_412, hs413, rfl⟩
 ·rintro out_278 H279 f bs gs ⟨vout_278, xsout_278, hf6, rfl, rfl, hout_278, hs279, rfl⟩
  have hF := hKr280
  try dsimp only at hF
  refine (JQ.norm (i := 6) hf6 ?_)
  refine JQ.go (JC.seq (JC.region (by rfl) ?_))
  intro hQ
  refine JL.move .none rfl (JL.assign .none rfl (JL.done hQ (JQ.go (JC.ret (JQ.freezeG 0 (R := R_ref01_Pair) rfl R_ref01_Pair_mono hout_278 rfl ?_)))))
  intro H478 hs478 hg479
  obtain rfl := Option.some.inj hF
  exact JQ.outH rfl (.tmp .nil) hg479
-- 81 ferrule/ferruleref01.Reduced
def F_ref01_Reduced_s1 (n : Nat)  : Int × Int → Option ((Int × Int) ⊕ Int)
 | (a_37, b_38) => if (b_38 != 0) = true then ((nz b_38).bind fun _ => some (Sum.inl (b_38, (a_37.tmod b_38)))) else (some (Sum.inr a_37))
def F_ref01_Reduced (n : Nat) (num : Int) (den : Int) : Option Frac :=
 (loopO n (F_ref01_Reduced_s1 n) ((max num (w64 (-num))), den)).bind fun a_22 => (nz a_22).bind fun _ => (nz a_22).bind fun _ => some (Frac.mk (w64 (num.tdiv a_22)) (w64 (den.tdiv a_22)))
theorem c_ref01_Reduced (n : Nat) (H : Hp) (num : Int) (den : Int) (y : Frac) (hF : F_ref01_Reduced n num den = some y) : SC Tryz.prog 81 [.int .i64 num, .int .i64 den] (.agg [.int .i64 y.Num, .int .i64 y.Den].toArray) H := by
 rw [F_ref01_Reduced] at hF
 refine SC.of (N := 25) Tryz.func81 rfl rfl rfl fun w => ?_
 refine JC.seq (JC.region (by rfl) ?_)
 intro hQ
 refine JL.alloc ze_24 .none rfl ?_
 intro b1
 refine JL.done hQ (JQ.go (JC.seq (JC.region (by rfl) ?_)))
 intro hQ
 refine JL.move .none rfl (JL.move .none rfl (JL.neg rfl .none rfl ?_))
 refine JL.max rfl rfl .none rfl ?_
 refine JL.move .none rfl (JL.assign .none rfl (JL.assign .none rfl (JL.done hQ (JQ.go (JC.seq ?_)))))
 obtain ⟨r24, hlr24, hKr24⟩ := bind_some hF
 refine JC.join (fun (a_22 : Int) H23 f bs gs => f 0 = .int .i64 num ∧ f 1 = .int .i64 den ∧ f 4 = .pointer (some ⟨b1, 0, none⟩) ∧ f 5 = .int .i64 a_22 ∧ bs = [(b1, .cells [.int .i64 0, .int .i64 0].toArray 24)] ∧ gs = [] ∧ HSub H H23 ∧ a_22 = r24) ?_ ?_
 ·skip
  refine JC.block (JC.loop hlr24 (fun (x : Int × Int) H39 f bs gs => match x with | (a_37, b_38) => f 0 = .int .i64 num ∧ f 1 = .int .i64 den ∧ f 4 = .pointer (some ⟨b1, 0, none⟩) ∧ f 5 = .int .i64 a_37 ∧ f 6 = .int .i64 b_38 ∧ bs = [(b1, .cells [.int .i64 0, .int .i64 0].toArray 24)] ∧ gs = [] ∧ HSub H H39) ⟨rfl, rfl, rfl, rfl, rfl, rfl, rfl, (HSub.refl _)⟩ ?_)
  rintro ⟨a_37, b_38⟩ x41 H39 f bs gs ⟨hf0, hf1, hf4, hf5, hf6, rfl, rfl, hs39⟩ hF hr40
  rw [F_ref01_Reduced_s1] at hF
  refine (JC.norm (i := 0) hf0 (JC.norm (i := 1) hf1 (JC.norm (i := 4) hf4 (JC.norm (i := 5) hf5 (JC.norm (i := 6) hf6 ?_)))))
  refine JC.seq (JC.seq (JC.region (by rfl) ?_))
  intro hQ
  refine JL.move .none rfl (JL.bin rfl rfl rfl .none rfl (JL.done hQ (JQ.go ?_)))
  rcases ite_some hF with ⟨hc42, hF⟩ | ⟨hc42, hF⟩
  ·refine JC.cond_t (b := (b_38 != 0)) rfl hc42 ?_
   refine JC.skip (JQ.go (JC.block (JC.draw (by rfl) mo_ (by kernel_rfl) ?_)))
   intro hQ
   refine JL.move .none rfl (JL.move .none rfl (JL.move .none rfl ?_))
   obtain ⟨u44, hu44, hF⟩ := bind_some hF
   refine JL.div rfl rfl (nz_some hu44) rfl .none rfl ?_
   refine JL.assign .none rfl (JL.assign .none rfl (JL.doneQ hQ ?_))
   refine JQ.normal_block ?_
   obtain rfl := Option.some.inj hF
   exact JQ.next rfl ⟨rfl, rfl, rfl, rfl, rfl, rfl, rfl, hs39⟩
  ·refine JC.cond_f (b := (b_38 != 0)) rfl hc42 ?_
   refine JC.exit (JQ.exit_then (JQ.exit_then (JQ.exit_block ?_)))
   obtain rfl := Option.some.inj hF
   have ehr40 := hr40 _ rfl
   subst ehr40
   exact JQ.join a_37 ⟨rfl, rfl, rfl, rfl, rfl, rfl, hs39, rfl⟩
 ·rintro a_22 H23 f bs gs ⟨hf0, hf1, hf4, hf5, rfl, rfl, hs23, rfl⟩
  have hF := hKr24
  try dsimp only at hF
  refine (JQ.norm (i := 0) hf0 (JQ.norm (i := 1) hf1 (JQ.norm (i := 4) hf4 (JQ.norm (i := 5) hf5 ?_))))
  refine JQ.go (JC.seq ?_)
  obtain ⟨u47, hu47, hF⟩ := bind_some hF
  obtain ⟨u48, hu48, hF⟩ := bind_some hF
  refine JC.mixed 7 8 (tf 0 8) [(b1, .cells [.int .i64 0, .int .i64 0].toArray 24)] (by rfl) mo_ (by kernel_rfl) (by kernel_rfl) ?_
  intro hQ hE
  refine JA.tk 0 (tf 1 7) hQ rfl hE (.cons_cons _ (List.nil_sublist _)) ?_
  refine JL.move .none rfl (JA.cont ?_)
  refine JA.tk 1 (tf 2 6) hQ rfl hE (.cons_cons _ (List.nil_sublist _)) ?_
  refine JL.move .none rfl (JA.cont ?_)
  refine JA.tk 2 (tf 3 5) hQ rfl hE (.cons_cons _ (List.nil_sublist _)) ?_
  refine JL.div rfl rfl (nz_some hu47) rfl .none rfl ?_
  refine JA.cont ?_
  refine JA.tk 3 (tf 4 4) hQ rfl hE (.cons_cons _ (List.nil_sublist _)) ?_
  refine JL.move .none rfl (JA.cont ?_)
  refine JA.tk 4 (tf 5 3) hQ rfl hE (.cons_cons _ (List.nil_sublist _)) ?_
  refine JL.move .none rfl (JA.cont ?_)
  refine JA.tk 5 (tf 6 2) hQ rfl hE (.cons_cons _ (List.nil_sublist _)) ?_
  refine JL.div rfl rfl (nz_some hu48) rfl .none rfl ?_
  refine JA.cont ?_
  refine JA.tk 6 (tf 7 1) hQ rfl hE (.cons_cons _ (List.nil_sublist _)) ?_
  refine JL.build (l := [.int .i64 (w64 (num.tdiv a_22)), .int .i64 (w64 (den.tdiv a_22))]) (by kernel_rfl) .none rfl ?_
  refine JA.cont ?_
  refine JA.many [7] (by kernel_rfl) (by simp) (all_one ⟨_, (tf 8 0), rfl, (by kernel_rfl), ?_⟩)
  refine JL.storeOwn 0 (cs := [.int .i64 (w64 (num.tdiv a_22)), .int .i64 (w64 (den.tdiv a_22))]) az_24 rfl rfl rfl (one_cons rfl (one_cons rfl one_nil)) rfl rfl .none ?_
  refine JA.sink (by kernel_rfl) ?_
  refine JA.done hQ (by kernel_rfl) ?_
  refine JQ.go (JC.ret ?_)
  obtain rfl := Option.some.inj hF
  exact JQ.outS rfl (.cell 0 az_24 rfl rfl rfl .nil) rfl
-- 56 ferrule/ferruleref01.CosineOf
def F_ref01_CosineOf (n : Nat) (d : Int) (p : ref01_Pair) : Option (Frac × Bool) :=
 if (d == 0) = true then (some ((Frac.mk 0 0), false)) else ((F_ref01_Reduced n (w64 ((w64 ((w64 (d * d)) + (w64 (p.Arm * p.Arm)))) - (w64 (p.Stretch * p.Stretch)))) (w64 ((w64 (2 * d)) * p.Arm))).bind fun y4 => some (y4, true))
theorem c_ref01_CosineOf (n : Nat) (H : Hp) (d : Int) (p : ref01_Pair) (y : Frac × Bool) (hF : F_ref01_CosineOf n d p = some y) : SC Tryz.prog 56 [.int .i64 d, .agg [.int .i64 p.Arm, .int .i64 p.Stretch].toArray] (.tuple [.agg [.int .i64 y.1.Num, .int .i64 y.1.Den].toArray, .bool y.2].toArray) H := by
 rw [F_ref01_CosineOf] at hF
 refine SC.of (N := 30) Tryz.func56 rfl rfl rfl fun w => ?_
 refine JC.seq (JC.region (by rfl) ?_)
 intro hQ
 refine JL.box (cs := [.int .i64 p.Arm, .int .i64 p.Stretch]) rfl .none rfl ?_
 intro b1
 refine JL.alloc ze_24 .none rfl ?_
 intro b2
 refine JL.assign .none rfl (JL.done hQ (JQ.go (JC.seq (JC.seq (JC.region (by rfl) ?_)))))
 intro hQ
 refine JL.move .none rfl (JL.bin rfl rfl rfl .none rfl (JL.done hQ (JQ.go ?_)))
 rcases ite_some hF with ⟨hc3, hF⟩ | ⟨hc3, hF⟩
 ·refine JC.cond_t (b := (d == 0)) rfl hc3 ?_
  refine JC.seq (JC.region (by rfl) ?_)
  intro hQ
  refine JL.build (l := [.int .i64 0, .int .i64 0]) (by kernel_rfl) .none rfl ?_
  refine JL.storeOwn 0 (cs := [.int .i64 0, .int .i64 0]) az_24 rfl rfl rfl (one_cons rfl (one_cons rfl one_nil)) rfl rfl .none ?_
  refine JL.assign .none rfl (JL.done hQ (JQ.go (JC.ret (JQ.ret_then ?_))))
  obtain rfl := Option.some.inj hF
  exact JQ.outS rfl (.cell 0 az_24 rfl rfl rfl (.tmp .nil)) rfl
 ·refine JC.cond_f (b := (d == 0)) rfl hc3 ?_
  refine JC.skip (JQ.go (JC.seq (JC.region (by rfl) ?_)))
  intro hQ
  refine JL.move .none rfl (JL.move .none rfl (JL.bin rfl rfl rfl .none rfl (JL.fieldAddr fo_50_0 rfl .none rfl (JL.loadOwn 1 az_3 rfl rfl rfl .none rfl (JL.fieldAddr fo_50_0 rfl .none rfl (JL.loadOwn 1 az_3 rfl rfl rfl .none rfl (JL.bin rfl rfl rfl .none rfl (JL.bin rfl rfl rfl .none rfl (JL.fieldAddr fo_50_1 rfl .none rfl (JL.loadOwn 1 az_3 rfl rfl rfl .none rfl (JL.fieldAddr fo_50_1 rfl .none rfl (JL.loadOwn 1 az_3 rfl rfl rfl .none rfl (JL.bin rfl rfl rfl .none rfl (JL.bin rfl rfl rfl .none rfl (JL.move .none rfl (JL.bin rfl rfl rfl .none rfl (JL.fieldAddr fo_50_0 rfl .none rfl (JL.loadOwn 1 az_3 rfl rfl rfl .none rfl (JL.bin rfl rfl rfl .none rfl ?_)))))))))))))))))))
  obtain ⟨y4, hy4, hF⟩ := bind_some hF
  refine JL.callS (c_ref01_Reduced n H (w64 ((w64 ((w64 (d * d)) + (w64 (p.Arm * p.Arm)))) - (w64 (p.Stretch * p.Stretch)))) (w64 ((w64 (2 * d)) * p.Arm)) y4 hy4) rfl en_81 .none rfl ?_
  refine JL.storeOwn 0 (cs := [.int .i64 y4.Num, .int .i64 y4.Den]) az_24 rfl rfl rfl (one_cons rfl (one_cons rfl one_nil)) rfl rfl .none ?_
  refine JL.assign .none rfl (JL.done hQ (JQ.go (JC.fresh (fun f => f 4 = .pointer (some ⟨b2, 0, none⟩) ∧ f 5 = .bool true) ⟨rfl, rfl⟩ ?_)))
  rintro f ⟨hf4, hf5⟩
  refine (JC.norm (i := 4) hf4 (JC.norm (i := 5) hf5 ?_))
  refine JC.ret ?_
  obtain rfl := Option.some.inj hF
  exact JQ.outS rfl (.cell 0 az_24 rfl rfl rfl (.tmp .nil)) rfl
end Go.Proofs.YtcipdblhopffbaaGreat
end
section
set_option maxRecDepth 100000
set_option maxHeartbeats 40000000
namespace Go.Proofs.YtcipdblhopffbaaGreat
open Go Go.RowKit Go.Dec
set_option linter.unusedVariables false
-- 19 ferrule/ferruleref05.LiftOf
def F_ref05_LiftOf (n : Nat) (d : Canopy) (p : ref01_Pair) : Option Int :=
 (F_ref01_CosineOf n d.Frame.Low p).bind fun y3 => (nz y3.1.Den).bind fun _ => (nz y3.1.Den).bind fun _ => (if decide (((w64 (100 * y3.1.Num)).tmod y3.1.Den) < 0) = true then (some (w64 ((w64 ((w64 (100 * y3.1.Num)).tdiv y3.1.Den)) - 1))) else (some (w64 ((w64 (100 * y3.1.Num)).tdiv y3.1.Den)))).bind fun part_8 => some (min 200 (max 0 (w64 (100 + part_8))))
theorem c_ref05_LiftOf (n : Nat) (H : Hp) (d : Canopy) (d_v0 : Value) (hd_0 : SL H 7 R_Section d_v0 d.Frame.Sections) (d_v7 : Value) (hd_7 : SL H 2 R_Span d_v7 d.Ribs) (d_v8 : Value) (hd_8 : SL H 1 RInt d_v8 d.Shares) (p : ref01_Pair) (y : Int) (hF : F_ref05_LiftOf n d p = some y) : SC Tryz.prog 19 [.agg [d_v0, .int .i64 d.Frame.Low, .int .i64 d.Frame.High, .int .i64 d.Frame.Ease.Num, .int .i64 d.Frame.Ease.Den, .int .i64 d.Frame.Rod, .int .i64 d.Frame.Case, d_v7, d_v8].toArray, .agg [.int .i64 p.Arm, .int .i64 p.Stretch].toArray] (.int .i64 y) H := by
 rw [F_ref05_LiftOf] at hF
 refine SC.of (N := 35) Tryz.func19 rfl rfl rfl fun w => ?_
 refine JC.seq (JC.region (by rfl) ?_)
 intro hQ
 refine JL.box (cs := [d_v0, .int .i64 d.Frame.Low, .int .i64 d.Frame.High, .int .i64 d.Frame.Ease.Num, .int .i64 d.Frame.Ease.Den, .int .i64 d.Frame.Rod, .int .i64 d.Frame.Case, d_v7, d_v8]) rfl .none rfl ?_
 intro b1
 refine JL.box (cs := [.int .i64 p.Arm, .int .i64 p.Stretch]) rfl .none rfl ?_
 intro b2
 refine JL.assign .none rfl (JL.done hQ (JQ.go (JC.seq (JC.region (by rfl) ?_))))
 intro hQ
 refine JL.fieldAddr fo_30_0 rfl .none rfl (JL.fieldAddr fo_26_1 rfl .none rfl (JL.loadOwn 1 az_3 rfl rfl rfl .none rfl (JL.loadOwn 0 az_50 rfl rfl rfl .none rfl ?_)))
 obtain ⟨y3, hy3, hF⟩ := bind_some hF
 refine JL.callS (c_ref01_CosineOf n H d.Frame.Low p y3 hy3) rfl en_56 .none rfl ?_
 refine JL.move .none rfl (JL.extract rfl rfl .none rfl (JL.extract rfl rfl .none rfl (JL.alloc ze_24 .none rfl ?_)))
 intro b4
 refine JL.storeOwn 0 (cs := [.int .i64 y3.1.Num, .int .i64 y3.1.Den]) az_24 rfl rfl rfl (one_cons rfl (one_cons rfl one_nil)) rfl rfl .none ?_
 refine JL.assign .none rfl (JL.done hQ (JQ.go (JC.fresh (fun f => f 4 = .int .i64 0 ∧ f 5 = .pointer (some ⟨b4, 0, none⟩)) ⟨rfl, rfl⟩ ?_)))
 rintro f ⟨hf4, hf5⟩
 refine (JC.norm (i := 4) hf4 (JC.norm (i := 5) hf5 ?_))
 refine JC.seq (JC.region (by rfl) ?_)
 intro hQ
 refine JL.fieldAddr fo_24_0 rfl .none rfl (JL.loadOwn 0 az_3 rfl rfl rfl .none rfl (JL.bin rfl rfl rfl .none rfl (JL.assign .none rfl (JL.done hQ (JQ.go (JC.seq (JC.region (by rfl) ?_)))))))
 intro hQ
 refine JL.move .none rfl (JL.fieldAddr fo_24_1 rfl .none rfl (JL.loadOwn 0 az_3 rfl rfl rfl .none rfl ?_))
 obtain ⟨u5, hu5, hF⟩ := bind_some hF
 refine JL.div rfl rfl (nz_some hu5) rfl .none rfl ?_
 refine JL.assign .none rfl (JL.done hQ (JQ.go (JC.seq (JC.seq (JC.region (by rfl) ?_)))))
 intro hQ
 refine JL.move .none rfl (JL.fieldAddr fo_24_1 rfl .none rfl (JL.loadOwn 0 az_3 rfl rfl rfl .none rfl ?_))
 obtain ⟨u6, hu6, hF⟩ := bind_some hF
 refine JL.div rfl rfl (nz_some hu6) rfl .none rfl ?_
 refine JL.bin rfl rfl rfl .none rfl (JL.done hQ (JQ.go (JC.fresh (fun f => f 4 = .int .i64 0 ∧ f 8 = .int .i64 (w64 ((w64 (100 * y3.1.Num)).tdiv y3.1.Den)) ∧ f 28 = .bool (decide (((w64 (100 * y3.1.Num)).tmod y3.1.Den) < 0))) ⟨rfl, rfl, rfl⟩ ?_)))
 rintro f ⟨hf4, hf8, hf28⟩
 refine (JC.norm (i := 4) hf4 (JC.norm (i := 8) hf8 (JC.norm (i := 28) hf28 ?_)))
 obtain ⟨r10, hlr10, hKr10⟩ := bind_some hF
 refine JC.join (fun (part_8 : Int) H9 f bs gs => f 8 = .int .i64 part_8 ∧ bs = [] ∧ gs = [] ∧ HSub H H9 ∧ part_8 = r10) ?_ ?_
 ·have hF := hlr10
  rcases ite_some hF with ⟨hc11, hF⟩ | ⟨hc11, hF⟩
  ·refine JC.cond_t (b := decide (((w64 (100 * y3.1.Num)).tmod y3.1.Den) < 0)) rfl hc11 ?_
   refine JC.region (by rfl) ?_
   intro hQ
   refine JL.move .none rfl (JL.bin rfl rfl rfl .none rfl (JL.assign .none rfl (JL.done hQ ?_)))
   obtain rfl := Option.some.inj hF
   refine JQ.mask [false, false, false] [] ?_
   exact JQ.join (w64 ((w64 ((w64 (100 * y3.1.Num)).tdiv y3.1.Den)) - 1)) ⟨rfl, rfl, rfl, (HSub.refl _), rfl⟩
  ·refine JC.cond_f (b := decide (((w64 (100 * y3.1.Num)).tmod y3.1.Den) < 0)) rfl hc11 ?_
   refine JC.skip ?_
   obtain rfl := Option.some.inj hF
   refine JQ.mask [false, false, false] [] ?_
   exact JQ.join (w64 ((w64 (100 * y3.1.Num)).tdiv y3.1.Den)) ⟨rfl, rfl, rfl, (HSub.refl _), rfl⟩
 ·rintro part_8 H9 f bs gs ⟨hf8, rfl, rfl, hs9, rfl⟩
  have hF := hKr10
  try dsimp only at hF
  refine (JQ.norm (i := 8) hf8 ?_)
  refine JQ.go (JC.seq (JC.region (by rfl) ?_))
  intro hQ
  refine JL.move .none rfl (JL.bin rfl rfl rfl .none rfl (JL.max rfl rfl .none rfl ?_))
  refine JL.min rfl rfl .none rfl ?_
  refine JL.assign .none rfl (JL.done hQ (JQ.go (JC.ret ?_)))
  obtain rfl := Option.some.inj hF
  exact JQ.outS rfl (.tmp .nil) rfl
-- 115 ferrule/ferruleref05.lift
def F_ref05_lift_s1 (n : Nat) (d : Canopy) (y3 : (List ref01_Pair)) : Int × Int × Int → Option ((Int × Int × Int) ⊕ (Int × Int))
 | (i_97, z_98, z_99) => if decide (i_97 < (y3.length : Int)) = true then ((geti y3 i_97).bind fun y110 => (F_ref05_LiftOf n d y110).bind fun y115 => some (Sum.inl ((w64 (i_97 + 1)), (min z_98 y115), (max z_99 y115)))) else (some (Sum.inr (z_98, z_99)))
def F_ref05_lift (n : Nat) (d : Canopy) : Option Span :=
 (F_ref01_Pairs n d.Frame 0).bind fun y3 => (loopO n (F_ref05_lift_s1 n d y3) (0, 200, 0)).bind fun r62 => match r62 with | (z_59, z_60) => some (Span.mk z_59 z_60)
theorem c_ref05_lift (n : Nat) (H : Hp) (d : Canopy) (d_v0 : Value) (hd_0 : SL H 7 R_Section d_v0 d.Frame.Sections) (d_v7 : Value) (hd_7 : SL H 2 R_Span d_v7 d.Ribs) (d_v8 : Value) (hd_8 : SL H 1 RInt d_v8 d.Shares) (y : Span) (hF : F_ref05_lift n d = some y) : SC Tryz.prog 115 [.agg [d_v0, .int .i64 d.Frame.Low, .int .i64 d.Frame.High, .int .i64 d.Frame.Ease.Num, .int .i64 d.Frame.Ease.Den, .int .i64 d.Frame.Rod, .int .i64 d.Frame.Case, d_v7, d_v8].toArray] (.agg [.int .i64 y.Low, .int .i64 y.High].toArray) H := by
 rw [F_ref05_lift] at hF
 refine SC.of (N := 33) Tryz.func115 rfl rfl rfl fun w => ?_
 refine JC.seq (JC.region (by rfl) ?_)
 intro hQ
 refine JL.box (cs := [d_v0, .int .i64 d.Frame.Low, .int .i64 d.Frame.High, .int .i64 d.Frame.Ease.Num, .int .i64 d.Frame.Ease.Den, .int .i64 d.Frame.Rod, .int .i64 d.Frame.Case, d_v7, d_v8]) rfl .none rfl ?_
 intro b1
 refine JL.alloc ze_42 .none rfl ?_
 intro b2
 refine JL.done hQ (JQ.go (JC.seq (JC.region (by rfl) ?_)))
 intro hQ
 refine JL.fieldAddr fo_30_0 rfl .none rfl (JL.loadOwn 1 az_26 rfl rfl rfl .none rfl ?_)
 obtain ⟨y3, hy3, hF⟩ := bind_some hF
 refine JL.callH (c_ref01_Pairs n H d.Frame d_v0 hd_0 0 y3 hy3) rfl en_122 .none rfl ?_
 intro H4 y3a_v0 hs4 hy3a_0
 refine JL.assign .none rfl (JL.done hQ (JQ.go (JC.seq (JC.region (by rfl) ?_))))
 intro hQ
 refine JL.build (l := [.int .i64 200, .int .i64 0]) (by kernel_rfl) .none rfl ?_
 refine JL.alloc ze_42 .none rfl ?_
 intro b5
 refine JL.storeOwn 0 (cs := [.int .i64 200, .int .i64 0]) az_42 rfl rfl rfl (one_cons rfl (one_cons rfl one_nil)) rfl rfl .none ?_
 refine JL.done hQ (JQ.go (JC.seq (JC.seq (JC.region (by rfl) ?_))))
 intro hQ
 refine JL.assign .none rfl (JL.done hQ (JQ.go ?_))
 obtain ⟨r62, hlr62, hKr62⟩ := bind_some hF
 refine JC.join (fun (x : Int × Int) H61 f bs gs => match x with | (z_59, z_60) => f 2 = .pointer (some ⟨b2, 0, none⟩) ∧ f 4 = .pointer (some ⟨b5, 0, none⟩) ∧ bs = [(b5, .cells [.int .i64 z_59, .int .i64 z_60].toArray 42), (b2, .cells [.int .i64 0, .int .i64 0].toArray 42)] ∧ gs = [] ∧ HSub H4 H61 ∧ (z_59, z_60) = r62) ?_ ?_
 ·skip
  refine JC.block (JC.loop hlr62 (fun (x : Int × Int × Int) H100 f bs gs => match x with | (i_97, z_98, z_99) => f 1 = .pointer (some ⟨b1, 0, none⟩) ∧ f 2 = .pointer (some ⟨b2, 0, none⟩) ∧ f 3 = y3a_v0 ∧ f 4 = .pointer (some ⟨b5, 0, none⟩) ∧ f 5 = .int .i64 i_97 ∧ bs = [(b5, .cells [.int .i64 z_98, .int .i64 z_99].toArray 42), (b2, .cells [.int .i64 0, .int .i64 0].toArray 42), (b1, .cells [d_v0, .int .i64 d.Frame.Low, .int .i64 d.Frame.High, .int .i64 d.Frame.Ease.Num, .int .i64 d.Frame.Ease.Den, .int .i64 d.Frame.Rod, .int .i64 d.Frame.Case, d_v7, d_v8].toArray 30)] ∧ gs = [] ∧ HSub H4 H100) ⟨rfl, rfl, rfl, rfl, rfl, rfl, rfl, (HSub.refl _)⟩ ?_)
  rintro ⟨i_97, z_98, z_99⟩ x102 H100 f bs gs ⟨hf1, hf2, hf3, hf4, hf5, rfl, rfl, hs100⟩ hF hr101
  rw [F_ref05_lift_s1] at hF
  refine (JC.norm (i := 1) hf1 (JC.norm (i := 2) hf2 (JC.norm (i := 3) hf3 (JC.norm (i := 4) hf4 (JC.norm (i := 5) hf5 ?_)))))
  refine JC.seq (JC.seq (JC.region (by rfl) ?_))
  intro hQ
  refine JL.move .none rfl (JL.move .none rfl (JL.lenSL (R := R_ref01_Pair) ul_166 (SL.mono R_ref01_Pair_mono hs100 hy3a_0) .none rfl ?_))
  refine JL.bin rfl rfl rfl .none rfl (JL.done hQ (JQ.go ?_))
  rcases ite_some hF with ⟨hc103, hF⟩ | ⟨hc103, hF⟩
  ·refine JC.cond_t (b := decide (i_97 < (y3.length : Int))) rfl hc103 ?_
   refine JC.skip (JQ.go (JC.seq (JC.block (JC.seq (JC.draw (by rfl) mo_ (by kernel_rfl) ?_)))))
   intro hQ
   refine JL.loadOwn 2 az_30 rfl rfl rfl .none rfl (JL.move .none rfl (JL.move .none rfl ?_))
   obtain ⟨y110, hy110, hF⟩ := bind_some hF
   refine JL.indexSL (R := R_ref01_Pair) sl_166 (SL.mono R_ref01_Pair_mono hs100 hy3a_0) rfl hy110 .none rfl ?_
   rintro b111 o112 cs113 hc114 - rfl
   refine JL.loadH 0 az_50 rfl hc114 rfl .none rfl ?_
   obtain ⟨y115, hy115, hF⟩ := bind_some hF
   refine JL.callS (c_ref05_LiftOf n H100 d d_v0 (SL.mono R_Section_mono (HSub.trans hs4 hs100) hd_0) d_v7 (SL.mono R_Span_mono (HSub.trans hs4 hs100) hd_7) d_v8 (SL.mono RInt.mono (HSub.trans hs4 hs100) hd_8) y110 y115 hy115) rfl en_19 .none rfl ?_
   refine JL.assign .none rfl (JL.doneQ hQ ?_)
   refine JQ.go (JC.fresh (fun f => f 1 = .pointer (some ⟨b1, 0, none⟩) ∧ f 2 = .pointer (some ⟨b2, 0, none⟩) ∧ f 3 = y3a_v0 ∧ f 4 = .pointer (some ⟨b5, 0, none⟩) ∧ f 5 = .int .i64 i_97 ∧ f 6 = .int .i64 y115) ⟨rfl, rfl, rfl, rfl, rfl, rfl⟩ ?_)
   rintro f ⟨hf1, hf2, hf3, hf4, hf5, hf6⟩
   refine (JC.norm (i := 1) hf1 (JC.norm (i := 2) hf2 (JC.norm (i := 3) hf3 (JC.norm (i := 4) hf4 (JC.norm (i := 5) hf5 (JC.norm (i := 6) hf6 ?_))))))
   refine JC.region (by rfl) ?_
   intro hQ
   refine JL.fieldAddr fo_42_0 rfl .none rfl (JL.loadOwn 0 az_3 rfl rfl rfl .none rfl (JL.move .none rfl (JL.min rfl rfl .none rfl ?_)))
   refine JL.fieldAddr fo_42_1 rfl .none rfl (JL.loadOwn 0 az_3 rfl rfl rfl .none rfl (JL.move .none rfl (JL.max rfl rfl .none rfl ?_)))
   refine JL.build (l := [.int .i64 (min z_98 y115), .int .i64 (max z_99 y115)]) (by kernel_rfl) .none rfl ?_
   refine JL.storeOwn 0 (cs := [.int .i64 (min z_98 y115), .int .i64 (max z_99 y115)]) az_42 rfl rfl rfl (one_cons rfl (one_cons rfl one_nil)) rfl rfl .none ?_
   refine JL.done hQ (JQ.normal_block (JQ.go (JC.fresh (fun f => f 1 = .pointer (some ⟨b1, 0, none⟩) ∧ f 2 = .pointer (some ⟨b2, 0, none⟩) ∧ f 3 = y3a_v0 ∧ f 4 = .pointer (some ⟨b5, 0, none⟩) ∧ f 5 = .int .i64 i_97) ⟨rfl, rfl, rfl, rfl, rfl⟩ ?_)))
   rintro f ⟨hf1, hf2, hf3, hf4, hf5⟩
   refine (JC.norm (i := 1) hf1 (JC.norm (i := 2) hf2 (JC.norm (i := 3) hf3 (JC.norm (i := 4) hf4 (JC.norm (i := 5) hf5 ?_)))))
   refine JC.region (by rfl) ?_
   intro hQ
   refine JL.move .none rfl (JL.bin rfl rfl rfl .none rfl (JL.assign .none rfl (JL.done hQ ?_)))
   obtain rfl := Option.some.inj hF
   exact JQ.next rfl ⟨rfl, rfl, rfl, rfl, rfl, rfl, rfl, hs100⟩
  ·refine JC.cond_f (b := decide (i_97 < (y3.length : Int))) rfl hc103 ?_
   refine JC.exit (JQ.exit_then (JQ.exit_then (JQ.exit_block ?_)))
   obtain rfl := Option.some.inj hF
   have ehr101 := hr101 _ rfl
   subst ehr101
   refine JQ.mask [true, true, false] [] ?_
   exact JQ.join (z_98, z_99) ⟨rfl, rfl, rfl, rfl, hs100, rfl⟩
 ·rintro ⟨z_59, z_60⟩ H61 f bs gs ⟨hf2, hf4, rfl, rfl, hs61, rfl⟩
  have hF := hKr62
  try dsimp only at hF
  refine (JQ.norm (i := 2) hf2 (JQ.norm (i := 4) hf4 ?_))
  refine JQ.go (JC.seq (JC.region (by rfl) ?_))
  intro hQ
  refine JL.loadOwn 0 az_42 rfl rfl rfl .none rfl (JL.storeOwn 1 (cs := [.int .i64 z_59, .int .i64 z_60]) az_42 rfl rfl rfl (one_cons rfl (one_cons rfl one_nil)) rfl rfl .none ?_)
  refine JL.done hQ (JQ.go (JC.ret ?_))
  obtain rfl := Option.some.inj hF
  exact JQ.outS rfl (.cell 1 az_42 rfl rfl rfl .nil) rfl
end Go.Proofs.YtcipdblhopffbaaGreat
end
