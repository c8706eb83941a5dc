/-
  A part of the proof of MiMirror: the texts MiGenK4, MiGenK5.
-/
import Derived.Test.YtflhjlgimihmgaaJMiMirror4
section
set_option maxRecDepth 100000
set_option maxHeartbeats 40000000
namespace Go.Proofs.Ytflhjlgimihmgaa
open Go Go.RowKit Go.Dec
set_option linter.unusedVariables false
-- 44 ferrule/lays.least
def F_lays_least_s1 (n : Nat) (s : Lap) (taken : List Int) : Int → Option (Int ⊕ ((Int × (List Place)) ⊕ Unit))
 | x_77 => if decide (x_77 < (w64 (s.Length + 1))) = true then ((F_lays_cloth_fill n s x_77 taken ([] : List Place)).bind fun y84 => if y84.1 = true then (some (Sum.inr (Sum.inl (x_77, y84.2.2)))) else (some (Sum.inl (w64 (x_77 + 1))))) else (some (Sum.inr (Sum.inr ())))
def F_lays_least (n : Nat) (s : Lap) (taken : List Int) : Option (Int × (List Place)) :=
 (loopO n (F_lays_least_s1 n s taken) 0).bind fun r48 => match r48 with | .inl o => some o | .inr _ => some ((-1), ([] : List Place))
theorem c_lays_least (n : Nat) (H : Hp) (s : Lap) (s_v2 : Value) (hs_2 : SL H 2 R_Cell s_v2 s.Faults) (s_v3 : Value) (hs_3 : SL H 2 R_Cell s_v3 s.Flaws) (s_v4 : Value) (hs_4 : SL H 1 R_Panel s_v4 s.Panels) (taken : List Int) (taken_l : taken.length = 12) (y : Int × (List Place)) (hF : F_lays_least n s taken = some y) : HC Try.prog 44 [.agg [.int .i64 s.Width, .int .i64 s.Length, s_v2, s_v3, s_v4].toArray, .agg (av .u16 taken).toArray] H (fun H' v => ∃ rb_v0 : Value, v = .tuple [.int .i64 y.1, rb_v0].toArray ∧ SL H' 3 R_Place rb_v0 y.2) := by
 rw [F_lays_least] at hF
 refine HC.of (N := 27) Try.func44 rfl rfl rfl fun w => ?_
 refine JC.seq (JC.region (by rfl) ?_)
 intro hQ
 refine JL.box (cs := [.int .i64 s.Width, .int .i64 s.Length, s_v2, s_v3, s_v4]) rfl .none rfl ?_
 intro b1
 refine JL.box (cs := av .u16 taken) rfl .none rfl ?_
 intro b2
 refine JL.assign .none rfl ?_
 refine JL.assign .none rfl ?_
 refine JL.done hQ (JQ.go (JC.seq (JC.seq (JC.region (by rfl) ?_))))
 intro hQ
 refine JL.fieldAddr fo_25_1 rfl .none rfl ?_
 refine JL.loadOwn 1 az_3 rfl rfl rfl .none rfl ?_
 refine JL.bin rfl rfl rfl .none rfl ?_
 refine JL.move .none rfl ?_
 refine JL.done hQ (JQ.go ?_)
 obtain ⟨r48, hlr48, hKr48⟩ := bind_some hF
 refine JC.join (fun (_ : Unit) H47 f bs gs => bs = [] ∧ gs = [] ∧ HSub H H47 ∧ Sum.inr () = r48) ?_ ?_
 ·skip
  refine JC.block (JC.loop hlr48 (fun (x_77 : Int) H78 f bs gs => f 2 = .pointer (some ⟨b1, 0, none⟩) ∧ f 3 = .pointer (some ⟨b2, 0, none⟩) ∧ f 10 = .int .i64 (w64 (s.Length + 1)) ∧ f 11 = .int .i64 x_77 ∧ bs = [(b2, .cells (av .u16 taken).toArray 85), (b1, .cells [.int .i64 s.Width, .int .i64 s.Length, s_v2, s_v3, s_v4].toArray 25)] ∧ gs = [] ∧ HSub H H78) ⟨rfl, rfl, rfl, rfl, rfl, rfl, (HSub.refl _)⟩ ?_)
  rintro x_77 x80 H78 f bs gs ⟨hf2, hf3, hf10, hf11, rfl, rfl, hs78⟩ hF hr79
  rw [F_lays_least_s1] at hF
  refine (JC.norm (i := 2) hf2 (JC.norm (i := 3) hf3 (JC.norm (i := 10) hf10 (JC.norm (i := 11) hf11 ?_))))
  refine JC.seq (JC.region (by rfl) ?_)
  intro hQ
  refine JL.bin rfl rfl rfl .none rfl ?_
  refine JL.done hQ (JQ.go (JC.seq ?_))
  rcases ite_some hF with ⟨hc81, hF⟩ | ⟨hc81, hF⟩
  ·refine JC.cond_t (b := decide (x_77 < (w64 (s.Length + 1)))) rfl hc81 ?_
   refine JC.skip (JQ.go (JC.seq (JC.block (JC.seq (JC.region (by rfl) ?_)))))
   intro hQ
   refine JL.move .none rfl ?_
   refine JL.assign .none rfl ?_
   refine JL.done hQ (JQ.go (JC.seq (JC.region (by rfl) ?_)))
   intro hQ
   refine JL.loadOwn 1 az_25 rfl rfl rfl .none rfl ?_
   refine JL.move .none rfl ?_
   refine JL.loadArr (l := taken) 0 az_85 rfl rfl taken_l .none rfl ?_
   refine JL.buildAm (kd := .u16) (A := [.int .i64 s.Width, .int .i64 s.Length, s_v2, s_v3, s_v4, .int .i64 x_77]) (v := .slice none 0 0) taken_l rfl (fun t0 t1 t2 t3 t4 t5 t6 t7 t8 t9 t10 t11 => by kernel_rfl) .none rfl ?_
   refine JL.box (cs := ([.int .i64 s.Width, .int .i64 s.Length, s_v2, s_v3, s_v4, .int .i64 x_77] : List Value) ++ (av .u16 taken ++ [.slice none 0 0])) rfl .none rfl ?_
   intro b82
   refine JL.assign .none rfl ?_
   refine JL.done hQ (JQ.go (JC.seq (JC.region (by rfl) ?_)))
   intro hQ
   refine JL.move .none rfl ?_
   refine JL.newNil (e := 62) (sz := 3) ?_
   obtain ⟨y84, hy84, hF⟩ := bind_some hF
   refine JL.callW (fun w hs => c_lays_cloth_fill n H78 s s_v2 (SL.mono R_Cell_mono hs78 hs_2) s_v3 (SL.mono R_Cell_mono hs78 hs_3) s_v4 (SL.mono R_Panel_mono hs78 hs_4) x_77 taken taken_l ([] : List Place) (.slice none 0 0) [] CH.nil b82 _ _ y84 hy84 _ w hs) rfl en_69 .none rfl ?_
   rintro _ H85 _ _ ⟨rfl, hs85, lv86, lx87, gx88, rfl, rfl, hch89, htl90, hbk91⟩
   refine JL.takeG 1 ?_
   refine JL.done hQ (JQ.go (JC.fresh (fun f => f 2 = .pointer (some ⟨b1, 0, none⟩) ∧ f 3 = .pointer (some ⟨b2, 0, none⟩) ∧ f 6 = .int .i64 x_77 ∧ f 7 = .pointer (some ⟨b82, 0, none⟩) ∧ f 10 = .int .i64 (w64 (s.Length + 1)) ∧ f 11 = .int .i64 x_77 ∧ f 20 = .bool y84.1) ⟨rfl, rfl, rfl, rfl, rfl, rfl, rfl⟩ ?_))
   rintro f ⟨hf2, hf3, hf6, hf7, hf10, hf11, hf20⟩
   refine (JC.norm (i := 2) hf2 (JC.norm (i := 3) hf3 (JC.norm (i := 6) hf6 (JC.norm (i := 7) hf7 (JC.norm (i := 10) hf10 (JC.norm (i := 11) hf11 (JC.norm (i := 20) hf20 ?_)))))))
   rcases ite_some hF with ⟨hc92, hF⟩ | ⟨hc92, hF⟩
   ·refine JC.cond_t (b := y84.1) rfl hc92 ?_
    refine JC.seq (JC.draw (by rfl) mo_ (by kernel_rfl) ?_)
    intro hQ
    refine JL.move .none rfl ?_
    refine JL.move .none rfl ?_
    refine JL.nilCheck rfl .none rfl ?_
    refine JL.fieldAddr fo_106_3 rfl .none rfl ?_
    refine JL.loadOwn 0 az_54 rfl rfl (loadw_amb htl90) .none rfl ?_
    refine JL.assign .none rfl ?_
    refine JL.assign .none rfl ?_
    refine JL.doneQ hQ ?_
    refine JQ.go (JC.fresh (fun f => f 4 = .int .i64 x_77 ∧ f 5 = lv86) ⟨rfl, rfl⟩ ?_)
    rintro f ⟨hf4, hf5⟩
    refine (JC.norm (i := 4) hf4 (JC.norm (i := 5) hf5 ?_))
    refine JC.ret (JQ.ret_block (JQ.ret_then (JQ.ret_then (JQ.ret_block (JQ.ret_join (JQ.ret_then ?_))))))
    obtain rfl := Option.some.inj hF
    have ehr79 := hr79 _ rfl
    subst ehr79
    have hF := hKr48
    try dsimp only at hF
    refine JQ.freezeG 0 (R := R_Place) rfl R_Place_mono hch89 rfl ?_
    intro H93 hs93 hg94
    obtain rfl := Option.some.inj hF
    exact JQ.outH rfl (.tmp (.tmp .nil)) ⟨lv86, rfl, hg94⟩
   ·refine JC.cond_f (b := y84.1) rfl hc92 ?_
    refine JC.skip (JQ.normal_block (JQ.go (JC.region (by rfl) ?_)))
    intro hQ
    refine JL.bin rfl rfl rfl .none rfl ?_
    refine JL.move .none rfl ?_
    refine JL.done hQ ?_
    obtain rfl := Option.some.inj hF
    refine JQ.mask [false, true, true] [false] ?_
    exact JQ.next rfl ⟨rfl, rfl, rfl, rfl, rfl, rfl, (HSub.trans hs78 hs85)⟩
  ·refine JC.cond_f (b := decide (x_77 < (w64 (s.Length + 1)))) rfl hc81 ?_
   refine JC.exit (JQ.exit_then (JQ.exit_then (JQ.exit_block ?_)))
   obtain rfl := Option.some.inj hF
   have ehr79 := hr79 _ rfl
   subst ehr79
   refine JQ.mask [false, false] [] ?_
   exact JQ.join () ⟨rfl, rfl, hs78, rfl⟩
 ·rintro _ H47 f bs gs ⟨rfl, rfl, hs47, rfl⟩
  have hF := hKr48
  try dsimp only at hF
  refine JQ.go (JC.seq (JC.region (by rfl) ?_))
  intro hQ
  refine JL.assign .none rfl ?_
  refine JL.assign .none rfl ?_
  refine JL.done hQ (JQ.go (JC.ret ?_))
  obtain rfl := Option.some.inj hF
  exact JQ.outH rfl (.tmp (.tmp .nil)) ⟨(.slice none 0 0), rfl, SL.nil⟩
-- 43 ferrule/lays.sure
def F_lays_sure (n : Nat) (s : Lap) : Option (Int × (List Place) × Int) :=
 (F_lays_Check n s).bind fun y2 => if (y2 != 0) = true then (some (0, ([] : List Place), y2)) else ((F_lays_cellsOf n [s.Faults, s.Flaws]).bind fun y17 => (lenck 12 y17).bind fun u18 => (F_lays_least n s y17).bind fun y19 => if decide (y19.1 < 0) = true then (some (0, ([] : List Place), 3)) else (some (y19.1, y19.2, 0)))
theorem c_lays_sure (n : Nat) (H : Hp) (s : Lap) (s_v2 : Value) (hs_2 : SL H 2 R_Cell s_v2 s.Faults) (s_v3 : Value) (hs_3 : SL H 2 R_Cell s_v3 s.Flaws) (s_v4 : Value) (hs_4 : SL H 1 R_Panel s_v4 s.Panels) (y : Int × (List Place) × Int) (hF : F_lays_sure n s = some y) : HC Try.prog 43 [.agg [.int .i64 s.Width, .int .i64 s.Length, s_v2, s_v3, s_v4].toArray] H (fun H' v => ∃ rb_v0 : Value, v = .tuple [.int .i64 y.1, rb_v0, .int .i64 y.2.2].toArray ∧ SL H' 3 R_Place rb_v0 y.2.1) := by
 rw [F_lays_sure] at hF
 refine HC.of (N := 28) Try.func43 rfl rfl rfl fun w => ?_
 refine JC.seq (JC.region (by rfl) ?_)
 intro hQ
 refine JL.box (cs := [.int .i64 s.Width, .int .i64 s.Length, s_v2, s_v3, s_v4]) rfl .none rfl ?_
 intro b1
 refine JL.assign .none rfl ?_
 refine JL.assign .none rfl ?_
 refine JL.assign .none rfl ?_
 refine JL.done hQ (JQ.go (JC.seq (JC.seq (JC.region (by rfl) ?_))))
 intro hQ
 refine JL.loadOwn 0 az_25 rfl rfl rfl .none rfl ?_
 obtain ⟨y2, hy2, hF⟩ := bind_some hF
 refine JL.callS (c_lays_Check n H s s_v2 hs_2 s_v3 hs_3 s_v4 hs_4 y2 hy2) rfl en_33 .none rfl ?_
 refine JL.assign .none rfl ?_
 refine JL.done hQ (JQ.go (JC.seq (JC.region (by rfl) ?_)))
 intro hQ
 refine JL.move .none rfl ?_
 refine JL.bin rfl rfl rfl .none rfl ?_
 refine JL.done hQ (JQ.go ?_)
 rcases ite_some hF with ⟨hc3, hF⟩ | ⟨hc3, hF⟩
 ·refine JC.cond_t (b := (y2 != 0)) rfl hc3 ?_
  refine JC.seq (JC.region (by rfl) ?_)
  intro hQ
  refine JL.move .none rfl ?_
  refine JL.assign .none rfl ?_
  refine JL.assign .none rfl ?_
  refine JL.assign .none rfl ?_
  refine JL.done hQ (JQ.go (JC.ret (JQ.ret_then ?_)))
  obtain rfl := Option.some.inj hF
  exact JQ.outH rfl (.tmp (.tmp (.tmp .nil))) ⟨(.slice none 0 0), rfl, SL.nil⟩
 ·refine JC.cond_f (b := (y2 != 0)) rfl hc3 ?_
  refine JC.skip (JQ.go (JC.seq ?_))
  obtain ⟨a4, c5, rfl, hh6⟩ := hs_2
  have hs_2 : SL H 2 R_Cell (.slice a4 s.Faults.length c5) s.Faults := ⟨a4, c5, rfl, hh6⟩
  obtain ⟨a7, c8, rfl, hh9⟩ := hs_3
  have hs_3 : SL H 2 R_Cell (.slice a7 s.Flaws.length c8) s.Flaws := ⟨a7, c8, rfl, hh9⟩
  obtain ⟨a10, c11, rfl, hh12⟩ := hs_4
  have hs_4 : SL H 1 R_Panel (.slice a10 s.Panels.length c11) s.Panels := ⟨a10, c11, rfl, hh12⟩
  obtain ⟨y17, hy17, hF⟩ := bind_some hF
  obtain ⟨u18, hu18, hF⟩ := bind_some hF
  obtain ⟨y19, hy19, hF⟩ := bind_some hF
  refine JC.mixed 13 13 #[false, false, false, false, false, false, false, false, false, false, false, false, false] [(b1, .cells [.int .i64 s.Width, .int .i64 s.Length, (.slice a4 s.Faults.length c5), (.slice a7 s.Flaws.length c8), (.slice a10 s.Panels.length c11)].toArray 25)] (by rfl) mo_ (by kernel_rfl) (by kernel_rfl) ?_
  intro hQ hE
  refine JA.take 0 (listed' := #[true, false, false, false, false, false, false, false, false, false, false, false, false]) hQ rfl (by kernel_rfl) (by kernel_rfl) (by kernel_rfl) (by kernel_rfl) (by kernel_rfl) hE (HSub.refl _) (.cons_cons _ (List.nil_sublist _)) ?_
  refine JL.loadOwn 0 az_25 rfl rfl rfl .none rfl ?_
  refine JA.cont ?_
  refine JA.take 1 (listed' := #[true, true, false, false, false, false, false, false, false, false, false, false, false]) hQ rfl (by kernel_rfl) (by kernel_rfl) (by kernel_rfl) (by kernel_rfl) (by kernel_rfl) hE (HSub.refl _) (.cons_cons _ (List.nil_sublist _)) ?_
  refine JL.fieldAddr fo_25_2 rfl .none rfl ?_
  refine JA.cont ?_
  refine JA.take 2 (listed' := #[true, true, true, false, false, false, false, false, false, false, false, false, false]) hQ rfl (by kernel_rfl) (by kernel_rfl) (by kernel_rfl) (by kernel_rfl) (by kernel_rfl) hE (HSub.refl _) (.cons_cons _ (List.nil_sublist _)) ?_
  refine JL.loadOwn 0 az_22 rfl rfl rfl .none rfl ?_
  refine JA.cont ?_
  refine JA.take 3 (listed' := #[true, true, true, true, false, false, false, false, false, false, false, false, false]) hQ rfl (by kernel_rfl) (by kernel_rfl) (by kernel_rfl) (by kernel_rfl) (by kernel_rfl) hE (HSub.refl _) (.cons_cons _ (List.nil_sublist _)) ?_
  refine JL.fieldAddr fo_25_3 rfl .none rfl ?_
  refine JA.cont ?_
  refine JA.take 4 (listed' := #[true, true, true, true, true, false, false, false, false, false, false, false, false]) hQ rfl (by kernel_rfl) (by kernel_rfl) (by kernel_rfl) (by kernel_rfl) (by kernel_rfl) hE (HSub.refl _) (.cons_cons _ (List.nil_sublist _)) ?_
  refine JL.loadOwn 0 az_22 rfl rfl rfl .none rfl ?_
  refine JA.cont ?_
  refine JA.many [5] (by kernel_rfl) (by simp) (all_one ⟨_, #[true, true, true, true, true, true, false, false, false, false, false, false, false], rfl, (by kernel_rfl), ?_⟩)
  refine JL.buildSlice (e := 22) (l := [(.slice a4 s.Faults.length c5), (.slice a7 s.Flaws.length c8)]) (by kernel_rfl) .none rfl ?_
  intro b28
  refine JA.after hE (HSub.refl _) (.cons _ (.cons_cons _ (List.nil_sublist _))) ?_
  refine JA.many [6] (by kernel_rfl) (by simp) (all_one ⟨_, #[true, true, true, true, true, true, true, false, false, false, false, false, false], rfl, (by kernel_rfl), ?_⟩)
  refine JL.freezeC 0 (l := [(.slice a4 s.Faults.length c5), (.slice a7 s.Flaws.length c8)]) rfl ?_
  intro H29 hs29 hc30
  have hg31 : SL H29 1 (RSl 2 R_Cell) (.slice (some ⟨b28, 0, none⟩) 2 2) [s.Faults, s.Flaws] := CH.sl (l := [s.Faults, s.Flaws]) (CH.cons (cs := [(.slice a4 s.Faults.length c5)]) rfl ⟨_, rfl, (SL.mono R_Cell_mono hs29 hs_2)⟩ (CH.cons (cs := [(.slice a7 s.Flaws.length c8)]) rfl ⟨_, rfl, (SL.mono R_Cell_mono hs29 hs_3)⟩ CH.nil)) hc30 ⟨by simp, by simp⟩
  refine JL.callS (c_lays_cellsOf n H29 [s.Faults, s.Flaws] (.slice (some ⟨b28, 0, none⟩) 2 2) hg31 y17 hy17) rfl en_45 .none rfl ?_
  refine JA.after hE hs29 (.cons_cons _ (List.nil_sublist _)) ?_
  refine JA.many [7] (by kernel_rfl) (by simp) (all_one ⟨_, #[true, true, true, true, true, true, true, true, false, false, false, false, false], rfl, (by kernel_rfl), ?_⟩)
  refine JL.callH (c_lays_least n H29 s (.slice a4 s.Faults.length c5) (SL.mono R_Cell_mono hs29 hs_2) (.slice a7 s.Flaws.length c8) (SL.mono R_Cell_mono hs29 hs_3) (.slice a10 s.Panels.length c11) (SL.mono R_Panel_mono hs29 hs_4) y17 (lenck_some hu18) y19 hy19) rfl en_44 .none rfl ?_
  rintro H32 vv33 hs32 ⟨y19b_v0, rfl, hy19b_0⟩
  refine JA.after hE (HSub.trans hs29 hs32) (.cons_cons _ (List.nil_sublist _)) ?_
  refine JA.take 8 (listed' := #[true, true, true, true, true, true, true, true, true, false, false, false, false]) hQ rfl (by kernel_rfl) (by kernel_rfl) (by kernel_rfl) (by kernel_rfl) (by kernel_rfl) hE (HSub.trans hs29 hs32) (.cons_cons _ (List.nil_sublist _)) ?_
  refine JL.move .none rfl ?_
  refine JA.cont ?_
  refine JA.take 9 (listed' := #[true, true, true, true, true, true, true, true, true, true, false, false, false]) hQ rfl (by kernel_rfl) (by kernel_rfl) (by kernel_rfl) (by kernel_rfl) (by kernel_rfl) hE (HSub.trans hs29 hs32) (.cons_cons _ (List.nil_sublist _)) ?_
  refine JL.extract rfl rfl .none rfl ?_
  refine JA.cont ?_
  refine JA.take 10 (listed' := #[true, true, true, true, true, true, true, true, true, true, true, false, false]) hQ rfl (by kernel_rfl) (by kernel_rfl) (by kernel_rfl) (by kernel_rfl) (by kernel_rfl) hE (HSub.trans hs29 hs32) (.cons_cons _ (List.nil_sublist _)) ?_
  refine JL.extract rfl rfl .none rfl ?_
  refine JA.cont ?_
  refine JA.take 11 (listed' := #[true, true, true, true, true, true, true, true, true, true, true, true, false]) hQ rfl (by kernel_rfl) (by kernel_rfl) (by kernel_rfl) (by kernel_rfl) (by kernel_rfl) hE (HSub.trans hs29 hs32) (.cons_cons _ (List.nil_sublist _)) ?_
  refine JL.assign .none rfl ?_
  refine JA.cont ?_
  refine JA.take 12 (listed' := #[true, true, true, true, true, true, true, true, true, true, true, true, true]) hQ rfl (by kernel_rfl) (by kernel_rfl) (by kernel_rfl) (by kernel_rfl) (by kernel_rfl) hE (HSub.trans hs29 hs32) (.cons_cons _ (List.nil_sublist _)) ?_
  refine JL.assign .none rfl ?_
  refine JA.cont ?_
  refine JA.done hQ (by kernel_rfl) ?_
  refine JQ.go (JC.fresh (fun f => f 2 = .int .i64 0 ∧ f 3 = .slice none 0 0 ∧ f 4 = .int .i64 0 ∧ f 6 = .int .i64 y19.1 ∧ f 7 = y19b_v0) ⟨rfl, rfl, rfl, rfl, rfl⟩ ?_)
  rintro f ⟨hf2, hf3, hf4, hf6, hf7⟩
  refine (JC.norm (i := 2) hf2 (JC.norm (i := 3) hf3 (JC.norm (i := 4) hf4 (JC.norm (i := 6) hf6 (JC.norm (i := 7) hf7 ?_)))))
  refine JC.seq (JC.seq (JC.region (by rfl) ?_))
  intro hQ
  refine JL.move .none rfl ?_
  refine JL.bin rfl rfl rfl .none rfl ?_
  refine JL.done hQ (JQ.go ?_)
  rcases ite_some hF with ⟨hc34, hF⟩ | ⟨hc34, hF⟩
  ·refine JC.cond_t (b := decide (y19.1 < 0)) rfl hc34 ?_
   refine JC.seq (JC.region (by rfl) ?_)
   intro hQ
   refine JL.assign .none rfl ?_
   refine JL.assign .none rfl ?_
   refine JL.assign .none rfl ?_
   refine JL.done hQ (JQ.go (JC.ret (JQ.ret_then ?_)))
   obtain rfl := Option.some.inj hF
   exact JQ.outH rfl (.tmp (.tmp (.tmp .nil))) ⟨(.slice none 0 0), rfl, SL.nil⟩
  ·refine JC.cond_f (b := decide (y19.1 < 0)) rfl hc34 ?_
   refine JC.skip (JQ.go (JC.seq (JC.region (by rfl) ?_)))
   intro hQ
   refine JL.move .none rfl ?_
   refine JL.move .none rfl ?_
   refine JL.assign .none rfl ?_
   refine JL.assign .none rfl ?_
   refine JL.assign .none rfl ?_
   refine JL.done hQ (JQ.go (JC.ret ?_))
   obtain rfl := Option.some.inj hF
   exact JQ.outH rfl (.tmp (.tmp (.tmp .nil))) ⟨y19b_v0, rfl, hy19b_0⟩
-- 14 ferrule/lays.Least
def F_lays_Least (n : Nat) (s : Lap) : Option (Int × Int) :=
 (F_lays_sure n s).bind fun y2 => some (y2.1, y2.2.2)
theorem c_lays_Least (n : Nat) (H : Hp) (s : Lap) (s_v2 : Value) (hs_2 : SL H 2 R_Cell s_v2 s.Faults) (s_v3 : Value) (hs_3 : SL H 2 R_Cell s_v3 s.Flaws) (s_v4 : Value) (hs_4 : SL H 1 R_Panel s_v4 s.Panels) (y : Int × Int) (hF : F_lays_Least n s = some y) : SC Try.prog 14 [.agg [.int .i64 s.Width, .int .i64 s.Length, s_v2, s_v3, s_v4].toArray] (.tuple [.int .i64 y.1, .int .i64 y.2].toArray) H := by
 rw [F_lays_Least] at hF
 refine SC.of (N := 15) Try.func14 rfl rfl rfl fun w => ?_
 refine JC.seq (JC.region (by rfl) ?_)
 intro hQ
 refine JL.box (cs := [.int .i64 s.Width, .int .i64 s.Length, s_v2, s_v3, s_v4]) rfl .none rfl ?_
 intro b1
 refine JL.assign .none rfl ?_
 refine JL.assign .none rfl ?_
 refine JL.done hQ (JQ.go (JC.seq (JC.region (by rfl) ?_)))
 intro hQ
 refine JL.loadOwn 0 az_25 rfl rfl rfl .none rfl ?_
 obtain ⟨y2, hy2, hF⟩ := bind_some hF
 refine JL.callH (c_lays_sure n H s s_v2 hs_2 s_v3 hs_3 s_v4 hs_4 y2 hy2) rfl en_43 .none rfl ?_
 rintro H3 vv4 hs3 ⟨y2b_v0, rfl, hy2b_0⟩
 refine JL.move .none rfl ?_
 refine JL.extract rfl rfl .none rfl ?_
 refine JL.extract rfl rfl .none rfl ?_
 refine JL.extract rfl rfl .none rfl ?_
 refine JL.assign .none rfl ?_
 refine JL.assign .none rfl ?_
 refine JL.assign .none rfl ?_
 refine JL.done hQ (JQ.go (JC.seq (JC.region (by rfl) ?_)))
 intro hQ
 refine JL.move .none rfl ?_
 refine JL.move .none rfl ?_
 refine JL.assign .none rfl ?_
 refine JL.assign .none rfl ?_
 refine JL.done hQ (JQ.go (JC.fresh (fun f => f 2 = .int .i64 y2.1 ∧ f 3 = .int .i64 y2.2.2) ⟨rfl, rfl⟩ ?_))
 rintro f ⟨hf2, hf3⟩
 refine (JC.norm (i := 2) hf2 (JC.norm (i := 3) hf3 ?_))
 refine JC.ret ?_
 obtain rfl := Option.some.inj hF
 exact JQ.outS rfl (.tmp (.tmp .nil)) rfl
-- 17 ferrule/lays.Hopes
def F_lays_Hopes (n : Nat) (s : Lap) : Option (Int × Int) :=
 (F_lays_Check n s).bind fun y2 => if (y2 != 0) = true then (some (0, y2)) else ((F_lays_cellsOf n [s.Faults]).bind fun y17 => (lenck 12 y17).bind fun u18 => (F_lays_least n s y17).bind fun y19 => if decide (y19.1 < 0) = true then (some (0, 3)) else (some (y19.1, 0)))
theorem c_lays_Hopes (n : Nat) (H : Hp) (s : Lap) (s_v2 : Value) (hs_2 : SL H 2 R_Cell s_v2 s.Faults) (s_v3 : Value) (hs_3 : SL H 2 R_Cell s_v3 s.Flaws) (s_v4 : Value) (hs_4 : SL H 1 R_Panel s_v4 s.Panels) (y : Int × Int) (hF : F_lays_Hopes n s = some y) : SC Try.prog 17 [.agg [.int .i64 s.Width, .int .i64 s.Length, s_v2, s_v3, s_v4].toArray] (.tuple [.int .i64 y.1, .int .i64 y.2].toArray) H := by
 rw [F_lays_Hopes] at hF
 refine SC.of (N := 24) Try.func17 rfl rfl rfl fun w => ?_
 refine JC.seq (JC.region (by rfl) ?_)
 intro hQ
 refine JL.box (cs := [.int .i64 s.Width, .int .i64 s.Length, s_v2, s_v3, s_v4]) rfl .none rfl ?_
 intro b1
 refine JL.assign .none rfl ?_
 refine JL.assign .none rfl ?_
 refine JL.done hQ (JQ.go (JC.seq (JC.seq (JC.region (by rfl) ?_))))
 intro hQ
 refine JL.loadOwn 0 az_25 rfl rfl rfl .none rfl ?_
 obtain ⟨y2, hy2, hF⟩ := bind_some hF
 refine JL.callS (c_lays_Check n H s s_v2 hs_2 s_v3 hs_3 s_v4 hs_4 y2 hy2) rfl en_33 .none rfl ?_
 refine JL.assign .none rfl ?_
 refine JL.done hQ (JQ.go (JC.seq (JC.region (by rfl) ?_)))
 intro hQ
 refine JL.move .none rfl ?_
 refine JL.bin rfl rfl rfl .none rfl ?_
 refine JL.done hQ (JQ.go ?_)
 rcases ite_some hF with ⟨hc3, hF⟩ | ⟨hc3, hF⟩
 ·refine JC.cond_t (b := (y2 != 0)) rfl hc3 ?_
  refine JC.seq (JC.region (by rfl) ?_)
  intro hQ
  refine JL.move .none rfl ?_
  refine JL.assign .none rfl ?_
  refine JL.assign .none rfl ?_
  refine JL.done hQ (JQ.go (JC.ret (JQ.ret_then ?_)))
  obtain rfl := Option.some.inj hF
  exact JQ.outS rfl (.tmp (.tmp .nil)) rfl
 ·refine JC.cond_f (b := (y2 != 0)) rfl hc3 ?_
  refine JC.skip (JQ.go (JC.seq ?_))
  obtain ⟨a4, c5, rfl, hh6⟩ := hs_2
  have hs_2 : SL H 2 R_Cell (.slice a4 s.Faults.length c5) s.Faults := ⟨a4, c5, rfl, hh6⟩
  obtain ⟨a7, c8, rfl, hh9⟩ := hs_3
  have hs_3 : SL H 2 R_Cell (.slice a7 s.Flaws.length c8) s.Flaws := ⟨a7, c8, rfl, hh9⟩
  obtain ⟨a10, c11, rfl, hh12⟩ := hs_4
  have hs_4 : SL H 1 R_Panel (.slice a10 s.Panels.length c11) s.Panels := ⟨a10, c11, rfl, hh12⟩
  obtain ⟨y17, hy17, hF⟩ := bind_some hF
  obtain ⟨u18, hu18, hF⟩ := bind_some hF
  obtain ⟨y19, hy19, hF⟩ := bind_some hF
  refine JC.mixed 11 11 #[false, false, false, false, false, false, false, false, false, false, false] [(b1, .cells [.int .i64 s.Width, .int .i64 s.Length, (.slice a4 s.Faults.length c5), (.slice a7 s.Flaws.length c8), (.slice a10 s.Panels.length c11)].toArray 25)] (by rfl) mo_ (by kernel_rfl) (by kernel_rfl) ?_
  intro hQ hE
  refine JA.take 0 (listed' := #[true, false, false, false, false, false, false, false, false, false, false]) hQ rfl (by kernel_rfl) (by kernel_rfl) (by kernel_rfl) (by kernel_rfl) (by kernel_rfl) hE (HSub.refl _) (.cons_cons _ (List.nil_sublist _)) ?_
  refine JL.loadOwn 0 az_25 rfl rfl rfl .none rfl ?_
  refine JA.cont ?_
  refine JA.take 1 (listed' := #[true, true, false, false, false, false, false, false, false, false, false]) hQ rfl (by kernel_rfl) (by kernel_rfl) (by kernel_rfl) (by kernel_rfl) (by kernel_rfl) hE (HSub.refl _) (.cons_cons _ (List.nil_sublist _)) ?_
  refine JL.fieldAddr fo_25_2 rfl .none rfl ?_
  refine JA.cont ?_
  refine JA.take 2 (listed' := #[true, true, true, false, false, false, false, false, false, false, false]) hQ rfl (by kernel_rfl) (by kernel_rfl) (by kernel_rfl) (by kernel_rfl) (by kernel_rfl) hE (HSub.refl _) (.cons_cons _ (List.nil_sublist _)) ?_
  refine JL.loadOwn 0 az_22 rfl rfl rfl .none rfl ?_
  refine JA.cont ?_
  refine JA.many [3] (by kernel_rfl) (by simp) (all_one ⟨_, #[true, true, true, true, false, false, false, false, false, false, false], rfl, (by kernel_rfl), ?_⟩)
  refine JL.buildSlice (e := 22) (l := [(.slice a4 s.Faults.length c5)]) (by kernel_rfl) .none rfl ?_
  intro b28
  refine JA.after hE (HSub.refl _) (.cons _ (.cons_cons _ (List.nil_sublist _))) ?_
  refine JA.many [4] (by kernel_rfl) (by simp) (all_one ⟨_, #[true, true, true, true, true, false, false, false, false, false, false], rfl, (by kernel_rfl), ?_⟩)
  refine JL.freezeC 0 (l := [(.slice a4 s.Faults.length c5)]) rfl ?_
  intro H29 hs29 hc30
  have hg31 : SL H29 1 (RSl 2 R_Cell) (.slice (some ⟨b28, 0, none⟩) 1 1) [s.Faults] := CH.sl (l := [s.Faults]) (CH.cons (cs := [(.slice a4 s.Faults.length c5)]) rfl ⟨_, rfl, (SL.mono R_Cell_mono hs29 hs_2)⟩ CH.nil) hc30 ⟨by simp, by simp⟩
  refine JL.callS (c_lays_cellsOf n H29 [s.Faults] (.slice (some ⟨b28, 0, none⟩) 1 1) hg31 y17 hy17) rfl en_45 .none rfl ?_
  refine JA.after hE hs29 (.cons_cons _ (List.nil_sublist _)) ?_
  refine JA.many [5] (by kernel_rfl) (by simp) (all_one ⟨_, #[true, true, true, true, true, true, false, false, false, false, false], rfl, (by kernel_rfl), ?_⟩)
  refine JL.callH (c_lays_least n H29 s (.slice a4 s.Faults.length c5) (SL.mono R_Cell_mono hs29 hs_2) (.slice a7 s.Flaws.length c8) (SL.mono R_Cell_mono hs29 hs_3) (.slice a10 s.Panels.length c11) (SL.mono R_Panel_mono hs29 hs_4) y17 (lenck_some hu18) y19 hy19) rfl en_44 .none rfl ?_
  rintro H32 vv33 hs32 ⟨y19b_v0, rfl, hy19b_0⟩
  refine JA.after hE (HSub.trans hs29 hs32) (.cons_cons _ (List.nil_sublist _)) ?_
  refine JA.take 6 (listed' := #[true, true, true, true, true, true, true, false, false, false, false]) hQ rfl (by kernel_rfl) (by kernel_rfl) (by kernel_rfl) (by kernel_rfl) (by kernel_rfl) hE (HSub.trans hs29 hs32) (.cons_cons _ (List.nil_sublist _)) ?_
  refine JL.move .none rfl ?_
  refine JA.cont ?_
  refine JA.take 7 (listed' := #[true, true, true, true, true, true, true, true, false, false, false]) hQ rfl (by kernel_rfl) (by kernel_rfl) (by kernel_rfl) (by kernel_rfl) (by kernel_rfl) hE (HSub.trans hs29 hs32) (.cons_cons _ (List.nil_sublist _)) ?_
  refine JL.extract rfl rfl .none rfl ?_
  refine JA.cont ?_
  refine JA.take 8 (listed' := #[true, true, true, true, true, true, true, true, true, false, false]) hQ rfl (by kernel_rfl) (by kernel_rfl) (by kernel_rfl) (by kernel_rfl) (by kernel_rfl) hE (HSub.trans hs29 hs32) (.cons_cons _ (List.nil_sublist _)) ?_
  refine JL.extract rfl rfl .none rfl ?_
  refine JA.cont ?_
  refine JA.take 9 (listed' := #[true, true, true, true, true, true, true, true, true, true, false]) hQ rfl (by kernel_rfl) (by kernel_rfl) (by kernel_rfl) (by kernel_rfl) (by kernel_rfl) hE (HSub.trans hs29 hs32) (.cons_cons _ (List.nil_sublist _)) ?_
  refine JL.assign .none rfl ?_
  refine JA.cont ?_
  refine JA.take 10 (listed' := #[true, true, true, true, true, true, true, true, true, true, true]) hQ rfl (by kernel_rfl) (by kernel_rfl) (by kernel_rfl) (by kernel_rfl) (by kernel_rfl) hE (HSub.trans hs29 hs32) (.cons_cons _ (List.nil_sublist _)) ?_
  refine JL.assign .none rfl ?_
  refine JA.cont ?_
  refine JA.done hQ (by kernel_rfl) ?_
  refine JQ.go (JC.fresh (fun f => f 2 = .int .i64 0 ∧ f 3 = .int .i64 0 ∧ f 5 = .int .i64 y19.1) ⟨rfl, rfl, rfl⟩ ?_)
  rintro f ⟨hf2, hf3, hf5⟩
  refine (JC.norm (i := 2) hf2 (JC.norm (i := 3) hf3 (JC.norm (i := 5) hf5 ?_)))
  refine JC.seq (JC.seq (JC.region (by rfl) ?_))
  intro hQ
  refine JL.move .none rfl ?_
  refine JL.bin rfl rfl rfl .none rfl ?_
  refine JL.done hQ (JQ.go ?_)
  rcases ite_some hF with ⟨hc34, hF⟩ | ⟨hc34, hF⟩
  ·refine JC.cond_t (b := decide (y19.1 < 0)) rfl hc34 ?_
   refine JC.seq (JC.region (by rfl) ?_)
   intro hQ
   refine JL.assign .none rfl ?_
   refine JL.assign .none rfl ?_
   refine JL.done hQ (JQ.go (JC.ret (JQ.ret_then ?_)))
   obtain rfl := Option.some.inj hF
   exact JQ.outS rfl (.tmp (.tmp .nil)) rfl
  ·refine JC.cond_f (b := decide (y19.1 < 0)) rfl hc34 ?_
   refine JC.skip (JQ.go (JC.seq (JC.region (by rfl) ?_)))
   intro hQ
   refine JL.move .none rfl ?_
   refine JL.assign .none rfl ?_
   refine JL.assign .none rfl ?_
   refine JL.done hQ (JQ.go (JC.ret ?_))
   obtain rfl := Option.some.inj hF
   exact JQ.outS rfl (.tmp (.tmp .nil)) rfl
-- 47 slices.Clone[[]ferrule/api.Cell,ferrule/api.Cell]
def F_slices_Clone___api_Cell_api_Cell_ (n : Nat) (s : List Cell) : Option (List Cell) := lim s
theorem c_slices_Clone___api_Cell_api_Cell_ (n : Nat) (H : Hp) (s : List Cell) (s_v0 : Value) (hs_0 : SL H 2 R_Cell s_v0 s) (y : List Cell) (hF : F_slices_Clone___api_Cell_api_Cell_ n s = some y) : OC Try.prog 47 [s_v0] H 27 2 (fun m xs => m = y.length ∧ CH H 2 R_Cell xs y) := by
 rw [F_slices_Clone___api_Cell_api_Cell_] at hF
 have hl : lim (([] : List Cell) ++ s) = some y := by rw [List.nil_append]; exact hF
 obtain ⟨rfl, _⟩ := lim_some hF
 obtain ⟨a, c, rfl, hh⟩ := id hs_0
 refine OC.of (N := 8) Try.func47 rfl rfl rfl fun w => ?_
 refine JC.seq (JC.region (by rfl) ?_)
 intro hQ
 refine JL.assign .none rfl ?_
 refine JL.done hQ (JQ.go (JC.seq (JC.seq (JC.region (by rfl) ?_))))
 intro hQ
 refine JL.move .none rfl ?_
 refine JL.eqNil ul_22 rfl rfl .none rfl ?_
 refine JL.done hQ (JQ.go ?_)
 cases a with
 | none =>
  have hnil : y = [] := by
   rcases hh.2 with h | ⟨b, o, h, _⟩
   ·exact h
   ·cases h
  subst hnil
  refine JC.cond_t (b := true) rfl rfl ?_
  refine JC.seq (JC.region (by rfl) ?_)
  intro hQ
  refine JL.assign .none rfl ?_
  refine JL.newNil (e := 27) (sz := 2) ?_
  exact JL.done hQ (JQ.go (JC.ret (JQ.ret_then (JQ.outO 0 rfl rfl rfl ⟨rfl, rfl⟩ ⟨rfl, CH.nil⟩))))
 | some ad =>
  refine JC.cond_f (b := false) rfl rfl ?_
  refine JC.skip (JQ.go (JC.seq (JC.region (by rfl) ?_)))
  intro hQ
  refine JL.emptySlice ap_22 .none rfl ?_
  intro v1
  refine JL.move .none rfl ?_
  refine JL.appD (R := R_Cell) 0 (l := ([] : List Cell)) (m := y) ap_22 rfl ⟨rfl, rfl⟩ rfl CH.nil rfl hs_0 (R_Cell_one _) hl .none rfl ?_
  intro v4 xs5 hch6
  refine JL.assign .none rfl ?_
  exact JL.done hQ (JQ.go (JC.ret (JQ.outO 0 rfl rfl rfl ⟨rfl, rfl⟩ ⟨rfl, hch6⟩)))
-- 18 ferrule/lays.Matters
def F_lays_Matters_s1 (n : Nat) (s : Lap) (y2 : Int × Int) : Int × List Int → Option ((Int × List Int) ⊕ (List Int))
 | (x_510, out_511) => if decide (x_510 < (s.Flaws.length : Int)) = true then ((F_slices_Clone___api_Cell_api_Cell_ n s.Flaws).bind fun y516 => (delck y516 x_510 (w64 (x_510 + 1))).bind fun y521 => (F_lays_cellsOf n [s.Faults, y521]).bind fun y544 => (lenck 12 y544).bind fun u545 => (F_lays_least n s y544).bind fun y546 => (if ((decide (0 ≤ y546.1)) && ((y2.2 != 0) || (decide (y546.1 < y2.1)))) = true then ((lim (out_511 ++ [x_510])).bind fun l590 => some l590) else (some out_511)).bind fun out_585 => some (Sum.inl ((w64 (x_510 + 1)), out_585))) else (some (Sum.inr out_511))
def F_lays_Matters (n : Nat) (s : Lap) : Option ((List Int) × Int) :=
 (F_lays_Least n s).bind fun y2 => if ((y2.2 != 0) && (y2.2 != 3)) = true then (some (([] : List Int), y2.2)) else ((loopO n (F_lays_Matters_s1 n s y2) (0, ([] : List Int))).bind fun out_343 => some (out_343, 0))
theorem c_lays_Matters (n : Nat) (H : Hp) (s : Lap) (s_v2 : Value) (hs_2 : SL H 2 R_Cell s_v2 s.Faults) (s_v3 : Value) (hs_3 : SL H 2 R_Cell s_v3 s.Flaws) (s_v4 : Value) (hs_4 : SL H 1 R_Panel s_v4 s.Panels) (y : (List Int) × Int) (hF : F_lays_Matters n s = some y) : HC Try.prog 18 [.agg [.int .i64 s.Width, .int .i64 s.Length, s_v2, s_v3, s_v4].toArray] H (fun H' v => ∃ ra_v0 : Value, v = .tuple [ra_v0, .int .i64 y.2].toArray ∧ SL H' 1 RInt ra_v0 y.1) := by
 rw [F_lays_Matters] at hF
 refine HC.of (N := 63) Try.func18 rfl rfl rfl fun w => ?_
 refine JC.seq (JC.region (by rfl) ?_)
 intro hQ
 refine JL.box (cs := [.int .i64 s.Width, .int .i64 s.Length, s_v2, s_v3, s_v4]) rfl .none rfl ?_
 intro b1
 refine JL.assign .none rfl ?_
 refine JL.assign .none rfl ?_
 refine JL.done hQ (JQ.go (JC.seq (JC.region (by rfl) ?_)))
 intro hQ
 refine JL.loadOwn 0 az_25 rfl rfl rfl .none rfl ?_
 obtain ⟨y2, hy2, hF⟩ := bind_some hF
 refine JL.callS (c_lays_Least n H s s_v2 hs_2 s_v3 hs_3 s_v4 hs_4 y2 hy2) rfl en_14 .none rfl ?_
 refine JL.move .none rfl ?_
 refine JL.extract rfl rfl .none rfl ?_
 refine JL.extract rfl rfl .none rfl ?_
 refine JL.assign .none rfl ?_
 refine JL.assign .none rfl ?_
 refine JL.done hQ (JQ.go (JC.seq (JC.seq (JC.region (by rfl) ?_))))
 intro hQ
 refine JL.move .none rfl ?_
 refine JL.bin rfl rfl rfl .none rfl ?_
 refine JL.move .none rfl ?_
 refine JL.cut 3 (fun f => f 1 = .pointer (some ⟨b1, 0, none⟩) ∧ f 4 = .int .i64 y2.1 ∧ f 5 = .int .i64 y2.2 ∧ f 21 = .bool ((y2.2 != 0) && (y2.2 != 3))) ?_ ?_
 ·intro hJ3
  rcases bcases (y2.2 != 0) with hc4 | hc4
  ·skip
   refine JL.move (.some rfl rfl rfl hc4) rfl ?_
   refine JL.bin rfl rfl rfl (.some rfl rfl rfl hc4) rfl ?_
   refine JL.pick_t (b := (y2.2 != 0)) rfl hc4 .none rfl ?_
   exact hJ3 _ ⟨rfl, rfl, rfl, and_t hc4 rfl⟩
  ·skip
   refine JL.skip (.bool rfl rfl rfl hc4) rfl ?_
   refine JL.skip (.bool rfl rfl rfl hc4) rfl ?_
   refine JL.pick_f (b := (y2.2 != 0)) rfl hc4 .none rfl ?_
   exact hJ3 _ ⟨rfl, rfl, rfl, and_f hc4 rfl⟩
 ·rintro f ⟨hf1, hf4, hf5, hf21⟩
  refine (JL.norm (i := 1) hf1 (JL.norm (i := 4) hf4 (JL.norm (i := 5) hf5 (JL.norm (i := 21) hf21 ?_))))
  refine JL.done hQ (JQ.go ?_)
  rcases ite_some hF with ⟨hc5, hF⟩ | ⟨hc5, hF⟩
  ·refine JC.cond_t (b := ((y2.2 != 0) && (y2.2 != 3))) rfl hc5 ?_
   refine JC.seq (JC.region (by rfl) ?_)
   intro hQ
   refine JL.move .none rfl ?_
   refine JL.assign .none rfl ?_
   refine JL.assign .none rfl ?_
   refine JL.done hQ (JQ.go (JC.ret (JQ.ret_then ?_)))
   obtain rfl := Option.some.inj hF
   exact JQ.outH rfl (.tmp (.tmp .nil)) ⟨(.slice none 0 0), rfl, SL.nil⟩
  ·refine JC.cond_f (b := ((y2.2 != 0) && (y2.2 != 3))) rfl hc5 ?_
   refine JC.skip (JQ.go (JC.seq (JC.region (by rfl) ?_)))
   intro hQ
   refine JL.assign .none rfl ?_
   refine JL.done hQ (JQ.go (JC.seq (JC.seq (JC.region (by rfl) ?_))))
   intro hQ
   refine JL.fieldAddr fo_25_3 rfl .none rfl ?_
   refine JL.loadOwn 0 az_22 rfl rfl rfl .none rfl ?_
   refine JL.lenSL (R := R_Cell) ul_22 hs_3 .none rfl ?_
   refine JL.move .none rfl ?_
   refine JL.done hQ (JQ.go (JC.newNil (e := 3) (sz := 1) ?_))
   obtain ⟨r345, hlr345, hKr345⟩ := bind_some hF
   refine JC.join (fun (out_343 : List Int) H344 f bs gs => ∃ (vout_343 : Value) (xsout_343 : List Value), f 6 = vout_343 ∧ bs = [] ∧ gs = [⟨vout_343, 3, 1, out_343.length, xsout_343⟩] ∧ CH H344 1 RInt xsout_343 out_343 ∧ HSub H H344 ∧ out_343 = r345) ?_ ?_
   ·skip
    refine JC.block (JC.loop hlr345 (fun (x : Int × List Int) H512 f bs gs => match x with | (x_510, out_511) => ∃ (vout_511 : Value) (xsout_511 : List Value), f 1 = .pointer (some ⟨b1, 0, none⟩) ∧ f 4 = .int .i64 y2.1 ∧ f 5 = .int .i64 y2.2 ∧ f 6 = vout_511 ∧ f 25 = .int .i64 (s.Flaws.length : Int) ∧ f 26 = .int .i64 x_510 ∧ bs = [(b1, .cells [.int .i64 s.Width, .int .i64 s.Length, s_v2, s_v3, s_v4].toArray 25)] ∧ gs = [⟨vout_511, 3, 1, out_511.length, xsout_511⟩] ∧ CH H512 1 RInt xsout_511 out_511 ∧ HSub H H512) ⟨(.slice none 0 0), [], rfl, rfl, rfl, rfl, rfl, rfl, rfl, rfl, CH.nil, (HSub.refl _)⟩ ?_)
    rintro ⟨x_510, out_511⟩ x514 H512 f bs gs ⟨vout_511, xsout_511, hf1, hf4, hf5, hf6, hf25, hf26, rfl, rfl, hout_511, hs512⟩ hF hr513
    rw [F_lays_Matters_s1] at hF
    refine (JC.norm (i := 1) hf1 (JC.norm (i := 4) hf4 (JC.norm (i := 5) hf5 (JC.norm (i := 6) hf6 (JC.norm (i := 25) hf25 (JC.norm (i := 26) hf26 ?_))))))
    refine JC.seq (JC.region (by rfl) ?_)
    intro hQ
    refine JL.bin rfl rfl rfl .none rfl ?_
    refine JL.done hQ (JQ.go (JC.seq ?_))
    rcases ite_some hF with ⟨hc515, hF⟩ | ⟨hc515, hF⟩
    ·refine JC.cond_t (b := decide (x_510 < (s.Flaws.length : Int))) rfl hc515 ?_
     refine JC.skip (JQ.go (JC.seq (JC.block (JC.seq (JC.region (by rfl) ?_)))))
     intro hQ
     refine JL.move .none rfl ?_
     refine JL.assign .none rfl ?_
     refine JL.done hQ (JQ.go (JC.seq (JC.region (by rfl) ?_)))
     intro hQ
     refine JL.fieldAddr fo_25_3 rfl .none rfl ?_
     refine JL.loadOwn 0 az_22 rfl rfl rfl .none rfl ?_
     obtain ⟨y516, hy516, hF⟩ := bind_some hF
     refine JL.callO (c_slices_Clone___api_Cell_api_Cell_ n H512 s.Flaws s_v3 (SL.mono R_Cell_mono hs512 hs_3) y516 hy516) rfl en_47 .none rfl ?_
     rintro v517 _ xs518 ⟨rfl, hch519⟩
     refine JL.move .none rfl ?_
     refine JL.move .none rfl ?_
     refine JL.bin rfl rfl rfl .none rfl ?_
     obtain ⟨y521, hy521, hF⟩ := bind_some hF
     refine JL.callW (fun w hs => c_Delete H512 y516 v517 xs518 hch519 x_510 (w64 (x_510 + 1)) y521 hy521 hs) rfl en_46 .none rfl ?_
     rintro v522 _ _ _ ⟨rfl, rfl, xs523, rfl, hch524⟩
     refine JL.assign .none rfl ?_
     refine JL.done hQ (JQ.go (JC.fresh (fun f => f 1 = .pointer (some ⟨b1, 0, none⟩) ∧ f 4 = .int .i64 y2.1 ∧ f 5 = .int .i64 y2.2 ∧ f 6 = vout_511 ∧ f 7 = .int .i64 x_510 ∧ f 8 = v522 ∧ f 25 = .int .i64 (s.Flaws.length : Int) ∧ f 26 = .int .i64 x_510) ⟨rfl, rfl, rfl, rfl, rfl, rfl, rfl, rfl⟩ ?_))
     rintro f ⟨hf1, hf4, hf5, hf6, hf7, hf8, hf25, hf26⟩
     refine (JC.norm (i := 1) hf1 (JC.norm (i := 4) hf4 (JC.norm (i := 5) hf5 (JC.norm (i := 6) hf6 (JC.norm (i := 7) hf7 (JC.norm (i := 8) hf8 (JC.norm (i := 25) hf25 (JC.norm (i := 26) hf26 ?_))))))))
     refine JC.seq ?_
     obtain ⟨a525, c526, rfl, hh527⟩ := hs_2
     have hs_2 : SL H 2 R_Cell (.slice a525 s.Faults.length c526) s.Faults := ⟨a525, c526, rfl, hh527⟩
     obtain ⟨a528, c529, rfl, hh530⟩ := hs_3
     have hs_3 : SL H 2 R_Cell (.slice a528 s.Flaws.length c529) s.Flaws := ⟨a528, c529, rfl, hh530⟩
     obtain ⟨a531, c532, rfl, hh533⟩ := hs_4
     have hs_4 : SL H 1 R_Panel (.slice a531 s.Panels.length c532) s.Panels := ⟨a531, c532, rfl, hh533⟩
     obtain ⟨y544, hy544, hF⟩ := bind_some hF
     obtain ⟨u545, hu545, hF⟩ := bind_some hF
     obtain ⟨y546, hy546, hF⟩ := bind_some hF
     refine JC.mixed 12 12 #[false, false, false, false, false, false, false, false, false, false, false, false] [(b1, .cells [.int .i64 s.Width, .int .i64 s.Length, (.slice a525 s.Faults.length c526), (.slice a528 s.Flaws.length c529), (.slice a531 s.Panels.length c532)].toArray 25)] (by rfl) mo_ (by kernel_rfl) (by kernel_rfl) ?_
     intro hQ hE
     refine JA.take 0 (listed' := #[true, false, false, false, false, false, false, false, false, false, false, false]) hQ rfl (by kernel_rfl) (by kernel_rfl) (by kernel_rfl) (by kernel_rfl) (by kernel_rfl) hE (HSub.refl _) (.cons_cons _ (List.nil_sublist _)) ?_
     refine JL.loadOwn 0 az_25 rfl rfl rfl .none rfl ?_
     refine JA.cont ?_
     refine JA.take 1 (listed' := #[true, true, false, false, false, false, false, false, false, false, false, false]) hQ rfl (by kernel_rfl) (by kernel_rfl) (by kernel_rfl) (by kernel_rfl) (by kernel_rfl) hE (HSub.refl _) (.cons_cons _ (List.nil_sublist _)) ?_
     refine JL.fieldAddr fo_25_2 rfl .none rfl ?_
     refine JA.cont ?_
     refine JA.take 2 (listed' := #[true, true, true, false, false, false, false, false, false, false, false, false]) hQ rfl (by kernel_rfl) (by kernel_rfl) (by kernel_rfl) (by kernel_rfl) (by kernel_rfl) hE (HSub.refl _) (.cons_cons _ (List.nil_sublist _)) ?_
     refine JL.loadOwn 0 az_22 rfl rfl rfl .none rfl ?_
     refine JA.cont ?_
     refine JA.take 3 (listed' := #[true, true, true, true, false, false, false, false, false, false, false, false]) hQ rfl (by kernel_rfl) (by kernel_rfl) (by kernel_rfl) (by kernel_rfl) (by kernel_rfl) hE (HSub.refl _) (.cons_cons _ (List.nil_sublist _)) ?_
     refine JL.move .none rfl ?_
     refine JA.cont ?_
     refine JA.many [4] (by kernel_rfl) (by simp) (all_one ⟨_, #[true, true, true, true, true, false, false, false, false, false, false, false], rfl, (by kernel_rfl), ?_⟩)
     refine JL.formG 0 rfl (fun a561 n562 c563 hh564 => ?_)
     dsimp only at hh564
     subst hh564
     refine JL.buildSlice (e := 22) (l := [(.slice a525 s.Faults.length c526), (.slice a561 n562 c563)]) (by kernel_rfl) .none rfl ?_
     intro b565
     refine JA.after hE (HSub.refl _) (.cons _ (.cons_cons _ (List.nil_sublist _))) ?_
     refine JA.many [5] (by kernel_rfl) (by simp) (all_one ⟨_, #[true, true, true, true, true, true, false, false, false, false, false, false], rfl, (by kernel_rfl), ?_⟩)
     refine JL.freezeG 0 (R := R_Cell) rfl R_Cell_mono hch524 rfl ?_
     intro H566 hs566 hg567
     refine JL.freezeC 0 (l := [(.slice a525 s.Faults.length c526), (.slice a561 n562 c563)]) rfl ?_
     intro H568 hs568 hc569
     have hg570 : SL H568 1 (RSl 2 R_Cell) (.slice (some ⟨b565, 0, none⟩) 2 2) [s.Faults, y521] := CH.sl (l := [s.Faults, y521]) (CH.cons (cs := [(.slice a525 s.Faults.length c526)]) rfl ⟨_, rfl, (SL.mono R_Cell_mono (HSub.trans hs512 (HSub.trans hs566 hs568)) hs_2)⟩ (CH.cons (cs := [(.slice a561 n562 c563)]) rfl ⟨_, rfl, (SL.mono R_Cell_mono hs568 hg567)⟩ CH.nil)) hc569 ⟨by simp, by simp⟩
     refine JL.callS (c_lays_cellsOf n H568 [s.Faults, y521] (.slice (some ⟨b565, 0, none⟩) 2 2) hg570 y544 hy544) rfl en_45 .none rfl ?_
     refine JA.after hE (HSub.trans hs566 hs568) (.cons_cons _ (List.nil_sublist _)) ?_
     refine JA.many [6] (by kernel_rfl) (by simp) (all_one ⟨_, #[true, true, true, true, true, true, true, false, false, false, false, false], rfl, (by kernel_rfl), ?_⟩)
     refine JL.callH (c_lays_least n H568 s (.slice a525 s.Faults.length c526) (SL.mono R_Cell_mono (HSub.trans hs512 (HSub.trans hs566 hs568)) hs_2) (.slice a528 s.Flaws.length c529) (SL.mono R_Cell_mono (HSub.trans hs512 (HSub.trans hs566 hs568)) hs_3) (.slice a531 s.Panels.length c532) (SL.mono R_Panel_mono (HSub.trans hs512 (HSub.trans hs566 hs568)) hs_4) y544 (lenck_some hu545) y546 hy546) rfl en_44 .none rfl ?_
     rintro H571 vv572 hs571 ⟨y546b_v0, rfl, hy546b_0⟩
     refine JA.after hE (HSub.trans hs566 (HSub.trans hs568 hs571)) (.cons_cons _ (List.nil_sublist _)) ?_
     refine JA.take 7 (listed' := #[true, true, true, true, true, true, true, true, false, false, false, false]) hQ rfl (by kernel_rfl) (by kernel_rfl) (by kernel_rfl) (by kernel_rfl) (by kernel_rfl) hE (HSub.trans hs566 (HSub.trans hs568 hs571)) (.cons_cons _ (List.nil_sublist _)) ?_
     refine JL.move .none rfl ?_
     refine JA.cont ?_
     refine JA.take 8 (listed' := #[true, true, true, true, true, true, true, true, true, false, false, false]) hQ rfl (by kernel_rfl) (by kernel_rfl) (by kernel_rfl) (by kernel_rfl) (by kernel_rfl) hE (HSub.trans hs566 (HSub.trans hs568 hs571)) (.cons_cons _ (List.nil_sublist _)) ?_
     refine JL.extract rfl rfl .none rfl ?_
     refine JA.cont ?_
     refine JA.take 9 (listed' := #[true, true, true, true, true, true, true, true, true, true, false, false]) hQ rfl (by kernel_rfl) (by kernel_rfl) (by kernel_rfl) (by kernel_rfl) (by kernel_rfl) hE (HSub.trans hs566 (HSub.trans hs568 hs571)) (.cons_cons _ (List.nil_sublist _)) ?_
     refine JL.extract rfl rfl .none rfl ?_
     refine JA.cont ?_
     refine JA.take 10 (listed' := #[true, true, true, true, true, true, true, true, true, true, true, false]) hQ rfl (by kernel_rfl) (by kernel_rfl) (by kernel_rfl) (by kernel_rfl) (by kernel_rfl) hE (HSub.trans hs566 (HSub.trans hs568 hs571)) (.cons_cons _ (List.nil_sublist _)) ?_
     refine JL.assign .none rfl ?_
     refine JA.cont ?_
     refine JA.take 11 (listed' := #[true, true, true, true, true, true, true, true, true, true, true, true]) hQ rfl (by kernel_rfl) (by kernel_rfl) (by kernel_rfl) (by kernel_rfl) (by kernel_rfl) hE (HSub.trans hs566 (HSub.trans hs568 hs571)) (.cons_cons _ (List.nil_sublist _)) ?_
     refine JL.assign .none rfl ?_
     refine JA.cont ?_
     refine JA.done hQ (by kernel_rfl) ?_
     refine JQ.go (JC.fresh (fun f => f 1 = .pointer (some ⟨b1, 0, none⟩) ∧ f 4 = .int .i64 y2.1 ∧ f 5 = .int .i64 y2.2 ∧ f 6 = vout_511 ∧ f 7 = .int .i64 x_510 ∧ f 9 = .int .i64 y546.1 ∧ f 25 = .int .i64 (s.Flaws.length : Int) ∧ f 26 = .int .i64 x_510) ⟨rfl, rfl, rfl, rfl, rfl, rfl, rfl, rfl⟩ ?_)
     rintro f ⟨hf1, hf4, hf5, hf6, hf7, hf9, hf25, hf26⟩
     refine (JC.norm (i := 1) hf1 (JC.norm (i := 4) hf4 (JC.norm (i := 5) hf5 (JC.norm (i := 6) hf6 (JC.norm (i := 7) hf7 (JC.norm (i := 9) hf9 (JC.norm (i := 25) hf25 (JC.norm (i := 26) hf26 ?_))))))))
     refine JC.seq (JC.region (by rfl) ?_)
     intro hQ
     refine JL.move .none rfl ?_
     refine JL.bin rfl rfl rfl .none rfl ?_
     refine JL.move .none rfl ?_
     refine JL.cut 8 (fun f => f 1 = .pointer (some ⟨b1, 0, none⟩) ∧ f 4 = .int .i64 y2.1 ∧ f 5 = .int .i64 y2.2 ∧ f 6 = vout_511 ∧ f 7 = .int .i64 x_510 ∧ f 25 = .int .i64 (s.Flaws.length : Int) ∧ f 26 = .int .i64 x_510 ∧ f 56 = .bool ((decide (0 ≤ y546.1)) && ((y2.2 != 0) || (decide (y546.1 < y2.1))))) ?_ ?_
     ·intro hJ575
      rcases bcases (decide (0 ≤ y546.1)) with hc576 | hc576
      ·skip
       refine JL.move (.some rfl rfl rfl hc576) rfl ?_
       refine JL.bin rfl rfl rfl (.some rfl rfl rfl hc576) rfl ?_
       refine JL.move (.some rfl rfl rfl hc576) rfl ?_
       refine JL.cut 4 (fun f => f 1 = .pointer (some ⟨b1, 0, none⟩) ∧ f 4 = .int .i64 y2.1 ∧ f 5 = .int .i64 y2.2 ∧ f 6 = vout_511 ∧ f 7 = .int .i64 x_510 ∧ f 25 = .int .i64 (s.Flaws.length : Int) ∧ f 26 = .int .i64 x_510 ∧ f 48 = .bool (decide (0 ≤ y546.1)) ∧ f 49 = .int .i64 y2.2 ∧ f 50 = .bool (y2.2 != 0) ∧ f 51 = .bool (y2.2 != 0) ∧ f 55 = .bool ((y2.2 != 0) || (decide (y546.1 < y2.1)))) ?_ ?_
       ·intro hJ577
        rcases bcases (y2.2 != 0) with hc578 | hc578
        ·skip
         refine JL.skip (.bool rfl rfl rfl hc578) rfl ?_
         refine JL.skip (.bool rfl rfl rfl hc578) rfl ?_
         refine JL.skip (.bool rfl rfl rfl hc578) rfl ?_
         refine JL.pick_t (b := (y2.2 != 0)) rfl hc578 (.some rfl rfl rfl hc576) rfl ?_
         exact hJ577 _ ⟨rfl, rfl, rfl, rfl, rfl, rfl, rfl, rfl, rfl, rfl, rfl, or_t hc578 rfl⟩
        ·skip
         refine JL.move (.some rfl rfl rfl hc578) rfl ?_
         refine JL.move (.some rfl rfl rfl hc578) rfl ?_
         refine JL.bin rfl rfl rfl (.some rfl rfl rfl hc578) rfl ?_
         refine JL.pick_f (b := (y2.2 != 0)) rfl hc578 (.some rfl rfl rfl hc576) rfl ?_
         exact hJ577 _ ⟨rfl, rfl, rfl, rfl, rfl, rfl, rfl, rfl, rfl, rfl, rfl, or_f hc578 rfl⟩
       ·rintro f ⟨hf1, hf4, hf5, hf6, hf7, hf25, hf26, hf48, hf49, hf50, hf51, hf55⟩
        refine (JL.norm (i := 1) hf1 (JL.norm (i := 4) hf4 (JL.norm (i := 5) hf5 (JL.norm (i := 6) hf6 (JL.norm (i := 7) hf7 (JL.norm (i := 25) hf25 (JL.norm (i := 26) hf26 (JL.norm (i := 48) hf48 (JL.norm (i := 49) hf49 (JL.norm (i := 50) hf50 (JL.norm (i := 51) hf51 (JL.norm (i := 55) hf55 ?_))))))))))))
        refine JL.pick_t (b := decide (0 ≤ y546.1)) rfl hc576 .none rfl ?_
        exact hJ575 _ ⟨rfl, rfl, rfl, rfl, rfl, rfl, rfl, and_t hc576 rfl⟩
      ·skip
       refine JL.skip (.bool rfl rfl rfl hc576) rfl ?_
       refine JL.skip (.bool rfl rfl rfl hc576) rfl ?_
       refine JL.skip (.bool rfl rfl rfl hc576) rfl ?_
       refine JL.skip (.no rfl rfl rfl) rfl ?_
       refine JL.skip (.no rfl rfl rfl) rfl ?_
       refine JL.skip (.no rfl rfl rfl) rfl ?_
       refine JL.skip (.bool rfl rfl rfl hc576) rfl ?_
       refine JL.pick_f (b := decide (0 ≤ y546.1)) rfl hc576 .none rfl ?_
       exact hJ575 _ ⟨rfl, rfl, rfl, rfl, rfl, rfl, rfl, and_f hc576 rfl⟩
     ·rintro f ⟨hf1, hf4, hf5, hf6, hf7, hf25, hf26, hf56⟩
      refine (JL.norm (i := 1) hf1 (JL.norm (i := 4) hf4 (JL.norm (i := 5) hf5 (JL.norm (i := 6) hf6 (JL.norm (i := 7) hf7 (JL.norm (i := 25) hf25 (JL.norm (i := 26) hf26 (JL.norm (i := 56) hf56 ?_))))))))
      refine JL.done hQ (JQ.go ?_)
      obtain ⟨r587, hlr587, hKr587⟩ := bind_some hF
      refine JC.join (fun (out_585 : List Int) H586 f bs gs => ∃ (vout_585 : Value) (xsout_585 : List Value), f 1 = .pointer (some ⟨b1, 0, none⟩) ∧ f 4 = .int .i64 y2.1 ∧ f 5 = .int .i64 y2.2 ∧ f 6 = vout_585 ∧ f 25 = .int .i64 (s.Flaws.length : Int) ∧ f 26 = .int .i64 x_510 ∧ bs = [(b1, .cells [.int .i64 s.Width, .int .i64 s.Length, (.slice a525 s.Faults.length c526), (.slice a528 s.Flaws.length c529), (.slice a531 s.Panels.length c532)].toArray 25)] ∧ gs = [⟨vout_585, 3, 1, out_585.length, xsout_585⟩] ∧ CH H586 1 RInt xsout_585 out_585 ∧ HSub H571 H586 ∧ out_585 = r587) ?_ ?_
      ·have hF := hlr587
       rcases ite_some hF with ⟨hc588, hF⟩ | ⟨hc588, hF⟩
       ·refine JC.cond_t (b := ((decide (0 ≤ y546.1)) && ((y2.2 != 0) || (decide (y546.1 < y2.1))))) rfl hc588 ?_
        refine JC.region (by rfl) ?_
        intro hQ
        refine JL.move .none rfl ?_
        refine JL.move .none rfl ?_
        refine JL.buildSlice (e := 3) (l := [.int .i64 x_510]) (by kernel_rfl) .none rfl ?_
        intro b589
        obtain ⟨l590, hl590, hF⟩ := bind_some hF
        refine JL.appO (R := RInt) 0 0 (l := out_511) (m := [x_510]) ap_48 rfl ⟨rfl, rfl⟩ rfl (CH.mono RInt.mono (HSub.trans hs566 (HSub.trans hs568 hs571)) hout_511) rfl rfl rfl (CH.cons (cs := [.int .i64 x_510]) rfl rfl CH.nil) rfl (one_cons rfl one_nil) hl590 .none rfl ?_
        intro v591 xs592 hch593
        refine JL.assign .none rfl ?_
        refine JL.done hQ ?_
        obtain rfl := Option.some.inj hF
        refine JQ.mask [false, true] [true] ?_
        exact JQ.join l590 ⟨v591, xs592, rfl, rfl, rfl, rfl, rfl, rfl, rfl, rfl, hch593, (HSub.refl _), rfl⟩
       ·refine JC.cond_f (b := ((decide (0 ≤ y546.1)) && ((y2.2 != 0) || (decide (y546.1 < y2.1))))) rfl hc588 ?_
        refine JC.skip ?_
        obtain rfl := Option.some.inj hF
        exact JQ.join out_511 ⟨vout_511, xsout_511, rfl, rfl, rfl, rfl, rfl, rfl, rfl, rfl, (CH.mono RInt.mono (HSub.trans hs566 (HSub.trans hs568 hs571)) hout_511), (HSub.refl _), rfl⟩
      ·rintro out_585 H586 f bs gs ⟨vout_585, xsout_585, hf1, hf4, hf5, hf6, hf25, hf26, rfl, rfl, hout_585, hs586, rfl⟩
       have hF := hKr587
       try dsimp only at hF
       refine (JQ.norm (i := 1) hf1 (JQ.norm (i := 4) hf4 (JQ.norm (i := 5) hf5 (JQ.norm (i := 6) hf6 (JQ.norm (i := 25) hf25 (JQ.norm (i := 26) hf26 ?_))))))
       refine JQ.normal_block (JQ.go (JC.region (by rfl) ?_))
       intro hQ
       refine JL.bin rfl rfl rfl .none rfl ?_
       refine JL.move .none rfl ?_
       refine JL.done hQ ?_
       obtain rfl := Option.some.inj hF
       exact JQ.next rfl ⟨vout_585, xsout_585, rfl, rfl, rfl, rfl, rfl, rfl, rfl, rfl, hout_585, (HSub.trans hs512 (HSub.trans hs566 (HSub.trans hs568 (HSub.trans hs571 hs586))))⟩
    ·refine JC.cond_f (b := decide (x_510 < (s.Flaws.length : Int))) rfl hc515 ?_
     refine JC.exit (JQ.exit_then (JQ.exit_then (JQ.exit_block ?_)))
     obtain rfl := Option.some.inj hF
     have ehr513 := hr513 _ rfl
     subst ehr513
     refine JQ.mask [false] [true] ?_
     exact JQ.join out_511 ⟨vout_511, xsout_511, rfl, rfl, rfl, hout_511, hs512, rfl⟩
   ·rintro out_343 H344 f bs gs ⟨vout_343, xsout_343, hf6, rfl, rfl, hout_343, hs344, rfl⟩
    have hF := hKr345
    try dsimp only at hF
    refine (JQ.norm (i := 6) hf6 ?_)
    refine JQ.go (JC.seq (JC.region (by rfl) ?_))
    intro hQ
    refine JL.move .none rfl ?_
    refine JL.assign .none rfl ?_
    refine JL.assign .none rfl ?_
    refine JL.done hQ (JQ.go (JC.ret (JQ.freezeG 0 (R := RInt) rfl RInt.mono hout_343 rfl ?_)))
    intro H594 hs594 hg595
    obtain rfl := Option.some.inj hF
    exact JQ.outH rfl (.tmp (.tmp .nil)) ⟨vout_343, rfl, hg595⟩
-- 49 math/bits.OnesCount16
def F_math_bits_OnesCount16 (n : Nat) (x_ : Int) : Option Int :=
 (sidx str_0 (bshr .u16 x_ 8)).bind fun y3 => (sidx str_0 (band .u16 x_ 255)).bind fun y4 => some (w64 (IntKind.u8.wrap (y3 + y4)))
theorem c_math_bits_OnesCount16 (n : Nat) (H : Hp) (x_ : Int) (y : Int) (hF : F_math_bits_OnesCount16 n x_ = some y) : SC Try.prog 49 [.int .u16 x_] (.int .i64 y) H := by
 rw [F_math_bits_OnesCount16] at hF
 refine SC.of (N := 11) Try.func49 rfl rfl rfl fun w => ?_
 refine JC.seq (JC.region (by rfl) ?_)
 intro hQ
 refine JL.assign .none rfl ?_
 refine JL.done hQ (JQ.go (JC.seq (JC.draw (by rfl) mo_ (by kernel_rfl) ?_)))
 intro hQ
 refine JL.move .none rfl ?_
 refine JL.shr rfl rfl (by decide) .none rfl ?_
 obtain ⟨y3, hy3, hF⟩ := bind_some hF
 refine JL.indexStr (s := str_0) un_9 rfl rfl hy3 .none rfl ?_
 refine JL.move .none rfl ?_
 refine JL.and rfl rfl .none rfl ?_
 obtain ⟨y4, hy4, hF⟩ := bind_some hF
 refine JL.indexStr (s := str_0) un_9 rfl rfl hy4 .none rfl ?_
 refine JL.bin rfl rfl rfl .none rfl ?_
 refine JL.conv un_5 un_3 rfl .none rfl ?_
 refine JL.assign .none rfl ?_
 refine JL.doneQ hQ ?_
 refine JQ.go (JC.ret ?_)
 obtain rfl := Option.some.inj hF
 exact JQ.outS rfl (.tmp .nil) rfl
end Go.Proofs.Ytflhjlgimihmgaa
end
section
set_option maxRecDepth 100000
set_option maxHeartbeats 40000000
namespace Go.Proofs.Ytflhjlgimihmgaa
open Go Go.RowKit Go.Dec
set_option linter.unusedVariables false
-- 22 ferrule/lays.Room
def F_lays_Room_s1 (n : Nat) (y21 : List Int) : Int × Int → Option ((Int × Int) ⊕ Int)
 | (n_79, x_80) => if decide (x_80 < (y21.length : Int)) = true then ((geti y21 x_80).bind fun y85 => (F_math_bits_OnesCount16 n y85).bind fun y90 => some (Sum.inl ((w64 (n_79 - y90)), (w64 (x_80 + 1))))) else (some (Sum.inr n_79))
def F_lays_Room (n : Nat) (s : Lap) (rows : Int) : Option (Int × Int) :=
 (F_lays_Check n s).bind fun y2 => if (y2 != 0) = true then (some (0, y2)) else ((F_lays_within n rows 0 s.Length).bind fun y4 => if (!y4) = true then (some (0, 1)) else ((F_lays_cellsOf n [s.Faults, s.Flaws]).bind fun y16 => (lenck 12 y16).bind fun u17 => (slc y16 0 rows).bind fun y21 => (loopO n (F_lays_Room_s1 n y21) ((w64 (s.Width * rows)), 0)).bind fun n_56 => some (n_56, 0)))
theorem c_lays_Room (n : Nat) (H : Hp) (s : Lap) (s_v2 : Value) (hs_2 : SL H 2 R_Cell s_v2 s.Faults) (s_v3 : Value) (hs_3 : SL H 2 R_Cell s_v3 s.Flaws) (s_v4 : Value) (hs_4 : SL H 1 R_Panel s_v4 s.Panels) (rows : Int) (y : Int × Int) (hF : F_lays_Room n s rows = some y) : SC Try.prog 22 [.agg [.int .i64 s.Width, .int .i64 s.Length, s_v2, s_v3, s_v4].toArray, .int .i64 rows] (.tuple [.int .i64 y.1, .int .i64 y.2].toArray) H := by
 rw [F_lays_Room] at hF
 refine SC.of (N := 44) Try.func22 rfl rfl rfl fun w => ?_
 refine JC.seq (JC.region (by rfl) ?_)
 intro hQ
 refine JL.box (cs := [.int .i64 s.Width, .int .i64 s.Length, s_v2, s_v3, s_v4]) rfl .none rfl ?_
 intro b1
 refine JL.assign .none rfl ?_
 refine JL.assign .none rfl ?_
 refine JL.done hQ (JQ.go (JC.seq (JC.seq (JC.region (by rfl) ?_))))
 intro hQ
 refine JL.loadOwn 0 az_25 rfl rfl rfl .none rfl ?_
 obtain ⟨y2, hy2, hF⟩ := bind_some hF
 refine JL.callS (c_lays_Check n H s s_v2 hs_2 s_v3 hs_3 s_v4 hs_4 y2 hy2) rfl en_33 .none rfl ?_
 refine JL.assign .none rfl ?_
 refine JL.done hQ (JQ.go (JC.seq (JC.region (by rfl) ?_)))
 intro hQ
 refine JL.move .none rfl ?_
 refine JL.bin rfl rfl rfl .none rfl ?_
 refine JL.done hQ (JQ.go ?_)
 rcases ite_some hF with ⟨hc3, hF⟩ | ⟨hc3, hF⟩
 ·refine JC.cond_t (b := (y2 != 0)) rfl hc3 ?_
  refine JC.seq (JC.region (by rfl) ?_)
  intro hQ
  refine JL.move .none rfl ?_
  refine JL.assign .none rfl ?_
  refine JL.assign .none rfl ?_
  refine JL.done hQ (JQ.go (JC.ret (JQ.ret_then ?_)))
  obtain rfl := Option.some.inj hF
  exact JQ.outS rfl (.tmp (.tmp .nil)) rfl
 ·refine JC.cond_f (b := (y2 != 0)) rfl hc3 ?_
  refine JC.skip (JQ.go (JC.seq (JC.seq (JC.region (by rfl) ?_))))
  intro hQ
  refine JL.move .none rfl ?_
  refine JL.fieldAddr fo_25_1 rfl .none rfl ?_
  refine JL.loadOwn 0 az_3 rfl rfl rfl .none rfl ?_
  obtain ⟨y4, hy4, hF⟩ := bind_some hF
  refine JL.callS (c_lays_within n H rows 0 s.Length y4 hy4) rfl en_48 .none rfl ?_
  refine JL.not rfl .none rfl ?_
  refine JL.done hQ (JQ.go (JC.fresh (fun f => f 1 = .int .i64 rows ∧ f 2 = .pointer (some ⟨b1, 0, none⟩) ∧ f 4 = .int .i64 0 ∧ f 5 = .int .i64 0 ∧ f 20 = .bool (!y4)) ⟨rfl, rfl, rfl, rfl, rfl⟩ ?_))
  rintro f ⟨hf1, hf2, hf4, hf5, hf20⟩
  refine (JC.norm (i := 1) hf1 (JC.norm (i := 2) hf2 (JC.norm (i := 4) hf4 (JC.norm (i := 5) hf5 (JC.norm (i := 20) hf20 ?_)))))
  rcases ite_some hF with ⟨hc5, hF⟩ | ⟨hc5, hF⟩
  ·refine JC.cond_t (b := (!y4)) rfl hc5 ?_
   refine JC.seq (JC.region (by rfl) ?_)
   intro hQ
   refine JL.assign .none rfl ?_
   refine JL.assign .none rfl ?_
   refine JL.done hQ (JQ.go (JC.ret (JQ.ret_then ?_)))
   obtain rfl := Option.some.inj hF
   exact JQ.outS rfl (.tmp (.tmp .nil)) rfl
  ·refine JC.cond_f (b := (!y4)) rfl hc5 ?_
   refine JC.skip (JQ.go (JC.seq (JC.region (by rfl) ?_)))
   intro hQ
   refine JL.fieldAddr fo_25_0 rfl .none rfl ?_
   refine JL.loadOwn 0 az_3 rfl rfl rfl .none rfl ?_
   refine JL.move .none rfl ?_
   refine JL.bin rfl rfl rfl .none rfl ?_
   refine JL.assign .none rfl ?_
   refine JL.done hQ (JQ.go (JC.seq (JC.region (by rfl) ?_)))
   intro hQ
   refine JL.fieldAddr fo_25_2 rfl .none rfl ?_
   refine JL.loadOwn 0 az_22 rfl rfl rfl .none rfl ?_
   refine JL.fieldAddr fo_25_3 rfl .none rfl ?_
   refine JL.loadOwn 0 az_22 rfl rfl rfl .none rfl ?_
   obtain ⟨a6, c7, rfl, hh8⟩ := hs_2
   have hs_2 : SL H 2 R_Cell (.slice a6 s.Faults.length c7) s.Faults := ⟨a6, c7, rfl, hh8⟩
   obtain ⟨a9, c10, rfl, hh11⟩ := hs_3
   have hs_3 : SL H 2 R_Cell (.slice a9 s.Flaws.length c10) s.Flaws := ⟨a9, c10, rfl, hh11⟩
   refine JL.buildSlice (e := 22) (l := [(.slice a6 s.Faults.length c7), (.slice a9 s.Flaws.length c10)]) (by kernel_rfl) .none rfl ?_
   intro b12
   refine JL.freezeC 0 (l := [(.slice a6 s.Faults.length c7), (.slice a9 s.Flaws.length c10)]) rfl ?_
   intro H13 hs13 hc14
   have hg15 : SL H13 1 (RSl 2 R_Cell) (.slice (some ⟨b12, 0, none⟩) 2 2) [s.Faults, s.Flaws] := CH.sl (l := [s.Faults, s.Flaws]) (CH.cons (cs := [(.slice a6 s.Faults.length c7)]) rfl ⟨_, rfl, (SL.mono R_Cell_mono hs13 hs_2)⟩ (CH.cons (cs := [(.slice a9 s.Flaws.length c10)]) rfl ⟨_, rfl, (SL.mono R_Cell_mono hs13 hs_3)⟩ CH.nil)) hc14 ⟨by simp, by simp⟩
   obtain ⟨y16, hy16, hF⟩ := bind_some hF
   refine JL.callS (c_lays_cellsOf n H13 [s.Faults, s.Flaws] (.slice (some ⟨b12, 0, none⟩) 2 2) hg15 y16 hy16) rfl en_45 .none rfl ?_
   obtain ⟨u17, hu17, hF⟩ := bind_some hF
   refine JL.alloc ze_85 .none rfl ?_
   intro b18
   refine JL.storeArr (l := [0, 0, 0, 0, 0, 0, 0, 0, 0, 0, 0, 0]) (l' := y16) 0 az_85 rfl rfl rfl rfl (lenck_some hu17) .none ?_
   refine JL.done hQ (JQ.go (JC.fresh (fun f => f 1 = .int .i64 rows ∧ f 4 = .int .i64 0 ∧ f 5 = .int .i64 0 ∧ f 7 = .int .i64 (w64 (s.Width * rows)) ∧ f 8 = .pointer (some ⟨b18, 0, none⟩)) ⟨rfl, rfl, rfl, rfl, rfl⟩ ?_))
   rintro f ⟨hf1, hf4, hf5, hf7, hf8⟩
   refine (JC.norm (i := 1) hf1 (JC.norm (i := 4) hf4 (JC.norm (i := 5) hf5 (JC.norm (i := 7) hf7 (JC.norm (i := 8) hf8 ?_)))))
   refine JC.seq (JC.seq (JC.region (by rfl) ?_))
   intro hQ
   refine JL.move .none rfl ?_
   refine JL.freezeC 0 (l := av .u16 y16) rfl ?_
   intro H19 hs19 hc20
   obtain ⟨y21, hy21, hF⟩ := bind_some hF
   refine JL.sliceArrF (l := y16) ar_85 az_83 rfl rfl hc20 (lenck_some hu17) rfl hy21 .none rfl ?_
   intro v22 hsl23
   refine JL.lenSL (R := (RK .u16)) ul_90 hsl23 .none rfl ?_
   refine JL.move .none rfl ?_
   refine JL.done hQ (JQ.go ?_)
   obtain ⟨r58, hlr58, hKr58⟩ := bind_some hF
   refine JC.join (fun (n_56 : Int) H57 f bs gs => f 7 = .int .i64 n_56 ∧ bs = [] ∧ gs = [] ∧ HSub H19 H57 ∧ n_56 = r58) ?_ ?_
   ·skip
    refine JC.block (JC.mask [false] [] ?_)
    refine JC.loop hlr58 (fun (x : Int × Int) H81 f bs gs => match x with | (n_79, x_80) => f 7 = .int .i64 n_79 ∧ f 32 = v22 ∧ f 33 = .int .i64 (y21.length : Int) ∧ f 34 = .int .i64 x_80 ∧ bs = [] ∧ gs = [] ∧ HSub H19 H81) ⟨rfl, rfl, rfl, rfl, rfl, rfl, (HSub.refl _)⟩ ?_
    rintro ⟨n_79, x_80⟩ x83 H81 f bs gs ⟨hf7, hf32, hf33, hf34, rfl, rfl, hs81⟩ hF hr82
    rw [F_lays_Room_s1] at hF
    refine (JC.norm (i := 7) hf7 (JC.norm (i := 32) hf32 (JC.norm (i := 33) hf33 (JC.norm (i := 34) hf34 ?_))))
    refine JC.seq (JC.region (by rfl) ?_)
    intro hQ
    refine JL.bin rfl rfl rfl .none rfl ?_
    refine JL.done hQ (JQ.go (JC.seq ?_))
    rcases ite_some hF with ⟨hc84, hF⟩ | ⟨hc84, hF⟩
    ·refine JC.cond_t (b := decide (x_80 < (y21.length : Int))) rfl hc84 ?_
     refine JC.skip (JQ.go (JC.seq (JC.block (JC.seq (JC.region (by rfl) ?_)))))
     intro hQ
     obtain ⟨y85, hy85, hF⟩ := bind_some hF
     refine JL.indexSL (R := (RK .u16)) sl_90 (SL.mono RK.mono hs81 hsl23) rfl hy85 .none rfl ?_
     rintro b86 o87 cs88 hc89 - rfl
     refine JL.loadH 0 az_83 rfl hc89 rfl .none rfl ?_
     refine JL.assign .none rfl ?_
     refine JL.done hQ (JQ.go (JC.region (by rfl) ?_))
     intro hQ
     refine JL.move .none rfl ?_
     refine JL.move .none rfl ?_
     obtain ⟨y90, hy90, hF⟩ := bind_some hF
     refine JL.callS (c_math_bits_OnesCount16 n H81 y85 y90 hy90) rfl en_49 .none rfl ?_
     refine JL.bin rfl rfl rfl .none rfl ?_
     refine JL.assign .none rfl ?_
     refine JL.done hQ (JQ.normal_block (JQ.go (JC.region (by rfl) ?_)))
     intro hQ
     refine JL.bin rfl rfl rfl .none rfl ?_
     refine JL.move .none rfl ?_
     refine JL.done hQ ?_
     obtain rfl := Option.some.inj hF
     exact JQ.next rfl ⟨rfl, rfl, rfl, rfl, rfl, rfl, hs81⟩
    ·refine JC.cond_f (b := decide (x_80 < (y21.length : Int))) rfl hc84 ?_
     refine JC.exit (JQ.exit_then (JQ.exit_then (JQ.exit_block ?_)))
     obtain rfl := Option.some.inj hF
     have ehr82 := hr82 _ rfl
     subst ehr82
     exact JQ.join n_79 ⟨rfl, rfl, rfl, hs81, rfl⟩
   ·rintro n_56 H57 f bs gs ⟨hf7, rfl, rfl, hs57, rfl⟩
    have hF := hKr58
    try dsimp only at hF
    refine (JQ.norm (i := 7) hf7 ?_)
    refine JQ.go (JC.seq (JC.region (by rfl) ?_))
    intro hQ
    refine JL.move .none rfl ?_
    refine JL.assign .none rfl ?_
    refine JL.assign .none rfl ?_
    refine JL.done hQ (JQ.go (JC.ret ?_))
    obtain rfl := Option.some.inj hF
    exact JQ.outS rfl (.tmp (.tmp .nil)) rfl
-- 11 ferrule/ferrulelaw03.works
def F_law03_works (n : Nat)  : Option Bool :=
 (F_law03_Example n).bind fun y1 => (F_lays_Least n y1).bind fun y5 => (F_lays_Hopes n y1).bind fun y6 => (F_lays_Matters n y1).bind fun y7 => (F_lays_Room n y1 3).bind fun y10 => (if (((((((y5.2 == 0) && (y6.2 == 0)) && (y7.2 == 0)) && (y10.2 == 0)) && (y5.1 == 4)) && (y6.1 == 3)) && ((y7.1.length : Int) == 1)) = true then ((geti y7.1 0).bind fun y31 => some (y31 == 0)) else (some false) : Option Bool).bind fun p28 => some (p28 && (y10.1 == 10))
theorem c_law03_works (n : Nat) (H : Hp)  (y : Bool) (hF : F_law03_works n = some y) : SC Try.prog 11 [] (.bool y) H := by
 rw [F_law03_works] at hF
 refine SC.of (N := 68) Try.func11 rfl rfl rfl fun w => ?_
 refine JC.seq (JC.region (by rfl) ?_)
 intro hQ
 refine JL.assign .none rfl ?_
 refine JL.done hQ (JQ.go (JC.seq (JC.region (by rfl) ?_)))
 intro hQ
 obtain ⟨y1, hy1, hF⟩ := bind_some hF
 refine JL.callH (c_law03_Example n H y1 hy1) rfl en_42 .none rfl ?_
 rintro H2 vv3 hs2 ⟨y1a_v2, y1a_v3, y1a_v4, rfl, hy1a_2, hy1a_3, hy1a_4⟩
 refine JL.alloc ze_25 .none rfl ?_
 intro b4
 refine JL.storeOwn 0 (cs := [.int .i64 y1.Width, .int .i64 y1.Length, y1a_v2, y1a_v3, y1a_v4]) az_25 rfl rfl rfl (one_cons rfl (one_cons rfl (one_cons (SL.one hy1a_2) (one_cons (SL.one hy1a_3) (one_cons (SL.one hy1a_4) one_nil))))) rfl rfl .none ?_
 refine JL.done hQ (JQ.go (JC.seq (JC.region (by rfl) ?_)))
 intro hQ
 refine JL.loadOwn 0 az_25 rfl rfl rfl .none rfl ?_
 obtain ⟨y5, hy5, hF⟩ := bind_some hF
 refine JL.callS (c_lays_Least n H2 y1 y1a_v2 hy1a_2 y1a_v3 hy1a_3 y1a_v4 hy1a_4 y5 hy5) rfl en_14 .none rfl ?_
 refine JL.move .none rfl ?_
 refine JL.extract rfl rfl .none rfl ?_
 refine JL.extract rfl rfl .none rfl ?_
 refine JL.assign .none rfl ?_
 refine JL.assign .none rfl ?_
 refine JL.done hQ (JQ.go (JC.seq (JC.region (by rfl) ?_)))
 intro hQ
 refine JL.loadOwn 0 az_25 rfl rfl rfl .none rfl ?_
 obtain ⟨y6, hy6, hF⟩ := bind_some hF
 refine JL.callS (c_lays_Hopes n H2 y1 y1a_v2 hy1a_2 y1a_v3 hy1a_3 y1a_v4 hy1a_4 y6 hy6) rfl en_17 .none rfl ?_
 refine JL.move .none rfl ?_
 refine JL.extract rfl rfl .none rfl ?_
 refine JL.extract rfl rfl .none rfl ?_
 refine JL.assign .none rfl ?_
 refine JL.assign .none rfl ?_
 refine JL.done hQ (JQ.go (JC.fresh (fun f => f 0 = .bool false ∧ f 1 = .pointer (some ⟨b4, 0, none⟩) ∧ f 2 = .int .i64 y5.1 ∧ f 3 = .int .i64 y5.2 ∧ f 4 = .int .i64 y6.1 ∧ f 5 = .int .i64 y6.2) ⟨rfl, rfl, rfl, rfl, rfl, rfl⟩ ?_))
 rintro f ⟨hf0, hf1, hf2, hf3, hf4, hf5⟩
 refine (JC.norm (i := 0) hf0 (JC.norm (i := 1) hf1 (JC.norm (i := 2) hf2 (JC.norm (i := 3) hf3 (JC.norm (i := 4) hf4 (JC.norm (i := 5) hf5 ?_))))))
 refine JC.seq (JC.region (by rfl) ?_)
 intro hQ
 refine JL.loadOwn 0 az_25 rfl rfl rfl .none rfl ?_
 obtain ⟨y7, hy7, hF⟩ := bind_some hF
 refine JL.callH (c_lays_Matters n H2 y1 y1a_v2 hy1a_2 y1a_v3 hy1a_3 y1a_v4 hy1a_4 y7 hy7) rfl en_18 .none rfl ?_
 rintro H8 vv9 hs8 ⟨y7a_v0, rfl, hy7a_0⟩
 refine JL.move .none rfl ?_
 refine JL.extract rfl rfl .none rfl ?_
 refine JL.extract rfl rfl .none rfl ?_
 refine JL.assign .none rfl ?_
 refine JL.assign .none rfl ?_
 refine JL.done hQ (JQ.go (JC.seq (JC.region (by rfl) ?_)))
 intro hQ
 refine JL.loadOwn 0 az_25 rfl rfl rfl .none rfl ?_
 obtain ⟨y10, hy10, hF⟩ := bind_some hF
 refine JL.callS (c_lays_Room n H8 y1 y1a_v2 (SL.mono R_Cell_mono hs8 hy1a_2) y1a_v3 (SL.mono R_Cell_mono hs8 hy1a_3) y1a_v4 (SL.mono R_Panel_mono hs8 hy1a_4) 3 y10 hy10) rfl en_22 .none rfl ?_
 refine JL.move .none rfl ?_
 refine JL.extract rfl rfl .none rfl ?_
 refine JL.extract rfl rfl .none rfl ?_
 refine JL.assign .none rfl ?_
 refine JL.assign .none rfl ?_
 refine JL.done hQ (JQ.go (JC.fresh (fun f => f 0 = .bool false ∧ f 2 = .int .i64 y5.1 ∧ f 3 = .int .i64 y5.2 ∧ f 4 = .int .i64 y6.1 ∧ f 5 = .int .i64 y6.2 ∧ f 6 = y7a_v0 ∧ f 7 = .int .i64 y7.2 ∧ f 8 = .int .i64 y10.1 ∧ f 9 = .int .i64 y10.2) ⟨rfl, rfl, rfl, rfl, rfl, rfl, rfl, rfl, rfl⟩ ?_))
 rintro f ⟨hf0, hf2, hf3, hf4, hf5, hf6, hf7, hf8, hf9⟩
 refine (JC.norm (i := 0) hf0 (JC.norm (i := 2) hf2 (JC.norm (i := 3) hf3 (JC.norm (i := 4) hf4 (JC.norm (i := 5) hf5 (JC.norm (i := 6) hf6 (JC.norm (i := 7) hf7 (JC.norm (i := 8) hf8 (JC.norm (i := 9) hf9 ?_)))))))))
 refine JC.seq (JC.region (by rfl) ?_)
 intro hQ
 refine JL.move .none rfl ?_
 refine JL.bin rfl rfl rfl .none rfl ?_
 refine JL.move .none rfl ?_
 refine JL.cut 3 (fun f => f 2 = .int .i64 y5.1 ∧ f 4 = .int .i64 y6.1 ∧ f 6 = y7a_v0 ∧ f 7 = .int .i64 y7.2 ∧ f 8 = .int .i64 y10.1 ∧ f 9 = .int .i64 y10.2 ∧ f 36 = .bool ((y5.2 == 0) && (y6.2 == 0))) ?_ ?_
 ·intro hJ11
  rcases bcases (y5.2 == 0) with hc12 | hc12
  ·skip
   refine JL.move (.some rfl rfl rfl hc12) rfl ?_
   refine JL.bin rfl rfl rfl (.some rfl rfl rfl hc12) rfl ?_
   refine JL.pick_t (b := (y5.2 == 0)) rfl hc12 .none rfl ?_
   exact hJ11 _ ⟨rfl, rfl, rfl, rfl, rfl, rfl, and_t hc12 rfl⟩
  ·skip
   refine JL.skip (.bool rfl rfl rfl hc12) rfl ?_
   refine JL.skip (.bool rfl rfl rfl hc12) rfl ?_
   refine JL.pick_f (b := (y5.2 == 0)) rfl hc12 .none rfl ?_
   exact hJ11 _ ⟨rfl, rfl, rfl, rfl, rfl, rfl, and_f hc12 rfl⟩
 ·rintro f ⟨hf2, hf4, hf6, hf7, hf8, hf9, hf36⟩
  refine (JL.norm (i := 2) hf2 (JL.norm (i := 4) hf4 (JL.norm (i := 6) hf6 (JL.norm (i := 7) hf7 (JL.norm (i := 8) hf8 (JL.norm (i := 9) hf9 (JL.norm (i := 36) hf36 ?_)))))))
  refine JL.move .none rfl ?_
  refine JL.cut 3 (fun f => f 2 = .int .i64 y5.1 ∧ f 4 = .int .i64 y6.1 ∧ f 6 = y7a_v0 ∧ f 8 = .int .i64 y10.1 ∧ f 9 = .int .i64 y10.2 ∧ f 40 = .bool (((y5.2 == 0) && (y6.2 == 0)) && (y7.2 == 0))) ?_ ?_
  ·intro hJ13
   rcases bcases ((y5.2 == 0) && (y6.2 == 0)) with hc14 | hc14
   ·skip
    refine JL.move (.some rfl rfl rfl hc14) rfl ?_
    refine JL.bin rfl rfl rfl (.some rfl rfl rfl hc14) rfl ?_
    refine JL.pick_t (b := ((y5.2 == 0) && (y6.2 == 0))) rfl hc14 .none rfl ?_
    exact hJ13 _ ⟨rfl, rfl, rfl, rfl, rfl, and_t hc14 rfl⟩
   ·skip
    refine JL.skip (.bool rfl rfl rfl hc14) rfl ?_
    refine JL.skip (.bool rfl rfl rfl hc14) rfl ?_
    refine JL.pick_f (b := ((y5.2 == 0) && (y6.2 == 0))) rfl hc14 .none rfl ?_
    exact hJ13 _ ⟨rfl, rfl, rfl, rfl, rfl, and_f hc14 rfl⟩
  ·rintro f ⟨hf2, hf4, hf6, hf8, hf9, hf40⟩
   refine (JL.norm (i := 2) hf2 (JL.norm (i := 4) hf4 (JL.norm (i := 6) hf6 (JL.norm (i := 8) hf8 (JL.norm (i := 9) hf9 (JL.norm (i := 40) hf40 ?_))))))
   refine JL.move .none rfl ?_
   refine JL.cut 3 (fun f => f 2 = .int .i64 y5.1 ∧ f 4 = .int .i64 y6.1 ∧ f 6 = y7a_v0 ∧ f 8 = .int .i64 y10.1 ∧ f 44 = .bool ((((y5.2 == 0) && (y6.2 == 0)) && (y7.2 == 0)) && (y10.2 == 0))) ?_ ?_
   ·intro hJ15
    rcases bcases (((y5.2 == 0) && (y6.2 == 0)) && (y7.2 == 0)) with hc16 | hc16
    ·skip
     refine JL.move (.some rfl rfl rfl hc16) rfl ?_
     refine JL.bin rfl rfl rfl (.some rfl rfl rfl hc16) rfl ?_
     refine JL.pick_t (b := (((y5.2 == 0) && (y6.2 == 0)) && (y7.2 == 0))) rfl hc16 .none rfl ?_
     exact hJ15 _ ⟨rfl, rfl, rfl, rfl, and_t hc16 rfl⟩
    ·skip
     refine JL.skip (.bool rfl rfl rfl hc16) rfl ?_
     refine JL.skip (.bool rfl rfl rfl hc16) rfl ?_
     refine JL.pick_f (b := (((y5.2 == 0) && (y6.2 == 0)) && (y7.2 == 0))) rfl hc16 .none rfl ?_
     exact hJ15 _ ⟨rfl, rfl, rfl, rfl, and_f hc16 rfl⟩
   ·rintro f ⟨hf2, hf4, hf6, hf8, hf44⟩
    refine (JL.norm (i := 2) hf2 (JL.norm (i := 4) hf4 (JL.norm (i := 6) hf6 (JL.norm (i := 8) hf8 (JL.norm (i := 44) hf44 ?_)))))
    refine JL.move .none rfl ?_
    refine JL.cut 3 (fun f => f 4 = .int .i64 y6.1 ∧ f 6 = y7a_v0 ∧ f 8 = .int .i64 y10.1 ∧ f 48 = .bool (((((y5.2 == 0) && (y6.2 == 0)) && (y7.2 == 0)) && (y10.2 == 0)) && (y5.1 == 4))) ?_ ?_
    ·intro hJ17
     rcases bcases ((((y5.2 == 0) && (y6.2 == 0)) && (y7.2 == 0)) && (y10.2 == 0)) with hc18 | hc18
     ·skip
      refine JL.move (.some rfl rfl rfl hc18) rfl ?_
      refine JL.bin rfl rfl rfl (.some rfl rfl rfl hc18) rfl ?_
      refine JL.pick_t (b := ((((y5.2 == 0) && (y6.2 == 0)) && (y7.2 == 0)) && (y10.2 == 0))) rfl hc18 .none rfl ?_
      exact hJ17 _ ⟨rfl, rfl, rfl, and_t hc18 rfl⟩
     ·skip
      refine JL.skip (.bool rfl rfl rfl hc18) rfl ?_
      refine JL.skip (.bool rfl rfl rfl hc18) rfl ?_
      refine JL.pick_f (b := ((((y5.2 == 0) && (y6.2 == 0)) && (y7.2 == 0)) && (y10.2 == 0))) rfl hc18 .none rfl ?_
      exact hJ17 _ ⟨rfl, rfl, rfl, and_f hc18 rfl⟩
    ·rintro f ⟨hf4, hf6, hf8, hf48⟩
     refine (JL.norm (i := 4) hf4 (JL.norm (i := 6) hf6 (JL.norm (i := 8) hf8 (JL.norm (i := 48) hf48 ?_))))
     refine JL.move .none rfl ?_
     refine JL.cut 3 (fun f => f 6 = y7a_v0 ∧ f 8 = .int .i64 y10.1 ∧ f 52 = .bool ((((((y5.2 == 0) && (y6.2 == 0)) && (y7.2 == 0)) && (y10.2 == 0)) && (y5.1 == 4)) && (y6.1 == 3))) ?_ ?_
     ·intro hJ19
      rcases bcases (((((y5.2 == 0) && (y6.2 == 0)) && (y7.2 == 0)) && (y10.2 == 0)) && (y5.1 == 4)) with hc20 | hc20
      ·skip
       refine JL.move (.some rfl rfl rfl hc20) rfl ?_
       refine JL.bin rfl rfl rfl (.some rfl rfl rfl hc20) rfl ?_
       refine JL.pick_t (b := (((((y5.2 == 0) && (y6.2 == 0)) && (y7.2 == 0)) && (y10.2 == 0)) && (y5.1 == 4))) rfl hc20 .none rfl ?_
       exact hJ19 _ ⟨rfl, rfl, and_t hc20 rfl⟩
      ·skip
       refine JL.skip (.bool rfl rfl rfl hc20) rfl ?_
       refine JL.skip (.bool rfl rfl rfl hc20) rfl ?_
       refine JL.pick_f (b := (((((y5.2 == 0) && (y6.2 == 0)) && (y7.2 == 0)) && (y10.2 == 0)) && (y5.1 == 4))) rfl hc20 .none rfl ?_
       exact hJ19 _ ⟨rfl, rfl, and_f hc20 rfl⟩
     ·rintro f ⟨hf6, hf8, hf52⟩
      refine (JL.norm (i := 6) hf6 (JL.norm (i := 8) hf8 (JL.norm (i := 52) hf52 ?_)))
      refine JL.move .none rfl ?_
      refine JL.cut 4 (fun f => f 6 = y7a_v0 ∧ f 8 = .int .i64 y10.1 ∧ f 57 = .bool (((((((y5.2 == 0) && (y6.2 == 0)) && (y7.2 == 0)) && (y10.2 == 0)) && (y5.1 == 4)) && (y6.1 == 3)) && ((y7.1.length : Int) == 1))) ?_ ?_
      ·intro hJ21
       rcases bcases ((((((y5.2 == 0) && (y6.2 == 0)) && (y7.2 == 0)) && (y10.2 == 0)) && (y5.1 == 4)) && (y6.1 == 3)) with hc22 | hc22
       ·skip
        refine JL.move (.some rfl rfl rfl hc22) rfl ?_
        refine JL.lenSL (R := RInt) ul_48 hy7a_0 (.some rfl rfl rfl hc22) rfl ?_
        refine JL.bin rfl rfl rfl (.some rfl rfl rfl hc22) rfl ?_
        refine JL.pick_t (b := ((((((y5.2 == 0) && (y6.2 == 0)) && (y7.2 == 0)) && (y10.2 == 0)) && (y5.1 == 4)) && (y6.1 == 3))) rfl hc22 .none rfl ?_
        exact hJ21 _ ⟨rfl, rfl, and_t hc22 rfl⟩
       ·skip
        refine JL.skip (.bool rfl rfl rfl hc22) rfl ?_
        refine JL.skip (.bool rfl rfl rfl hc22) rfl ?_
        refine JL.skip (.bool rfl rfl rfl hc22) rfl ?_
        refine JL.pick_f (b := ((((((y5.2 == 0) && (y6.2 == 0)) && (y7.2 == 0)) && (y10.2 == 0)) && (y5.1 == 4)) && (y6.1 == 3))) rfl hc22 .none rfl ?_
        exact hJ21 _ ⟨rfl, rfl, and_f hc22 rfl⟩
      ·rintro f ⟨hf6, hf8, hf57⟩
       refine (JL.norm (i := 6) hf6 (JL.norm (i := 8) hf8 (JL.norm (i := 57) hf57 ?_)))
       refine JL.move .none rfl ?_
       obtain ⟨p28, hp28, hF⟩ := bind_some hF
       refine JL.cut 5 (fun f => f 8 = .int .i64 y10.1 ∧ f 63 = .bool p28) ?_ ?_
       ·intro hJ29
        rcases ite_some hp28 with ⟨hc30, hF⟩ | ⟨hc30, hF⟩
        ·skip
         refine JL.move (.some rfl rfl rfl hc30) rfl ?_
         obtain ⟨y31, hy31, hF⟩ := bind_some hF
         refine JL.indexSL (R := RInt) sl_48 hy7a_0 rfl hy31 (.some rfl rfl rfl hc30) rfl ?_
         rintro b32 o33 cs34 hc35 - rfl
         refine JL.loadH 0 az_3 rfl hc35 rfl (.some rfl rfl rfl hc30) rfl ?_
         refine JL.bin rfl rfl rfl (.some rfl rfl rfl hc30) rfl ?_
         refine JL.pick_t (b := (((((((y5.2 == 0) && (y6.2 == 0)) && (y7.2 == 0)) && (y10.2 == 0)) && (y5.1 == 4)) && (y6.1 == 3)) && ((y7.1.length : Int) == 1))) rfl hc30 .none rfl ?_
         obtain rfl := Option.some.inj hF
         exact hJ29 _ ⟨rfl, rfl⟩
        ·skip
         refine JL.skip (.bool rfl rfl rfl hc30) rfl ?_
         refine JL.skip (.bool rfl rfl rfl hc30) rfl ?_
         refine JL.skip (.bool rfl rfl rfl hc30) rfl ?_
         refine JL.skip (.bool rfl rfl rfl hc30) rfl ?_
         refine JL.pick_f (b := (((((((y5.2 == 0) && (y6.2 == 0)) && (y7.2 == 0)) && (y10.2 == 0)) && (y5.1 == 4)) && (y6.1 == 3)) && ((y7.1.length : Int) == 1))) rfl hc30 .none rfl ?_
         obtain rfl := Option.some.inj hF
         exact hJ29 _ ⟨rfl, rfl⟩
       ·rintro f ⟨hf8, hf63⟩
        refine (JL.norm (i := 8) hf8 (JL.norm (i := 63) hf63 ?_))
        refine JL.move .none rfl ?_
        refine JL.cut 3 (fun f => f 67 = .bool (p28 && (y10.1 == 10))) ?_ ?_
        ·intro hJ36
         rcases bcases p28 with hc37 | hc37
         ·skip
          refine JL.move (.some rfl rfl rfl hc37) rfl ?_
          refine JL.bin rfl rfl rfl (.some rfl rfl rfl hc37) rfl ?_
          refine JL.pick_t (b := p28) rfl hc37 .none rfl ?_
          exact hJ36 _ (and_t hc37 rfl)
         ·skip
          refine JL.skip (.bool rfl rfl rfl hc37) rfl ?_
          refine JL.skip (.bool rfl rfl rfl hc37) rfl ?_
          refine JL.pick_f (b := p28) rfl hc37 .none rfl ?_
          exact hJ36 _ (and_f hc37 rfl)
        ·rintro f hf67
         refine (JL.norm (i := 67) hf67 ?_)
         refine JL.assign .none rfl ?_
         refine JL.done hQ (JQ.go (JC.ret ?_))
         obtain rfl := Option.some.inj hF
         exact JQ.outS rfl (.tmp .nil) rfl
end Go.Proofs.Ytflhjlgimihmgaa
end
