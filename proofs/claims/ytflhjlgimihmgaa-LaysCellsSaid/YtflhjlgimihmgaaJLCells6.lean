/-
  A part of the proof of LCells: the texts GenK7, GenK8, GenK9, EngQ, EngR, EngZ.
-/
import Derived.Test.YtflhjlgimihmgaaJLCells5
section
set_option maxRecDepth 100000
set_option maxHeartbeats 40000000
namespace Go.Proofs.Ytflhjlgimihmgaa
open Go Go.RowKit Go.Dec
set_option linter.unusedVariables false
-- 13 ferrule/ferrulelaw03.atLeast
-- 20 ferrule/lays.Lay
-- 24 ferrule/ferruleref03.IsPlace
def F_ref03_IsPlace (n : Nat) (p : Place) : Option Bool :=
 (F_ref03_within n p.Row 0 12).bind fun y2 => (if y2 = true then ((F_ref03_within n p.Col 0 12).bind fun y7 => some y7) else (some false) : Option Bool).bind fun p4 => (if p4 = true then ((F_ref03_within n p.Turned 0 1).bind fun y12 => some y12) else (some false) : Option Bool).bind fun p9 => some p9
theorem c_ref03_IsPlace (n : Nat) (H : Hp) (p : Place) (y : Bool) (hF : F_ref03_IsPlace n p = some y) : SC Try.prog 24 [.agg [.int .i64 p.Row, .int .i64 p.Col, .int .i64 p.Turned].toArray] (.bool y) H := by
 rw [F_ref03_IsPlace] at hF
 refine SC.of (N := 16) Try.func24 rfl rfl rfl fun w => ?_
 refine JC.seq (JC.region (by rfl) ?_)
 intro hQ
 refine JL.box (cs := [.int .i64 p.Row, .int .i64 p.Col, .int .i64 p.Turned]) rfl .none rfl ?_
 intro b1
 refine JL.assign .none rfl ?_
 refine JL.done hQ (JQ.go (JC.seq (JC.region (by rfl) ?_)))
 intro hQ
 refine JL.fieldAddr fo_62_0 rfl .none rfl ?_
 refine JL.loadOwn 0 az_3 rfl rfl rfl .none rfl ?_
 obtain ⟨y2, hy2, hF⟩ := bind_some hF
 refine JL.callS (c_ref03_within n H p.Row 0 12 y2 hy2) rfl en_51 .none rfl ?_
 refine JL.move .none rfl ?_
 obtain ⟨p4, hp4, hF⟩ := bind_some hF
 refine JL.cut 4 (fun f => f 1 = .pointer (some ⟨b1, 0, none⟩) ∧ f 10 = .bool p4) ?_ ?_
 ·intro hJ5
  rcases ite_some hp4 with ⟨hc6, hF⟩ | ⟨hc6, hF⟩
  ·skip
   refine JL.fieldAddr fo_62_1 rfl (.some rfl rfl rfl hc6) rfl ?_
   refine JL.loadOwn 0 az_3 rfl rfl rfl (.some rfl rfl rfl hc6) rfl ?_
   obtain ⟨y7, hy7, hF⟩ := bind_some hF
   refine JL.callS (c_ref03_within n H p.Col 0 12 y7 hy7) rfl en_51 (.some rfl rfl rfl hc6) rfl ?_
   refine JL.pick_t (b := y2) rfl hc6 .none rfl ?_
   obtain rfl := Option.some.inj hF
   exact hJ5 _ ⟨rfl, rfl⟩
  ·skip
   refine JL.skip (.bool rfl rfl rfl hc6) rfl ?_
   refine JL.skip (.bool rfl rfl rfl hc6) rfl ?_
   refine JL.skip (.bool rfl rfl rfl hc6) rfl ?_
   refine JL.pick_f (b := y2) rfl hc6 .none rfl ?_
   obtain rfl := Option.some.inj hF
   exact hJ5 _ ⟨rfl, rfl⟩
 ·rintro f ⟨hf1, hf10⟩
  refine (JL.norm (i := 1) hf1 (JL.norm (i := 10) hf10 ?_))
  refine JL.move .none rfl ?_
  obtain ⟨p9, hp9, hF⟩ := bind_some hF
  refine JL.cut 4 (fun f => f 15 = .bool p9) ?_ ?_
  ·intro hJ10
   rcases ite_some hp9 with ⟨hc11, hF⟩ | ⟨hc11, hF⟩
   ·skip
    refine JL.fieldAddr fo_62_2 rfl (.some rfl rfl rfl hc11) rfl ?_
    refine JL.loadOwn 0 az_3 rfl rfl rfl (.some rfl rfl rfl hc11) rfl ?_
    obtain ⟨y12, hy12, hF⟩ := bind_some hF
    refine JL.callS (c_ref03_within n H p.Turned 0 1 y12 hy12) rfl en_51 (.some rfl rfl rfl hc11) rfl ?_
    refine JL.pick_t (b := p4) rfl hc11 .none rfl ?_
    obtain rfl := Option.some.inj hF
    exact hJ10 _ (rfl)
   ·skip
    refine JL.skip (.bool rfl rfl rfl hc11) rfl ?_
    refine JL.skip (.bool rfl rfl rfl hc11) rfl ?_
    refine JL.skip (.bool rfl rfl rfl hc11) rfl ?_
    refine JL.pick_f (b := p4) rfl hc11 .none rfl ?_
    obtain rfl := Option.some.inj hF
    exact hJ10 _ (rfl)
  ·rintro f hf15
   refine (JL.norm (i := 15) hf15 ?_)
   refine JL.assign .none rfl ?_
   refine JL.done hQ (JQ.go (JC.ret ?_))
   obtain rfl := Option.some.inj hF
   exact JQ.outS rfl (.tmp .nil) rfl
-- 16 ferrule/ferruleref03.TurnedRows
def F_ref03_TurnedRows_s1 (n : Nat) (p : Panel) : Int × Int → Option ((Int × Int) ⊕ Int)
 | (w_52, i_53) => if decide (i_53 < (p.Rows.length : Int)) = true then ((geti p.Rows i_53).bind fun y58 => some (Sum.inl ((max w_52 y58.High), (w64 (i_53 + 1))))) else (some (Sum.inr w_52))
def F_ref03_TurnedRows_s2 (n : Nat) (p : Panel) (w_31 : Int) : Int × List Span → Option ((Int × List Span) ⊕ (List Span))
 | (i_484, out_485) => if decide (0 ≤ i_484) = true then ((geti p.Rows i_484).bind fun y500 => (geti p.Rows i_484).bind fun y505 => (lim (out_485 ++ [(Span.mk (w64 (w_31 - y500.High)) (w64 (w_31 - y505.Low)))])).bind fun l511 => some (Sum.inl ((w64 (i_484 - 1)), l511))) else (some (Sum.inr out_485))
def F_ref03_TurnedRows (n : Nat) (p : Panel) : Option (List Span) :=
 (loopO n (F_ref03_TurnedRows_s1 n p) (0, 0)).bind fun w_31 => (loopO n (F_ref03_TurnedRows_s2 n p w_31) ((w64 ((p.Rows.length : Int) - 1)), ([] : List Span))).bind fun out_343 => some out_343
theorem c_ref03_TurnedRows (n : Nat) (H : Hp) (p : Panel) (p_v0 : Value) (hp_0 : SL H 2 R_Span p_v0 p.Rows) (y : (List Span)) (hF : F_ref03_TurnedRows n p = some y) : HC Try.prog 16 [.agg [p_v0].toArray] H (fun H' ra_v0 => SL H' 2 R_Span ra_v0 y) := by
 rw [F_ref03_TurnedRows] at hF
 refine HC.of (N := 51) Try.func16 rfl rfl rfl fun w => ?_
 refine JC.seq (JC.region (by rfl) ?_)
 intro hQ
 refine JL.box (cs := [p_v0]) rfl .none rfl ?_
 intro b1
 refine JL.assign .none rfl ?_
 refine JL.done hQ (JQ.go (JC.seq (JC.region (by rfl) ?_)))
 intro hQ
 refine JL.assign .none rfl ?_
 refine JL.done hQ (JQ.go (JC.seq (JC.seq (JC.region (by rfl) ?_))))
 intro hQ
 refine JL.assign .none rfl ?_
 refine JL.done hQ (JQ.go ?_)
 obtain ⟨r33, hlr33, hKr33⟩ := bind_some hF
 refine JC.join (fun (w_31 : Int) H32 f bs gs => f 1 = .pointer (some ⟨b1, 0, none⟩) ∧ f 3 = .int .i64 w_31 ∧ bs = [(b1, .cells [p_v0].toArray 30)] ∧ gs = [] ∧ HSub H H32 ∧ w_31 = r33) ?_ ?_
 ·skip
  refine JC.block (JC.loop hlr33 (fun (x : Int × Int) H54 f bs gs => match x with | (w_52, i_53) => f 1 = .pointer (some ⟨b1, 0, none⟩) ∧ f 3 = .int .i64 w_52 ∧ f 4 = .int .i64 i_53 ∧ bs = [(b1, .cells [p_v0].toArray 30)] ∧ gs = [] ∧ HSub H H54) ⟨rfl, rfl, rfl, rfl, rfl, (HSub.refl _)⟩ ?_)
  rintro ⟨w_52, i_53⟩ x56 H54 f bs gs ⟨hf1, hf3, hf4, rfl, rfl, hs54⟩ hF hr55
  rw [F_ref03_TurnedRows_s1] at hF
  refine (JC.norm (i := 1) hf1 (JC.norm (i := 3) hf3 (JC.norm (i := 4) hf4 ?_)))
  refine JC.seq (JC.seq (JC.region (by rfl) ?_))
  intro hQ
  refine JL.move .none rfl ?_
  refine JL.fieldAddr fo_30_0 rfl .none rfl ?_
  refine JL.loadOwn 0 az_28 rfl rfl rfl .none rfl ?_
  refine JL.lenSL (R := R_Span) ul_28 (SL.mono R_Span_mono hs54 hp_0) .none rfl ?_
  refine JL.bin rfl rfl rfl .none rfl ?_
  refine JL.done hQ (JQ.go ?_)
  rcases ite_some hF with ⟨hc57, hF⟩ | ⟨hc57, hF⟩
  ·refine JC.cond_t (b := decide (i_53 < (p.Rows.length : Int))) rfl hc57 ?_
   refine JC.skip (JQ.go (JC.seq (JC.block (JC.region (by rfl) ?_))))
   intro hQ
   refine JL.move .none rfl ?_
   refine JL.fieldAddr fo_30_0 rfl .none rfl ?_
   refine JL.loadOwn 0 az_28 rfl rfl rfl .none rfl ?_
   refine JL.move .none rfl ?_
   obtain ⟨y58, hy58, hF⟩ := bind_some hF
   refine JL.indexSL (R := R_Span) sl_28 (SL.mono R_Span_mono hs54 hp_0) rfl hy58 .none rfl ?_
   rintro b59 o60 cs61 hc62 - rfl
   refine JL.fieldAddr fo_46_1 rfl .none rfl ?_
   refine JL.loadH 1 az_3 rfl hc62 rfl .none rfl ?_
   refine JL.max rfl rfl .none rfl ?_
   refine JL.assign .none rfl ?_
   refine JL.done hQ (JQ.normal_block (JQ.go (JC.fresh (fun f => f 1 = .pointer (some ⟨b1, 0, none⟩) ∧ f 3 = .int .i64 (max w_52 y58.High) ∧ f 4 = .int .i64 i_53) ⟨rfl, rfl, rfl⟩ ?_)))
   rintro f ⟨hf1, hf3, hf4⟩
   refine (JC.norm (i := 1) hf1 (JC.norm (i := 3) hf3 (JC.norm (i := 4) hf4 ?_)))
   refine JC.region (by rfl) ?_
   intro hQ
   refine JL.move .none rfl ?_
   refine JL.bin rfl rfl rfl .none rfl ?_
   refine JL.assign .none rfl ?_
   refine JL.done hQ ?_
   obtain rfl := Option.some.inj hF
   exact JQ.next rfl ⟨rfl, rfl, rfl, rfl, rfl, hs54⟩
  ·refine JC.cond_f (b := decide (i_53 < (p.Rows.length : Int))) rfl hc57 ?_
   refine JC.exit (JQ.exit_then (JQ.exit_then (JQ.exit_block ?_)))
   obtain rfl := Option.some.inj hF
   have ehr55 := hr55 _ rfl
   subst ehr55
   exact JQ.join w_52 ⟨rfl, rfl, rfl, rfl, hs54, rfl⟩
 ·rintro w_31 H32 f bs gs ⟨hf1, hf3, rfl, rfl, hs32, rfl⟩
  have hF := hKr33
  try dsimp only at hF
  refine (JQ.norm (i := 1) hf1 (JQ.norm (i := 3) hf3 ?_))
  refine JQ.go (JC.seq (JC.region (by rfl) ?_))
  intro hQ
  refine JL.assign .none rfl ?_
  refine JL.done hQ (JQ.go (JC.seq (JC.seq (JC.region (by rfl) ?_))))
  intro hQ
  refine JL.fieldAddr fo_30_0 rfl .none rfl ?_
  refine JL.loadOwn 0 az_28 rfl rfl rfl .none rfl ?_
  refine JL.lenSL (R := R_Span) ul_28 (SL.mono R_Span_mono hs32 hp_0) .none rfl ?_
  refine JL.bin rfl rfl rfl .none rfl ?_
  refine JL.assign .none rfl ?_
  refine JL.done hQ (JQ.go (JC.newNil (e := 46) (sz := 2) ?_))
  obtain ⟨r345, hlr345, hKr345⟩ := bind_some hF
  refine JC.join (fun (out_343 : List Span) H344 f bs gs => ∃ (vout_343 : Value) (xsout_343 : List Value), f 5 = vout_343 ∧ bs = [] ∧ gs = [⟨vout_343, 46, 2, out_343.length, xsout_343⟩] ∧ CH H344 2 R_Span xsout_343 out_343 ∧ HSub H32 H344 ∧ out_343 = r345) ?_ ?_
  ·skip
   refine JC.block (JC.loop hlr345 (fun (x : Int × List Span) H486 f bs gs => match x with | (i_484, out_485) => ∃ (vout_485 : Value) (xsout_485 : List Value), f 1 = .pointer (some ⟨b1, 0, none⟩) ∧ f 3 = .int .i64 w_31 ∧ f 5 = vout_485 ∧ f 6 = .int .i64 i_484 ∧ bs = [(b1, .cells [p_v0].toArray 30)] ∧ gs = [⟨vout_485, 46, 2, out_485.length, xsout_485⟩] ∧ CH H486 2 R_Span xsout_485 out_485 ∧ HSub H32 H486) ⟨(.slice none 0 0), [], rfl, rfl, rfl, rfl, rfl, rfl, CH.nil, (HSub.refl _)⟩ ?_)
   rintro ⟨i_484, out_485⟩ x488 H486 f bs gs ⟨vout_485, xsout_485, hf1, hf3, hf5, hf6, rfl, rfl, hout_485, hs486⟩ hF hr487
   rw [F_ref03_TurnedRows_s2] at hF
   refine (JC.norm (i := 1) hf1 (JC.norm (i := 3) hf3 (JC.norm (i := 5) hf5 (JC.norm (i := 6) hf6 ?_))))
   refine JC.seq (JC.seq (JC.region (by rfl) ?_))
   intro hQ
   refine JL.move .none rfl ?_
   refine JL.bin rfl rfl rfl .none rfl ?_
   refine JL.done hQ (JQ.go ?_)
   rcases ite_some hF with ⟨hc489, hF⟩ | ⟨hc489, hF⟩
   ·refine JC.cond_t (b := decide (0 ≤ i_484)) rfl hc489 ?_
    refine JC.skip (JQ.go (JC.seq (JC.block ?_)))
    obtain ⟨y500, hy500, hF⟩ := bind_some hF
    obtain ⟨y505, hy505, hF⟩ := bind_some hF
    obtain ⟨l511, hl511, hF⟩ := bind_some hF
    refine JC.mixed 21 21 #[false, false, false, false, false, false, false, false, false, false, false, false, false, false, false, false, false, false, false, false, false] [(b1, .cells [p_v0].toArray 30)] (by rfl) mo_ (by kernel_rfl) (by kernel_rfl) ?_
    intro hQ hE
    refine JA.take 0 (listed' := #[true, false, false, false, false, false, false, false, false, false, false, false, false, false, false, false, false, false, false, false, false]) hQ rfl (by kernel_rfl) (by kernel_rfl) (by kernel_rfl) (by kernel_rfl) (by kernel_rfl) hE (HSub.refl _) (.cons_cons _ (List.nil_sublist _)) ?_
    refine JL.move .none rfl ?_
    refine JA.cont ?_
    refine JA.take 1 (listed' := #[true, true, false, false, false, false, false, false, false, false, false, false, false, false, false, false, false, false, false, false, false]) hQ rfl (by kernel_rfl) (by kernel_rfl) (by kernel_rfl) (by kernel_rfl) (by kernel_rfl) hE (HSub.refl _) (.cons_cons _ (List.nil_sublist _)) ?_
    refine JL.move .none rfl ?_
    refine JA.cont ?_
    refine JA.take 2 (listed' := #[true, true, true, false, false, false, false, false, false, false, false, false, false, false, false, false, false, false, false, false, false]) hQ rfl (by kernel_rfl) (by kernel_rfl) (by kernel_rfl) (by kernel_rfl) (by kernel_rfl) hE (HSub.refl _) (.cons_cons _ (List.nil_sublist _)) ?_
    refine JL.fieldAddr fo_30_0 rfl .none rfl ?_
    refine JA.cont ?_
    refine JA.take 3 (listed' := #[true, true, true, true, false, false, false, false, false, false, false, false, false, false, false, false, false, false, false, false, false]) hQ rfl (by kernel_rfl) (by kernel_rfl) (by kernel_rfl) (by kernel_rfl) (by kernel_rfl) hE (HSub.refl _) (.cons_cons _ (List.nil_sublist _)) ?_
    refine JL.loadOwn 0 az_28 rfl rfl rfl .none rfl ?_
    refine JA.cont ?_
    refine JA.take 4 (listed' := #[true, true, true, true, true, false, false, false, false, false, false, false, false, false, false, false, false, false, false, false, false]) hQ rfl (by kernel_rfl) (by kernel_rfl) (by kernel_rfl) (by kernel_rfl) (by kernel_rfl) hE (HSub.refl _) (.cons_cons _ (List.nil_sublist _)) ?_
    refine JL.move .none rfl ?_
    refine JA.cont ?_
    refine JA.take 5 (listed' := #[true, true, true, true, true, true, false, false, false, false, false, false, false, false, false, false, false, false, false, false, false]) hQ rfl (by kernel_rfl) (by kernel_rfl) (by kernel_rfl) (by kernel_rfl) (by kernel_rfl) hE (HSub.refl _) (.cons_cons _ (List.nil_sublist _)) ?_
    refine JL.indexSL (R := R_Span) sl_28 (SL.mono R_Span_mono (HSub.trans hs32 hs486) hp_0) rfl hy500 .none rfl ?_
    rintro b539 o540 cs541 hc542 - rfl
    refine JA.cont ?_
    refine JA.take 6 (listed' := #[true, true, true, true, true, true, true, false, false, false, false, false, false, false, false, false, false, false, false, false, false]) hQ rfl (by kernel_rfl) (by kernel_rfl) (by kernel_rfl) (by kernel_rfl) (by kernel_rfl) hE (HSub.refl _) (.cons_cons _ (List.nil_sublist _)) ?_
    refine JL.fieldAddr fo_46_1 rfl .none rfl ?_
    refine JA.cont ?_
    refine JA.take 7 (listed' := #[true, true, true, true, true, true, true, true, false, false, false, false, false, false, false, false, false, false, false, false, false]) hQ rfl (by kernel_rfl) (by kernel_rfl) (by kernel_rfl) (by kernel_rfl) (by kernel_rfl) hE (HSub.refl _) (.cons_cons _ (List.nil_sublist _)) ?_
    refine JL.loadH 1 az_3 rfl hc542 rfl .none rfl ?_
    refine JA.cont ?_
    refine JA.take 8 (listed' := #[true, true, true, true, true, true, true, true, true, false, false, false, false, false, false, false, false, false, false, false, false]) hQ rfl (by kernel_rfl) (by kernel_rfl) (by kernel_rfl) (by kernel_rfl) (by kernel_rfl) hE (HSub.refl _) (.cons_cons _ (List.nil_sublist _)) ?_
    refine JL.bin rfl rfl rfl .none rfl ?_
    refine JA.cont ?_
    refine JA.take 9 (listed' := #[true, true, true, true, true, true, true, true, true, true, false, false, false, false, false, false, false, false, false, false, false]) hQ rfl (by kernel_rfl) (by kernel_rfl) (by kernel_rfl) (by kernel_rfl) (by kernel_rfl) hE (HSub.refl _) (.cons_cons _ (List.nil_sublist _)) ?_
    refine JL.move .none rfl ?_
    refine JA.cont ?_
    refine JA.take 10 (listed' := #[true, true, true, true, true, true, true, true, true, true, true, false, false, false, false, false, false, false, false, false, false]) hQ rfl (by kernel_rfl) (by kernel_rfl) (by kernel_rfl) (by kernel_rfl) (by kernel_rfl) hE (HSub.refl _) (.cons_cons _ (List.nil_sublist _)) ?_
    refine JL.fieldAddr fo_30_0 rfl .none rfl ?_
    refine JA.cont ?_
    refine JA.take 11 (listed' := #[true, true, true, true, true, true, true, true, true, true, true, true, false, false, false, false, false, false, false, false, false]) hQ rfl (by kernel_rfl) (by kernel_rfl) (by kernel_rfl) (by kernel_rfl) (by kernel_rfl) hE (HSub.refl _) (.cons_cons _ (List.nil_sublist _)) ?_
    refine JL.loadOwn 0 az_28 rfl rfl rfl .none rfl ?_
    refine JA.cont ?_
    refine JA.take 12 (listed' := #[true, true, true, true, true, true, true, true, true, true, true, true, true, false, false, false, false, false, false, false, false]) hQ rfl (by kernel_rfl) (by kernel_rfl) (by kernel_rfl) (by kernel_rfl) (by kernel_rfl) hE (HSub.refl _) (.cons_cons _ (List.nil_sublist _)) ?_
    refine JL.move .none rfl ?_
    refine JA.cont ?_
    refine JA.take 13 (listed' := #[true, true, true, true, true, true, true, true, true, true, true, true, true, true, false, false, false, false, false, false, false]) hQ rfl (by kernel_rfl) (by kernel_rfl) (by kernel_rfl) (by kernel_rfl) (by kernel_rfl) hE (HSub.refl _) (.cons_cons _ (List.nil_sublist _)) ?_
    refine JL.indexSL (R := R_Span) sl_28 (SL.mono R_Span_mono (HSub.trans hs32 hs486) hp_0) rfl hy505 .none rfl ?_
    rintro b547 o548 cs549 hc550 - rfl
    refine JA.cont ?_
    refine JA.take 14 (listed' := #[true, true, true, true, true, true, true, true, true, true, true, true, true, true, true, false, false, false, false, false, false]) hQ rfl (by kernel_rfl) (by kernel_rfl) (by kernel_rfl) (by kernel_rfl) (by kernel_rfl) hE (HSub.refl _) (.cons_cons _ (List.nil_sublist _)) ?_
    refine JL.fieldAddr fo_46_0 rfl .none rfl ?_
    refine JA.cont ?_
    refine JA.take 15 (listed' := #[true, true, true, true, true, true, true, true, true, true, true, true, true, true, true, true, false, false, false, false, false]) hQ rfl (by kernel_rfl) (by kernel_rfl) (by kernel_rfl) (by kernel_rfl) (by kernel_rfl) hE (HSub.refl _) (.cons_cons _ (List.nil_sublist _)) ?_
    refine JL.loadH 0 az_3 rfl hc550 rfl .none rfl ?_
    refine JA.cont ?_
    refine JA.take 16 (listed' := #[true, true, true, true, true, true, true, true, true, true, true, true, true, true, true, true, true, false, false, false, false]) hQ rfl (by kernel_rfl) (by kernel_rfl) (by kernel_rfl) (by kernel_rfl) (by kernel_rfl) hE (HSub.refl _) (.cons_cons _ (List.nil_sublist _)) ?_
    refine JL.bin rfl rfl rfl .none rfl ?_
    refine JA.cont ?_
    refine JA.take 17 (listed' := #[true, true, true, true, true, true, true, true, true, true, true, true, true, true, true, true, true, true, false, false, false]) hQ rfl (by kernel_rfl) (by kernel_rfl) (by kernel_rfl) (by kernel_rfl) (by kernel_rfl) hE (HSub.refl _) (.cons_cons _ (List.nil_sublist _)) ?_
    refine JL.build (l := [.int .i64 (w64 (w_31 - y500.High)), .int .i64 (w64 (w_31 - y505.Low))]) (by kernel_rfl) .none rfl ?_
    refine JA.cont ?_
    refine JA.many [18] (by kernel_rfl) (by simp) (all_one ⟨_, #[true, true, true, true, true, true, true, true, true, true, true, true, true, true, true, true, true, true, true, false, false], rfl, (by kernel_rfl), ?_⟩)
    refine JL.buildSlice (e := 46) (l := [.int .i64 (w64 (w_31 - y500.High)), .int .i64 (w64 (w_31 - y505.Low))]) (by kernel_rfl) .none rfl ?_
    intro b551
    refine JA.after hE (HSub.refl _) (.cons _ (.cons_cons _ (List.nil_sublist _))) ?_
    refine JA.many [19] (by kernel_rfl) (by simp) (all_one ⟨_, #[true, true, true, true, true, true, true, true, true, true, true, true, true, true, true, true, true, true, true, true, false], rfl, (by kernel_rfl), ?_⟩)
    refine JL.appO (R := R_Span) 0 0 (l := out_485) (m := [(Span.mk (w64 (w_31 - y500.High)) (w64 (w_31 - y505.Low)))]) ap_28 rfl ⟨rfl, rfl⟩ rfl hout_485 rfl rfl rfl (CH.cons (cs := [.int .i64 (w64 (w_31 - y500.High)), .int .i64 (w64 (w_31 - y505.Low))]) rfl rfl CH.nil) rfl (one_cons rfl (one_cons rfl one_nil)) hl511 .none rfl ?_
    intro v552 xs553 hch554
    refine JA.after hE (HSub.refl _) (.cons _ (.cons_cons _ (List.nil_sublist _))) ?_
    refine JA.take 20 (listed' := #[true, true, true, true, true, true, true, true, true, true, true, true, true, true, true, true, true, true, true, true, true]) hQ rfl (by kernel_rfl) (by kernel_rfl) (by kernel_rfl) (by kernel_rfl) (by kernel_rfl) hE (HSub.refl _) (.cons _ (.cons_cons _ (List.nil_sublist _))) ?_
    refine JL.assign .none rfl ?_
    refine JA.cont ?_
    refine JA.done hQ (by kernel_rfl) ?_
    refine JQ.normal_block (JQ.go (JC.fresh (fun f => f 1 = .pointer (some ⟨b1, 0, none⟩) ∧ f 3 = .int .i64 w_31 ∧ f 5 = v552 ∧ f 6 = .int .i64 i_484) ⟨rfl, rfl, rfl, rfl⟩ ?_))
    rintro f ⟨hf1, hf3, hf5, hf6⟩
    refine (JC.norm (i := 1) hf1 (JC.norm (i := 3) hf3 (JC.norm (i := 5) hf5 (JC.norm (i := 6) hf6 ?_))))
    refine JC.region (by rfl) ?_
    intro hQ
    refine JL.move .none rfl ?_
    refine JL.bin rfl rfl rfl .none rfl ?_
    refine JL.assign .none rfl ?_
    refine JL.done hQ ?_
    obtain rfl := Option.some.inj hF
    refine JQ.mask [false, true] [true] ?_
    exact JQ.next rfl ⟨v552, xs553, rfl, rfl, rfl, rfl, rfl, rfl, hch554, hs486⟩
   ·refine JC.cond_f (b := decide (0 ≤ i_484)) rfl hc489 ?_
    refine JC.exit (JQ.exit_then (JQ.exit_then (JQ.exit_block ?_)))
    obtain rfl := Option.some.inj hF
    have ehr487 := hr487 _ rfl
    subst ehr487
    refine JQ.mask [false] [true] ?_
    exact JQ.join out_485 ⟨vout_485, xsout_485, rfl, rfl, rfl, hout_485, hs486, rfl⟩
  ·rintro out_343 H344 f bs gs ⟨vout_343, xsout_343, hf5, rfl, rfl, hout_343, hs344, rfl⟩
   have hF := hKr345
   try dsimp only at hF
   refine (JQ.norm (i := 5) hf5 ?_)
   refine JQ.go (JC.seq (JC.region (by rfl) ?_))
   intro hQ
   refine JL.move .none rfl ?_
   refine JL.assign .none rfl ?_
   refine JL.done hQ (JQ.go (JC.ret (JQ.freezeG 0 (R := R_Span) rfl R_Span_mono hout_343 rfl ?_)))
   intro H555 hs555 hg556
   obtain rfl := Option.some.inj hF
   exact JQ.outH rfl (.tmp .nil) hg556
-- 50 ferrule/ferruleref03.CellsOf
def F_ref03_CellsOf_s2 (n : Nat) (at_ : Place) (rows_6 : List Span) (k_630 : Int) : Int × List Cell → Option ((Int × List Cell) ⊕ (List Cell))
 | (c_716, out_717) => (geti rows_6 k_630).bind fun y721 => if decide (c_716 ≤ y721.High) = true then ((lim (out_717 ++ [(Cell.mk (w64 (at_.Row + k_630)) (w64 (at_.Col + c_716)))])).bind fun l728 => some (Sum.inl ((w64 (c_716 + 1)), l728))) else (some (Sum.inr out_717))
def F_ref03_CellsOf_s1 (n : Nat) (at_ : Place) (rows_6 : List Span) : Int × List Cell → Option ((Int × List Cell) ⊕ (List Cell))
 | (k_630, out_631) => if decide (k_630 < (rows_6.length : Int)) = true then ((geti rows_6 k_630).bind fun y636 => (loopO n (F_ref03_CellsOf_s2 n at_ rows_6 k_630) (y636.Low, out_631)).bind fun out_685 => some (Sum.inl ((w64 (k_630 + 1)), out_685))) else (some (Sum.inr out_631))
def F_ref03_CellsOf (n : Nat) (p : Panel) (at_ : Place) : Option (List Cell) :=
 (if (at_.Turned == 1) = true then ((F_ref03_TurnedRows n p).bind fun y10 => some y10) else (some p.Rows)).bind fun rows_6 => (loopO n (F_ref03_CellsOf_s1 n at_ rows_6) (0, ([] : List Cell))).bind fun out_427 => some out_427
theorem c_ref03_CellsOf (n : Nat) (H : Hp) (p : Panel) (p_v0 : Value) (hp_0 : SL H 2 R_Span p_v0 p.Rows) (at_ : Place) (y : (List Cell)) (hF : F_ref03_CellsOf n p at_ = some y) : HC Try.prog 50 [.agg [p_v0].toArray, .agg [.int .i64 at_.Row, .int .i64 at_.Col, .int .i64 at_.Turned].toArray] H (fun H' ra_v0 => SL H' 2 R_Cell ra_v0 y) := by
 rw [F_ref03_CellsOf] at hF
 refine HC.of (N := 49) Try.func50 rfl rfl rfl fun w => ?_
 refine JC.seq (JC.region (by rfl) ?_)
 intro hQ
 refine JL.box (cs := [p_v0]) rfl .none rfl ?_
 intro b1
 refine JL.box (cs := [.int .i64 at_.Row, .int .i64 at_.Col, .int .i64 at_.Turned]) rfl .none rfl ?_
 intro b2
 refine JL.assign .none rfl ?_
 refine JL.done hQ (JQ.go (JC.seq (JC.region (by rfl) ?_)))
 intro hQ
 refine JL.fieldAddr fo_30_0 rfl .none rfl ?_
 refine JL.loadOwn 1 az_28 rfl rfl rfl .none rfl ?_
 refine JL.assign .none rfl ?_
 refine JL.done hQ (JQ.go (JC.seq (JC.seq (JC.region (by rfl) ?_))))
 intro hQ
 refine JL.fieldAddr fo_62_2 rfl .none rfl ?_
 refine JL.loadOwn 0 az_3 rfl rfl rfl .none rfl ?_
 refine JL.bin rfl rfl rfl .none rfl ?_
 refine JL.done hQ (JQ.go ?_)
 obtain ⟨r8, hlr8, hKr8⟩ := bind_some hF
 refine JC.join (fun (rows_6 : List Span) H7 f bs gs => ∃ (vrows_6 : Value), f 3 = .pointer (some ⟨b2, 0, none⟩) ∧ f 5 = vrows_6 ∧ bs = [(b2, .cells [.int .i64 at_.Row, .int .i64 at_.Col, .int .i64 at_.Turned].toArray 62)] ∧ gs = [] ∧ SL H7 2 R_Span vrows_6 rows_6 ∧ HSub H H7 ∧ rows_6 = r8) ?_ ?_
 ·have hF := hlr8
  rcases ite_some hF with ⟨hc9, hF⟩ | ⟨hc9, hF⟩
  ·refine JC.cond_t (b := (at_.Turned == 1)) rfl hc9 ?_
   refine JC.region (by rfl) ?_
   intro hQ
   refine JL.loadOwn 1 az_30 rfl rfl rfl .none rfl ?_
   obtain ⟨y10, hy10, hF⟩ := bind_some hF
   refine JL.callH (c_ref03_TurnedRows n H p p_v0 hp_0 y10 hy10) rfl en_16 .none rfl ?_
   intro H11 y10a_v0 hs11 hy10a_0
   refine JL.assign .none rfl ?_
   refine JL.done hQ ?_
   obtain rfl := Option.some.inj hF
   refine JQ.mask [true, false] [] ?_
   exact JQ.join y10 ⟨y10a_v0, rfl, rfl, rfl, rfl, hy10a_0, hs11, rfl⟩
  ·refine JC.cond_f (b := (at_.Turned == 1)) rfl hc9 ?_
   refine JC.skip ?_
   obtain rfl := Option.some.inj hF
   refine JQ.mask [true, false] [] ?_
   exact JQ.join p.Rows ⟨p_v0, rfl, rfl, rfl, rfl, hp_0, (HSub.refl _), rfl⟩
 ·rintro rows_6 H7 f bs gs ⟨vrows_6, hf3, hf5, rfl, rfl, hrows_6, hs7, rfl⟩
  have hF := hKr8
  try dsimp only at hF
  refine (JQ.norm (i := 3) hf3 (JQ.norm (i := 5) hf5 ?_))
  refine JQ.go (JC.seq (JC.region (by rfl) ?_))
  intro hQ
  refine JL.assign .none rfl ?_
  refine JL.done hQ (JQ.go (JC.seq (JC.seq (JC.region (by rfl) ?_))))
  intro hQ
  refine JL.assign .none rfl ?_
  refine JL.done hQ (JQ.go (JC.newNil (e := 27) (sz := 2) ?_))
  obtain ⟨r429, hlr429, hKr429⟩ := bind_some hF
  refine JC.join (fun (out_427 : List Cell) H428 f bs gs => ∃ (vout_427 : Value) (xsout_427 : List Value), f 6 = vout_427 ∧ bs = [] ∧ gs = [⟨vout_427, 27, 2, out_427.length, xsout_427⟩] ∧ CH H428 2 R_Cell xsout_427 out_427 ∧ HSub H7 H428 ∧ out_427 = r429) ?_ ?_
  ·skip
   refine JC.block (JC.loop hlr429 (fun (x : Int × List Cell) H632 f bs gs => match x with | (k_630, out_631) => ∃ (vout_631 : Value) (xsout_631 : List Value), f 3 = .pointer (some ⟨b2, 0, none⟩) ∧ f 5 = vrows_6 ∧ f 6 = vout_631 ∧ f 7 = .int .i64 k_630 ∧ bs = [(b2, .cells [.int .i64 at_.Row, .int .i64 at_.Col, .int .i64 at_.Turned].toArray 62)] ∧ gs = [⟨vout_631, 27, 2, out_631.length, xsout_631⟩] ∧ CH H632 2 R_Cell xsout_631 out_631 ∧ HSub H7 H632) ⟨(.slice none 0 0), [], rfl, rfl, rfl, rfl, rfl, rfl, CH.nil, (HSub.refl _)⟩ ?_)
   rintro ⟨k_630, out_631⟩ x634 H632 f bs gs ⟨vout_631, xsout_631, hf3, hf5, hf6, hf7, rfl, rfl, hout_631, hs632⟩ hF hr633
   rw [F_ref03_CellsOf_s1] at hF
   refine (JC.norm (i := 3) hf3 (JC.norm (i := 5) hf5 (JC.norm (i := 6) hf6 (JC.norm (i := 7) hf7 ?_))))
   refine JC.seq (JC.seq (JC.region (by rfl) ?_))
   intro hQ
   refine JL.move .none rfl ?_
   refine JL.move .none rfl ?_
   refine JL.lenSL (R := R_Span) ul_28 (SL.mono R_Span_mono hs632 hrows_6) .none rfl ?_
   refine JL.bin rfl rfl rfl .none rfl ?_
   refine JL.done hQ (JQ.go ?_)
   rcases ite_some hF with ⟨hc635, hF⟩ | ⟨hc635, hF⟩
   ·refine JC.cond_t (b := decide (k_630 < (rows_6.length : Int))) rfl hc635 ?_
    refine JC.skip (JQ.go (JC.seq (JC.block (JC.seq (JC.region (by rfl) ?_)))))
    intro hQ
    refine JL.move .none rfl ?_
    refine JL.move .none rfl ?_
    obtain ⟨y636, hy636, hF⟩ := bind_some hF
    refine JL.indexSL (R := R_Span) sl_28 (SL.mono R_Span_mono hs632 hrows_6) rfl hy636 .none rfl ?_
    rintro b637 o638 cs639 hc640 - rfl
    refine JL.fieldAddr fo_46_0 rfl .none rfl ?_
    refine JL.loadH 0 az_3 rfl hc640 rfl .none rfl ?_
    refine JL.assign .none rfl ?_
    refine JL.done hQ (JQ.go (JC.fresh (fun f => f 3 = .pointer (some ⟨b2, 0, none⟩) ∧ f 5 = vrows_6 ∧ f 6 = vout_631 ∧ f 7 = .int .i64 k_630 ∧ f 8 = .int .i64 y636.Low) ⟨rfl, rfl, rfl, rfl, rfl⟩ ?_))
    rintro f ⟨hf3, hf5, hf6, hf7, hf8⟩
    refine (JC.norm (i := 3) hf3 (JC.norm (i := 5) hf5 (JC.norm (i := 6) hf6 (JC.norm (i := 7) hf7 (JC.norm (i := 8) hf8 ?_)))))
    obtain ⟨r687, hlr687, hKr687⟩ := bind_some hF
    refine JC.join (fun (out_685 : List Cell) H686 f bs gs => ∃ (vout_685 : Value) (xsout_685 : List Value), f 3 = .pointer (some ⟨b2, 0, none⟩) ∧ f 5 = vrows_6 ∧ f 6 = vout_685 ∧ f 7 = .int .i64 k_630 ∧ bs = [(b2, .cells [.int .i64 at_.Row, .int .i64 at_.Col, .int .i64 at_.Turned].toArray 62)] ∧ gs = [⟨vout_685, 27, 2, out_685.length, xsout_685⟩] ∧ CH H686 2 R_Cell xsout_685 out_685 ∧ HSub H632 H686 ∧ out_685 = r687) ?_ ?_
    ·skip
     refine JC.block (JC.loop hlr687 (fun (x : Int × List Cell) H718 f bs gs => match x with | (c_716, out_717) => ∃ (vout_717 : Value) (xsout_717 : List Value), f 3 = .pointer (some ⟨b2, 0, none⟩) ∧ f 5 = vrows_6 ∧ f 6 = vout_717 ∧ f 7 = .int .i64 k_630 ∧ f 8 = .int .i64 c_716 ∧ bs = [(b2, .cells [.int .i64 at_.Row, .int .i64 at_.Col, .int .i64 at_.Turned].toArray 62)] ∧ gs = [⟨vout_717, 27, 2, out_717.length, xsout_717⟩] ∧ CH H718 2 R_Cell xsout_717 out_717 ∧ HSub H632 H718) ⟨vout_631, xsout_631, rfl, rfl, rfl, rfl, rfl, rfl, rfl, hout_631, (HSub.refl _)⟩ ?_)
     rintro ⟨c_716, out_717⟩ x720 H718 f bs gs ⟨vout_717, xsout_717, hf3, hf5, hf6, hf7, hf8, rfl, rfl, hout_717, hs718⟩ hF hr719
     rw [F_ref03_CellsOf_s2] at hF
     refine (JC.norm (i := 3) hf3 (JC.norm (i := 5) hf5 (JC.norm (i := 6) hf6 (JC.norm (i := 7) hf7 (JC.norm (i := 8) hf8 ?_)))))
     refine JC.seq (JC.seq (JC.region (by rfl) ?_))
     intro hQ
     refine JL.move .none rfl ?_
     refine JL.move .none rfl ?_
     refine JL.move .none rfl ?_
     obtain ⟨y721, hy721, hF⟩ := bind_some hF
     refine JL.indexSL (R := R_Span) sl_28 (SL.mono R_Span_mono (HSub.trans hs632 hs718) hrows_6) rfl hy721 .none rfl ?_
     rintro b722 o723 cs724 hc725 - rfl
     refine JL.fieldAddr fo_46_1 rfl .none rfl ?_
     refine JL.loadH 1 az_3 rfl hc725 rfl .none rfl ?_
     refine JL.bin rfl rfl rfl .none rfl ?_
     refine JL.done hQ (JQ.go ?_)
     rcases ite_some hF with ⟨hc726, hF⟩ | ⟨hc726, hF⟩
     ·refine JC.cond_t (b := decide (c_716 ≤ y721.High)) rfl hc726 ?_
      refine JC.skip (JQ.go (JC.seq (JC.block (JC.region (by rfl) ?_))))
      intro hQ
      refine JL.move .none rfl ?_
      refine JL.fieldAddr fo_62_0 rfl .none rfl ?_
      refine JL.loadOwn 0 az_3 rfl rfl rfl .none rfl ?_
      refine JL.move .none rfl ?_
      refine JL.bin rfl rfl rfl .none rfl ?_
      refine JL.fieldAddr fo_62_1 rfl .none rfl ?_
      refine JL.loadOwn 0 az_3 rfl rfl rfl .none rfl ?_
      refine JL.move .none rfl ?_
      refine JL.bin rfl rfl rfl .none rfl ?_
      refine JL.build (l := [.int .i64 (w64 (at_.Row + k_630)), .int .i64 (w64 (at_.Col + c_716))]) (by kernel_rfl) .none rfl ?_
      refine JL.buildSlice (e := 27) (l := [.int .i64 (w64 (at_.Row + k_630)), .int .i64 (w64 (at_.Col + c_716))]) (by kernel_rfl) .none rfl ?_
      intro b727
      obtain ⟨l728, hl728, hF⟩ := bind_some hF
      refine JL.appO (R := R_Cell) 0 0 (l := out_717) (m := [(Cell.mk (w64 (at_.Row + k_630)) (w64 (at_.Col + c_716)))]) ap_22 rfl ⟨rfl, rfl⟩ rfl hout_717 rfl rfl rfl (CH.cons (cs := [.int .i64 (w64 (at_.Row + k_630)), .int .i64 (w64 (at_.Col + c_716))]) rfl rfl CH.nil) rfl (one_cons rfl (one_cons rfl one_nil)) hl728 .none rfl ?_
      intro v729 xs730 hch731
      refine JL.assign .none rfl ?_
      refine JL.done hQ (JQ.normal_block (JQ.go (JC.fresh (fun f => f 3 = .pointer (some ⟨b2, 0, none⟩) ∧ f 5 = vrows_6 ∧ f 6 = v729 ∧ f 7 = .int .i64 k_630 ∧ f 8 = .int .i64 c_716) ⟨rfl, rfl, rfl, rfl, rfl⟩ ?_)))
      rintro f ⟨hf3, hf5, hf6, hf7, hf8⟩
      refine (JC.norm (i := 3) hf3 (JC.norm (i := 5) hf5 (JC.norm (i := 6) hf6 (JC.norm (i := 7) hf7 (JC.norm (i := 8) hf8 ?_)))))
      refine JC.region (by rfl) ?_
      intro hQ
      refine JL.move .none rfl ?_
      refine JL.bin rfl rfl rfl .none rfl ?_
      refine JL.assign .none rfl ?_
      refine JL.done hQ ?_
      obtain rfl := Option.some.inj hF
      refine JQ.mask [false, true] [true] ?_
      exact JQ.next rfl ⟨v729, xs730, rfl, rfl, rfl, rfl, rfl, rfl, rfl, hch731, hs718⟩
     ·refine JC.cond_f (b := decide (c_716 ≤ y721.High)) rfl hc726 ?_
      refine JC.exit (JQ.exit_then (JQ.exit_then (JQ.exit_block ?_)))
      obtain rfl := Option.some.inj hF
      have ehr719 := hr719 _ rfl
      subst ehr719
      exact JQ.join out_717 ⟨vout_717, xsout_717, rfl, rfl, rfl, rfl, rfl, rfl, hout_717, hs718, rfl⟩
    ·rintro out_685 H686 f bs gs ⟨vout_685, xsout_685, hf3, hf5, hf6, hf7, rfl, rfl, hout_685, hs686, rfl⟩
     have hF := hKr687
     try dsimp only at hF
     refine (JQ.norm (i := 3) hf3 (JQ.norm (i := 5) hf5 (JQ.norm (i := 6) hf6 (JQ.norm (i := 7) hf7 ?_))))
     refine JQ.normal_block (JQ.go (JC.region (by rfl) ?_))
     intro hQ
     refine JL.move .none rfl ?_
     refine JL.bin rfl rfl rfl .none rfl ?_
     refine JL.assign .none rfl ?_
     refine JL.done hQ ?_
     obtain rfl := Option.some.inj hF
     exact JQ.next rfl ⟨vout_685, xsout_685, rfl, rfl, rfl, rfl, rfl, rfl, hout_685, (HSub.trans hs632 hs686)⟩
   ·refine JC.cond_f (b := decide (k_630 < (rows_6.length : Int))) rfl hc635 ?_
    refine JC.exit (JQ.exit_then (JQ.exit_then (JQ.exit_block ?_)))
    obtain rfl := Option.some.inj hF
    have ehr633 := hr633 _ rfl
    subst ehr633
    refine JQ.mask [false] [true] ?_
    exact JQ.join out_631 ⟨vout_631, xsout_631, rfl, rfl, rfl, hout_631, hs632, rfl⟩
  ·rintro out_427 H428 f bs gs ⟨vout_427, xsout_427, hf6, rfl, rfl, hout_427, hs428, rfl⟩
   have hF := hKr429
   try dsimp only at hF
   refine (JQ.norm (i := 6) hf6 ?_)
   refine JQ.go (JC.seq (JC.region (by rfl) ?_))
   intro hQ
   refine JL.move .none rfl ?_
   refine JL.assign .none rfl ?_
   refine JL.done hQ (JQ.go (JC.ret (JQ.freezeG 0 (R := R_Cell) rfl R_Cell_mono hout_427 rfl ?_)))
   intro H732 hs732 hg733
   obtain rfl := Option.some.inj hF
   exact JQ.outH rfl (.tmp .nil) hg733
end Go.Proofs.Ytflhjlgimihmgaa
end
section
set_option maxRecDepth 100000
set_option maxHeartbeats 40000000
namespace Go.Proofs.Ytflhjlgimihmgaa
open Go Go.RowKit Go.Dec
set_option linter.unusedVariables false
-- 25 ferrule/ferruleref03.Rows
def F_ref03_Rows_s2 (n : Nat) (s : Lap) (bad : List Cell) (out_3639 : List Cell) (y3665 : (List Cell)) : Int × Int → Option ((Int × Int) ⊕ (((Int × Int × List Cell) ⊕ (Int ⊕ Int)) ⊕ Int))
 | (rows_4156, k_4157) => if decide (k_4157 < (y3665.length : Int)) = true then ((geti y3665 k_4157).bind fun y4202 => (F_ref03_IsCell n s y4202).bind fun y4207 => (if (!y4207) = true then (some true) else ((geti y3665 k_4157).bind fun y4217 => (F_ref03_In n bad y4217).bind fun y4222 => some y4222) : Option Bool).bind fun p4214 => (if p4214 = true then (some true) else ((geti y3665 k_4157).bind fun y4234 => (F_ref03_In n out_3639 y4234).bind fun y4241 => some y4241) : Option Bool).bind fun p4231 => if p4231 = true then (some (Sum.inr (Sum.inl (Sum.inr (Sum.inl (-1)))))) else ((geti y3665 k_4157).bind fun y4243 => some (Sum.inl ((max rows_4156 (w64 (y4243.Row + 1))), (w64 (k_4157 + 1)))))) else (some (Sum.inr (Sum.inr rows_4156)))
def F_ref03_Rows_s1 (n : Nat) (s : Lap) (bad : List Cell) (lay : List Place) : Int × Int × List Cell → Option ((Int × Int × List Cell) ⊕ (Int ⊕ Int))
 | (rows_3637, i_3638, out_3639) => if decide (i_3638 < (lay.length : Int)) = true then ((geti s.Panels i_3638).bind fun y3655 => (geti lay i_3638).bind fun y3660 => (F_ref03_CellsOf n y3655 y3660).bind fun y3665 => (loopO n (F_ref03_Rows_s2 n s bad out_3639 y3665) (rows_3637, 0)).bind fun r3975 => match r3975 with | .inl o => some o | .inr rows_3973 => (lim (out_3639 ++ y3665)).bind fun l4248 => some (Sum.inl (rows_3973, (w64 (i_3638 + 1)), l4248))) else (some (Sum.inr (Sum.inr rows_3637)))
def F_ref03_Rows (n : Nat) (s : Lap) (bad : List Cell) (lay : List Place) : Option Int :=
 if ((lay.length : Int) != (s.Panels.length : Int)) = true then (some (-1)) else ((loopO n (F_ref03_Rows_s1 n s bad lay) (0, 0, ([] : List Cell))).bind fun r2410 => match r2410 with | .inl o => some o | .inr rows_2408 => some rows_2408)
theorem c_ref03_Rows (n : Nat) (H : Hp) (s : Lap) (s_v2 : Value) (hs_2 : SL H 2 R_Cell s_v2 s.Faults) (s_v3 : Value) (hs_3 : SL H 2 R_Cell s_v3 s.Flaws) (s_v4 : Value) (hs_4 : SL H 1 R_Panel s_v4 s.Panels) (bad : List Cell) (bad_v0 : Value) (hbad_0 : SL H 2 R_Cell bad_v0 bad) (lay : List Place) (lay_v0 : Value) (hlay_0 : SL H 3 R_Place lay_v0 lay) (y : Int) (hF : F_ref03_Rows n s bad lay = some y) : SC Try.prog 25 [.agg [.int .i64 s.Width, .int .i64 s.Length, s_v2, s_v3, s_v4].toArray, bad_v0, lay_v0] (.int .i64 y) H := by
 rw [F_ref03_Rows] at hF
 refine SC.of (N := 75) Try.func25 rfl rfl rfl fun w => ?_
 refine JC.seq (JC.region (by rfl) ?_)
 intro hQ
 refine JL.box (cs := [.int .i64 s.Width, .int .i64 s.Length, s_v2, s_v3, s_v4]) rfl .none rfl ?_
 intro b1
 refine JL.assign .none rfl ?_
 refine JL.done hQ (JQ.go (JC.seq (JC.seq (JC.region (by rfl) ?_))))
 intro hQ
 refine JL.move .none rfl ?_
 refine JL.lenSL (R := R_Place) ul_54 hlay_0 .none rfl ?_
 refine JL.fieldAddr fo_25_4 rfl .none rfl ?_
 refine JL.loadOwn 0 az_23 rfl rfl rfl .none rfl ?_
 refine JL.lenSL (R := R_Panel) ul_23 hs_4 .none rfl ?_
 refine JL.bin rfl rfl rfl .none rfl ?_
 refine JL.done hQ (JQ.go ?_)
 rcases ite_some hF with ⟨hc2, hF⟩ | ⟨hc2, hF⟩
 ·refine JC.cond_t (b := ((lay.length : Int) != (s.Panels.length : Int))) rfl hc2 ?_
  refine JC.seq (JC.region (by rfl) ?_)
  intro hQ
  refine JL.assign .none rfl ?_
  refine JL.done hQ (JQ.go (JC.ret (JQ.ret_then ?_)))
  obtain rfl := Option.some.inj hF
  exact JQ.outS rfl (.tmp .nil) rfl
 ·refine JC.cond_f (b := ((lay.length : Int) != (s.Panels.length : Int))) rfl hc2 ?_
  refine JC.skip (JQ.go (JC.seq (JC.region (by rfl) ?_)))
  intro hQ
  refine JL.assign .none rfl ?_
  refine JL.done hQ (JQ.go (JC.seq (JC.region (by rfl) ?_)))
  intro hQ
  refine JL.assign .none rfl ?_
  refine JL.done hQ (JQ.go (JC.seq (JC.seq (JC.region (by rfl) ?_))))
  intro hQ
  refine JL.assign .none rfl ?_
  refine JL.done hQ (JQ.go (JC.newNil (e := 27) (sz := 2) ?_))
  obtain ⟨r2410, hlr2410, hKr2410⟩ := bind_some hF
  refine JC.join (fun (rows_2408 : Int) H2409 f bs gs => f 8 = .int .i64 rows_2408 ∧ bs = [] ∧ gs = [] ∧ HSub H H2409 ∧ Sum.inr rows_2408 = r2410) ?_ ?_
  ·skip
   refine JC.block (JC.loop hlr2410 (fun (x : Int × Int × List Cell) H3640 f bs gs => match x with | (rows_3637, i_3638, out_3639) => ∃ (vout_3639 : Value) (xsout_3639 : List Value), f 1 = bad_v0 ∧ f 2 = lay_v0 ∧ f 3 = .pointer (some ⟨b1, 0, none⟩) ∧ f 7 = vout_3639 ∧ f 8 = .int .i64 rows_3637 ∧ f 9 = .int .i64 i_3638 ∧ bs = [(b1, .cells [.int .i64 s.Width, .int .i64 s.Length, s_v2, s_v3, s_v4].toArray 25)] ∧ gs = [⟨vout_3639, 27, 2, out_3639.length, xsout_3639⟩] ∧ CH H3640 2 R_Cell xsout_3639 out_3639 ∧ HSub H H3640) ⟨(.slice none 0 0), [], rfl, rfl, rfl, rfl, rfl, rfl, rfl, rfl, CH.nil, (HSub.refl _)⟩ ?_)
   rintro ⟨rows_3637, i_3638, out_3639⟩ x3642 H3640 f bs gs ⟨vout_3639, xsout_3639, hf1, hf2, hf3, hf7, hf8, hf9, rfl, rfl, hout_3639, hs3640⟩ hF hr3641
   rw [F_ref03_Rows_s1] at hF
   refine (JC.norm (i := 1) hf1 (JC.norm (i := 2) hf2 (JC.norm (i := 3) hf3 (JC.norm (i := 7) hf7 (JC.norm (i := 8) hf8 (JC.norm (i := 9) hf9 ?_))))))
   refine JC.seq (JC.seq (JC.region (by rfl) ?_))
   intro hQ
   refine JL.move .none rfl ?_
   refine JL.move .none rfl ?_
   refine JL.lenSL (R := R_Place) ul_54 (SL.mono R_Place_mono hs3640 hlay_0) .none rfl ?_
   refine JL.bin rfl rfl rfl .none rfl ?_
   refine JL.done hQ (JQ.go ?_)
   rcases ite_some hF with ⟨hc3643, hF⟩ | ⟨hc3643, hF⟩
   ·refine JC.cond_t (b := decide (i_3638 < (lay.length : Int))) rfl hc3643 ?_
    refine JC.skip (JQ.go (JC.seq (JC.block (JC.seq ?_))))
    obtain ⟨y3655, hy3655, hF⟩ := bind_some hF
    obtain ⟨y3660, hy3660, hF⟩ := bind_some hF
    obtain ⟨y3665, hy3665, hF⟩ := bind_some hF
    refine JC.mixed 11 11 #[false, false, false, false, false, false, false, false, false, false, false] [(b1, .cells [.int .i64 s.Width, .int .i64 s.Length, s_v2, s_v3, s_v4].toArray 25)] (by rfl) mo_ (by kernel_rfl) (by kernel_rfl) ?_
    intro hQ hE
    refine JA.take 0 (listed' := #[true, false, false, false, false, false, false, false, false, false, false]) hQ rfl (by kernel_rfl) (by kernel_rfl) (by kernel_rfl) (by kernel_rfl) (by kernel_rfl) hE (HSub.refl _) (.cons_cons _ (List.nil_sublist _)) ?_
    refine JL.fieldAddr fo_25_4 rfl .none rfl ?_
    refine JA.cont ?_
    refine JA.take 1 (listed' := #[true, true, false, false, false, false, false, false, false, false, false]) hQ rfl (by kernel_rfl) (by kernel_rfl) (by kernel_rfl) (by kernel_rfl) (by kernel_rfl) hE (HSub.refl _) (.cons_cons _ (List.nil_sublist _)) ?_
    refine JL.loadOwn 0 az_23 rfl rfl rfl .none rfl ?_
    refine JA.cont ?_
    refine JA.take 2 (listed' := #[true, true, true, false, false, false, false, false, false, false, false]) hQ rfl (by kernel_rfl) (by kernel_rfl) (by kernel_rfl) (by kernel_rfl) (by kernel_rfl) hE (HSub.refl _) (.cons_cons _ (List.nil_sublist _)) ?_
    refine JL.move .none rfl ?_
    refine JA.cont ?_
    refine JA.take 3 (listed' := #[true, true, true, true, false, false, false, false, false, false, false]) hQ rfl (by kernel_rfl) (by kernel_rfl) (by kernel_rfl) (by kernel_rfl) (by kernel_rfl) hE (HSub.refl _) (.cons_cons _ (List.nil_sublist _)) ?_
    refine JL.indexSL (R := R_Panel) sl_23 (SL.mono R_Panel_mono hs3640 hs_4) rfl hy3655 .none rfl ?_
    rintro b3688 o3689 cs3690 hc3691 - ⟨y3655_v0, rfl, hy3655_0⟩
    refine JA.cont ?_
    refine JA.take 4 (listed' := #[true, true, true, true, true, false, false, false, false, false, false]) hQ rfl (by kernel_rfl) (by kernel_rfl) (by kernel_rfl) (by kernel_rfl) (by kernel_rfl) hE (HSub.refl _) (.cons_cons _ (List.nil_sublist _)) ?_
    refine JL.loadH 0 az_30 rfl hc3691 rfl .none rfl ?_
    refine JA.cont ?_
    refine JA.take 5 (listed' := #[true, true, true, true, true, true, false, false, false, false, false]) hQ rfl (by kernel_rfl) (by kernel_rfl) (by kernel_rfl) (by kernel_rfl) (by kernel_rfl) hE (HSub.refl _) (.cons_cons _ (List.nil_sublist _)) ?_
    refine JL.move .none rfl ?_
    refine JA.cont ?_
    refine JA.take 6 (listed' := #[true, true, true, true, true, true, true, false, false, false, false]) hQ rfl (by kernel_rfl) (by kernel_rfl) (by kernel_rfl) (by kernel_rfl) (by kernel_rfl) hE (HSub.refl _) (.cons_cons _ (List.nil_sublist _)) ?_
    refine JL.move .none rfl ?_
    refine JA.cont ?_
    refine JA.take 7 (listed' := #[true, true, true, true, true, true, true, true, false, false, false]) hQ rfl (by kernel_rfl) (by kernel_rfl) (by kernel_rfl) (by kernel_rfl) (by kernel_rfl) hE (HSub.refl _) (.cons_cons _ (List.nil_sublist _)) ?_
    refine JL.indexSL (R := R_Place) sl_54 (SL.mono R_Place_mono hs3640 hlay_0) rfl hy3660 .none rfl ?_
    rintro b3696 o3697 cs3698 hc3699 - rfl
    refine JA.cont ?_
    refine JA.take 8 (listed' := #[true, true, true, true, true, true, true, true, true, false, false]) hQ rfl (by kernel_rfl) (by kernel_rfl) (by kernel_rfl) (by kernel_rfl) (by kernel_rfl) hE (HSub.refl _) (.cons_cons _ (List.nil_sublist _)) ?_
    refine JL.loadH 0 az_62 rfl hc3699 rfl .none rfl ?_
    refine JA.cont ?_
    refine JA.many [9] (by kernel_rfl) (by simp) (all_one ⟨_, #[true, true, true, true, true, true, true, true, true, true, false], rfl, (by kernel_rfl), ?_⟩)
    refine JL.callH (c_ref03_CellsOf n H3640 y3655 y3655_v0 hy3655_0 y3660 y3665 hy3665) rfl en_50 .none rfl ?_
    intro H3700 y3665a_v0 hs3700 hy3665a_0
    refine JA.after hE hs3700 (.cons_cons _ (List.nil_sublist _)) ?_
    refine JA.take 10 (listed' := #[true, true, true, true, true, true, true, true, true, true, true]) hQ rfl (by kernel_rfl) (by kernel_rfl) (by kernel_rfl) (by kernel_rfl) (by kernel_rfl) hE hs3700 (.cons_cons _ (List.nil_sublist _)) ?_
    refine JL.assign .none rfl ?_
    refine JA.cont ?_
    refine JA.done hQ (by kernel_rfl) ?_
    refine JQ.go (JC.fresh (fun f => f 1 = bad_v0 ∧ f 2 = lay_v0 ∧ f 3 = .pointer (some ⟨b1, 0, none⟩) ∧ f 7 = vout_3639 ∧ f 8 = .int .i64 rows_3637 ∧ f 9 = .int .i64 i_3638 ∧ f 10 = y3665a_v0) ⟨rfl, rfl, rfl, rfl, rfl, rfl, rfl⟩ ?_)
    rintro f ⟨hf1, hf2, hf3, hf7, hf8, hf9, hf10⟩
    refine (JC.norm (i := 1) hf1 (JC.norm (i := 2) hf2 (JC.norm (i := 3) hf3 (JC.norm (i := 7) hf7 (JC.norm (i := 8) hf8 (JC.norm (i := 9) hf9 (JC.norm (i := 10) hf10 ?_)))))))
    refine JC.seq (JC.seq (JC.region (by rfl) ?_))
    intro hQ
    refine JL.assign .none rfl ?_
    refine JL.done hQ (JQ.go ?_)
    obtain ⟨r3975, hlr3975, hKr3975⟩ := bind_some hF
    refine JC.join (fun (rows_3973 : Int) H3974 f bs gs => f 1 = bad_v0 ∧ f 2 = lay_v0 ∧ f 3 = .pointer (some ⟨b1, 0, none⟩) ∧ f 7 = vout_3639 ∧ f 8 = .int .i64 rows_3973 ∧ f 9 = .int .i64 i_3638 ∧ f 10 = y3665a_v0 ∧ bs = [(b1, .cells [.int .i64 s.Width, .int .i64 s.Length, s_v2, s_v3, s_v4].toArray 25)] ∧ gs = [⟨vout_3639, 27, 2, out_3639.length, xsout_3639⟩] ∧ HSub H3700 H3974 ∧ Sum.inr rows_3973 = r3975) ?_ ?_
    ·skip
     refine JC.block (JC.loop hlr3975 (fun (x : Int × Int) H4158 f bs gs => match x with | (rows_4156, k_4157) => f 1 = bad_v0 ∧ f 2 = lay_v0 ∧ f 3 = .pointer (some ⟨b1, 0, none⟩) ∧ f 7 = vout_3639 ∧ f 8 = .int .i64 rows_4156 ∧ f 9 = .int .i64 i_3638 ∧ f 10 = y3665a_v0 ∧ f 11 = .int .i64 k_4157 ∧ bs = [(b1, .cells [.int .i64 s.Width, .int .i64 s.Length, s_v2, s_v3, s_v4].toArray 25)] ∧ gs = [⟨vout_3639, 27, 2, out_3639.length, xsout_3639⟩] ∧ HSub H3700 H4158) ⟨rfl, rfl, rfl, rfl, rfl, rfl, rfl, rfl, rfl, rfl, (HSub.refl _)⟩ ?_)
     rintro ⟨rows_4156, k_4157⟩ x4160 H4158 f bs gs ⟨hf1, hf2, hf3, hf7, hf8, hf9, hf10, hf11, rfl, rfl, hs4158⟩ hF hr4159
     rw [F_ref03_Rows_s2] at hF
     refine (JC.norm (i := 1) hf1 (JC.norm (i := 2) hf2 (JC.norm (i := 3) hf3 (JC.norm (i := 7) hf7 (JC.norm (i := 8) hf8 (JC.norm (i := 9) hf9 (JC.norm (i := 10) hf10 (JC.norm (i := 11) hf11 ?_))))))))
     refine JC.seq (JC.seq (JC.region (by rfl) ?_))
     intro hQ
     refine JL.move .none rfl ?_
     refine JL.move .none rfl ?_
     refine JL.lenSL (R := R_Cell) ul_22 (SL.mono R_Cell_mono hs4158 hy3665a_0) .none rfl ?_
     refine JL.bin rfl rfl rfl .none rfl ?_
     refine JL.done hQ (JQ.go ?_)
     rcases ite_some hF with ⟨hc4161, hF⟩ | ⟨hc4161, hF⟩
     ·refine JC.cond_t (b := decide (k_4157 < (y3665.length : Int))) rfl hc4161 ?_
      refine JC.skip (JQ.go (JC.seq (JC.block (JC.seq (JC.seq (JC.draw (by rfl) mo_ (by kernel_rfl) ?_))))))
      intro hQ
      refine JL.loadOwn 0 az_25 rfl rfl rfl .none rfl ?_
      refine JL.move .none rfl ?_
      refine JL.move .none rfl ?_
      obtain ⟨y4202, hy4202, hF⟩ := bind_some hF
      refine JL.indexSL (R := R_Cell) sl_22 (SL.mono R_Cell_mono hs4158 hy3665a_0) rfl hy4202 .none rfl ?_
      rintro b4203 o4204 cs4205 hc4206 - rfl
      refine JL.loadH 0 az_27 rfl hc4206 rfl .none rfl ?_
      obtain ⟨y4207, hy4207, hF⟩ := bind_some hF
      refine JL.callS (c_ref03_IsCell n H4158 s s_v2 (SL.mono R_Cell_mono (HSub.trans hs3640 (HSub.trans hs3700 hs4158)) hs_2) s_v3 (SL.mono R_Cell_mono (HSub.trans hs3640 (HSub.trans hs3700 hs4158)) hs_3) s_v4 (SL.mono R_Panel_mono (HSub.trans hs3640 (HSub.trans hs3700 hs4158)) hs_4) y4202 y4207 hy4207) rfl en_52 .none rfl ?_
      refine JL.not rfl .none rfl ?_
      refine JL.move .none rfl ?_
      obtain ⟨p4214, hp4214, hF⟩ := bind_some hF
      refine JL.cut 7 (fun f => f 1 = bad_v0 ∧ f 2 = lay_v0 ∧ f 3 = .pointer (some ⟨b1, 0, none⟩) ∧ f 7 = vout_3639 ∧ f 8 = .int .i64 rows_4156 ∧ f 9 = .int .i64 i_3638 ∧ f 10 = y3665a_v0 ∧ f 11 = .int .i64 k_4157 ∧ f 54 = .bool p4214) ?_ ?_
      ·intro hJ4215
       rcases ite_some hp4214 with ⟨hc4216, hF⟩ | ⟨hc4216, hF⟩
       ·skip
        refine JL.skip (.bool rfl rfl rfl hc4216) rfl ?_
        refine JL.skip (.bool rfl rfl rfl hc4216) rfl ?_
        refine JL.skip (.bool rfl rfl rfl hc4216) rfl ?_
        refine JL.skip (.bool rfl rfl rfl hc4216) rfl ?_
        refine JL.skip (.bool rfl rfl rfl hc4216) rfl ?_
        refine JL.skip (.bool rfl rfl rfl hc4216) rfl ?_
        refine JL.pick_t (b := (!y4207)) rfl hc4216 .none rfl ?_
        obtain rfl := Option.some.inj hF
        exact hJ4215 _ ⟨rfl, rfl, rfl, rfl, rfl, rfl, rfl, rfl, rfl⟩
       ·skip
        refine JL.move (.some rfl rfl rfl hc4216) rfl ?_
        refine JL.move (.some rfl rfl rfl hc4216) rfl ?_
        refine JL.move (.some rfl rfl rfl hc4216) rfl ?_
        obtain ⟨y4217, hy4217, hF⟩ := bind_some hF
        refine JL.indexSL (R := R_Cell) sl_22 (SL.mono R_Cell_mono hs4158 hy3665a_0) rfl hy4217 (.some rfl rfl rfl hc4216) rfl ?_
        rintro b4218 o4219 cs4220 hc4221 - rfl
        refine JL.loadH 0 az_27 rfl hc4221 rfl (.some rfl rfl rfl hc4216) rfl ?_
        obtain ⟨y4222, hy4222, hF⟩ := bind_some hF
        refine JL.callS (c_ref03_In n H4158 bad bad_v0 (SL.mono R_Cell_mono (HSub.trans hs3640 (HSub.trans hs3700 hs4158)) hbad_0) y4217 y4222 hy4222) rfl en_53 (.some rfl rfl rfl hc4216) rfl ?_
        refine JL.pick_f (b := (!y4207)) rfl hc4216 .none rfl ?_
        obtain rfl := Option.some.inj hF
        exact hJ4215 _ ⟨rfl, rfl, rfl, rfl, rfl, rfl, rfl, rfl, rfl⟩
      ·rintro f ⟨hf1, hf2, hf3, hf7, hf8, hf9, hf10, hf11, hf54⟩
       refine (JL.norm (i := 1) hf1 (JL.norm (i := 2) hf2 (JL.norm (i := 3) hf3 (JL.norm (i := 7) hf7 (JL.norm (i := 8) hf8 (JL.norm (i := 9) hf9 (JL.norm (i := 10) hf10 (JL.norm (i := 11) hf11 (JL.norm (i := 54) hf54 ?_)))))))))
       refine JL.move .none rfl ?_
       obtain ⟨p4231, hp4231, hF⟩ := bind_some hF
       refine JL.cut 7 (fun f => f 1 = bad_v0 ∧ f 2 = lay_v0 ∧ f 3 = .pointer (some ⟨b1, 0, none⟩) ∧ f 7 = vout_3639 ∧ f 8 = .int .i64 rows_4156 ∧ f 9 = .int .i64 i_3638 ∧ f 10 = y3665a_v0 ∧ f 11 = .int .i64 k_4157 ∧ f 62 = .bool p4231) ?_ ?_
       ·intro hJ4232
        rcases ite_some hp4231 with ⟨hc4233, hF⟩ | ⟨hc4233, hF⟩
        ·skip
         refine JL.skip (.bool rfl rfl rfl hc4233) rfl ?_
         refine JL.skip (.bool rfl rfl rfl hc4233) rfl ?_
         refine JL.skip (.bool rfl rfl rfl hc4233) rfl ?_
         refine JL.skip (.bool rfl rfl rfl hc4233) rfl ?_
         refine JL.skip (.bool rfl rfl rfl hc4233) rfl ?_
         refine JL.skip (.bool rfl rfl rfl hc4233) rfl ?_
         refine JL.pick_t (b := p4214) rfl hc4233 .none rfl ?_
         obtain rfl := Option.some.inj hF
         exact hJ4232 _ ⟨rfl, rfl, rfl, rfl, rfl, rfl, rfl, rfl, rfl⟩
        ·skip
         refine JL.move (.some rfl rfl rfl hc4233) rfl ?_
         refine JL.move (.some rfl rfl rfl hc4233) rfl ?_
         refine JL.move (.some rfl rfl rfl hc4233) rfl ?_
         obtain ⟨y4234, hy4234, hF⟩ := bind_some hF
         refine JL.indexSL (R := R_Cell) sl_22 (SL.mono R_Cell_mono hs4158 hy3665a_0) rfl hy4234 (.some rfl rfl rfl hc4233) rfl ?_
         rintro b4235 o4236 cs4237 hc4238 - rfl
         refine JL.loadH 0 az_27 rfl hc4238 rfl (.some rfl rfl rfl hc4233) rfl ?_
         obtain ⟨y4241, hy4241, hF⟩ := bind_some hF
         refine JL.callLG1 (R := R_Cell) 0 rfl R_Cell_mono (CH.mono R_Cell_mono (HSub.trans hs3700 hs4158) hout_3639) rfl (fun H4239 hs4239 hg4240 => c_ref03_In n H4239 out_3639 vout_3639 hg4240 y4234 y4241 hy4241) rfl en_53 (.some rfl rfl rfl hc4233) rfl ?_
         refine JL.pick_f (b := p4214) rfl hc4233 .none rfl ?_
         obtain rfl := Option.some.inj hF
         exact hJ4232 _ ⟨rfl, rfl, rfl, rfl, rfl, rfl, rfl, rfl, rfl⟩
       ·rintro f ⟨hf1, hf2, hf3, hf7, hf8, hf9, hf10, hf11, hf62⟩
        refine (JL.norm (i := 1) hf1 (JL.norm (i := 2) hf2 (JL.norm (i := 3) hf3 (JL.norm (i := 7) hf7 (JL.norm (i := 8) hf8 (JL.norm (i := 9) hf9 (JL.norm (i := 10) hf10 (JL.norm (i := 11) hf11 (JL.norm (i := 62) hf62 ?_)))))))))
        refine JL.doneQ hQ ?_
        refine JQ.go ?_
        rcases ite_some hF with ⟨hc4242, hF⟩ | ⟨hc4242, hF⟩
        ·refine JC.cond_t (b := p4231) rfl hc4242 ?_
         refine JC.seq (JC.region (by rfl) ?_)
         intro hQ
         refine JL.assign .none rfl ?_
         refine JL.done hQ (JQ.go (JC.ret (JQ.ret_then (JQ.ret_block (JQ.ret_then (JQ.ret_then (JQ.ret_block (JQ.ret_join (JQ.ret_then (JQ.ret_block (JQ.ret_then (JQ.ret_then (JQ.ret_block (JQ.ret_join (JQ.ret_then ?_)))))))))))))))
         obtain rfl := Option.some.inj hF
         have ehr4159 := hr4159 _ rfl
         subst ehr4159
         have hF := hKr3975
         try dsimp only at hF
         obtain rfl := Option.some.inj hF
         have ehr3641 := hr3641 _ rfl
         subst ehr3641
         have hF := hKr2410
         try dsimp only at hF
         obtain rfl := Option.some.inj hF
         exact JQ.outS rfl (.tmp .nil) rfl
        ·refine JC.cond_f (b := p4231) rfl hc4242 ?_
         refine JC.skip (JQ.go (JC.region (by rfl) ?_))
         intro hQ
         refine JL.move .none rfl ?_
         refine JL.move .none rfl ?_
         refine JL.move .none rfl ?_
         obtain ⟨y4243, hy4243, hF⟩ := bind_some hF
         refine JL.indexSL (R := R_Cell) sl_22 (SL.mono R_Cell_mono hs4158 hy3665a_0) rfl hy4243 .none rfl ?_
         rintro b4244 o4245 cs4246 hc4247 - rfl
         refine JL.fieldAddr fo_27_0 rfl .none rfl ?_
         refine JL.loadH 0 az_3 rfl hc4247 rfl .none rfl ?_
         refine JL.bin rfl rfl rfl .none rfl ?_
         refine JL.max rfl rfl .none rfl ?_
         refine JL.assign .none rfl ?_
         refine JL.done hQ (JQ.normal_block (JQ.go (JC.fresh (fun f => f 1 = bad_v0 ∧ f 2 = lay_v0 ∧ f 3 = .pointer (some ⟨b1, 0, none⟩) ∧ f 7 = vout_3639 ∧ f 8 = .int .i64 (max rows_4156 (w64 (y4243.Row + 1))) ∧ f 9 = .int .i64 i_3638 ∧ f 10 = y3665a_v0 ∧ f 11 = .int .i64 k_4157) ⟨rfl, rfl, rfl, rfl, rfl, rfl, rfl, rfl⟩ ?_)))
         rintro f ⟨hf1, hf2, hf3, hf7, hf8, hf9, hf10, hf11⟩
         refine (JC.norm (i := 1) hf1 (JC.norm (i := 2) hf2 (JC.norm (i := 3) hf3 (JC.norm (i := 7) hf7 (JC.norm (i := 8) hf8 (JC.norm (i := 9) hf9 (JC.norm (i := 10) hf10 (JC.norm (i := 11) hf11 ?_))))))))
         refine JC.region (by rfl) ?_
         intro hQ
         refine JL.move .none rfl ?_
         refine JL.bin rfl rfl rfl .none rfl ?_
         refine JL.assign .none rfl ?_
         refine JL.done hQ ?_
         obtain rfl := Option.some.inj hF
         exact JQ.next rfl ⟨rfl, rfl, rfl, rfl, rfl, rfl, rfl, rfl, rfl, rfl, hs4158⟩
     ·refine JC.cond_f (b := decide (k_4157 < (y3665.length : Int))) rfl hc4161 ?_
      refine JC.exit (JQ.exit_then (JQ.exit_then (JQ.exit_block ?_)))
      obtain rfl := Option.some.inj hF
      have ehr4159 := hr4159 _ rfl
      subst ehr4159
      exact JQ.join rows_4156 ⟨rfl, rfl, rfl, rfl, rfl, rfl, rfl, rfl, rfl, hs4158, rfl⟩
    ·rintro rows_3973 H3974 f bs gs ⟨hf1, hf2, hf3, hf7, hf8, hf9, hf10, rfl, rfl, hs3974, rfl⟩
     have hF := hKr3975
     try dsimp only at hF
     refine (JQ.norm (i := 1) hf1 (JQ.norm (i := 2) hf2 (JQ.norm (i := 3) hf3 (JQ.norm (i := 7) hf7 (JQ.norm (i := 8) hf8 (JQ.norm (i := 9) hf9 (JQ.norm (i := 10) hf10 ?_)))))))
     refine JQ.go (JC.region (by rfl) ?_)
     intro hQ
     refine JL.move .none rfl ?_
     refine JL.move .none rfl ?_
     obtain ⟨l4248, hl4248, hF⟩ := bind_some hF
     refine JL.appD (R := R_Cell) 0 (l := out_3639) (m := y3665) ap_22 rfl ⟨rfl, rfl⟩ rfl (CH.mono R_Cell_mono (HSub.trans hs3700 hs3974) hout_3639) rfl (SL.mono R_Cell_mono hs3974 hy3665a_0) (R_Cell_one _) hl4248 .none rfl ?_
     intro v4249 xs4250 hch4251
     refine JL.assign .none rfl ?_
     refine JL.done hQ (JQ.normal_block (JQ.go (JC.region (by rfl) ?_)))
     intro hQ
     refine JL.move .none rfl ?_
     refine JL.bin rfl rfl rfl .none rfl ?_
     refine JL.assign .none rfl ?_
     refine JL.done hQ ?_
     obtain rfl := Option.some.inj hF
     exact JQ.next rfl ⟨v4249, xs4250, rfl, rfl, rfl, rfl, rfl, rfl, rfl, rfl, hch4251, (HSub.trans hs3640 (HSub.trans hs3700 hs3974))⟩
   ·refine JC.cond_f (b := decide (i_3638 < (lay.length : Int))) rfl hc3643 ?_
    refine JC.exit (JQ.exit_then (JQ.exit_then (JQ.exit_block ?_)))
    obtain rfl := Option.some.inj hF
    have ehr3641 := hr3641 _ rfl
    subst ehr3641
    refine JQ.mask [false] [false] ?_
    exact JQ.join rows_3637 ⟨rfl, rfl, rfl, hs3640, rfl⟩
  ·rintro rows_2408 H2409 f bs gs ⟨hf8, rfl, rfl, hs2409, rfl⟩
   have hF := hKr2410
   try dsimp only at hF
   refine (JQ.norm (i := 8) hf8 ?_)
   refine JQ.go (JC.seq (JC.region (by rfl) ?_))
   intro hQ
   refine JL.move .none rfl ?_
   refine JL.assign .none rfl ?_
   refine JL.done hQ (JQ.go (JC.ret ?_))
   obtain rfl := Option.some.inj hF
   exact JQ.outS rfl (.tmp .nil) rfl
-- 21 ferrule/ferrulelaw03.rows
-- 23 ferrule/ferruleref03.Area
-- 54 ferrule/lays.covered
def F_lays_covered_s2 (n : Nat) (p : Place) (x_444 : Int) (y450 : Span) : Int × List Cell → Option ((Int × List Cell) ⊕ (List Cell))
 | (col_506, out_507) => if decide (col_506 ≤ y450.High) = true then ((lim (out_507 ++ [(Cell.mk (w64 (p.Row + x_444)) (w64 (p.Col + col_506)))])).bind fun l513 => some (Sum.inl ((w64 (col_506 + 1)), l513))) else (some (Sum.inr out_507))
def F_lays_covered_s1 (n : Nat) (p : Place) (y3 : (List Span)) : Int × List Cell → Option ((Int × List Cell) ⊕ (List Cell))
 | (x_444, out_445) => if decide (x_444 < (y3.length : Int)) = true then ((geti y3 x_444).bind fun y450 => (loopO n (F_lays_covered_s2 n p x_444 y450) (y450.Low, out_445)).bind fun out_485 => some (Sum.inl ((w64 (x_444 + 1)), out_485))) else (some (Sum.inr out_445))
def F_lays_covered (n : Nat) (panel : Panel) (p : Place) : Option (List Cell) :=
 (F_lays_rows n panel p.Turned).bind fun y3 => (loopO n (F_lays_covered_s1 n p y3) (0, ([] : List Cell))).bind fun out_299 => some out_299
theorem c_lays_covered (n : Nat) (H : Hp) (panel : Panel) (panel_v0 : Value) (hpanel_0 : SL H 2 R_Span panel_v0 panel.Rows) (p : Place) (y : (List Cell)) (hF : F_lays_covered n panel p = some y) : HC Try.prog 54 [.agg [panel_v0].toArray, .agg [.int .i64 p.Row, .int .i64 p.Col, .int .i64 p.Turned].toArray] H (fun H' ra_v0 => SL H' 2 R_Cell ra_v0 y) := by
 rw [F_lays_covered] at hF
 refine HC.of (N := 41) Try.func54 rfl rfl rfl fun w => ?_
 refine JC.seq (JC.region (by rfl) ?_)
 intro hQ
 refine JL.box (cs := [panel_v0]) rfl .none rfl ?_
 intro b1
 refine JL.box (cs := [.int .i64 p.Row, .int .i64 p.Col, .int .i64 p.Turned]) rfl .none rfl ?_
 intro b2
 refine JL.assign .none rfl ?_
 refine JL.done hQ (JQ.go (JC.seq (JC.region (by rfl) ?_)))
 intro hQ
 refine JL.assign .none rfl ?_
 refine JL.done hQ (JQ.go (JC.seq (JC.seq (JC.region (by rfl) ?_))))
 intro hQ
 refine JL.loadOwn 1 az_30 rfl rfl rfl .none rfl ?_
 refine JL.fieldAddr fo_62_2 rfl .none rfl ?_
 refine JL.loadOwn 0 az_3 rfl rfl rfl .none rfl ?_
 obtain ⟨y3, hy3, hF⟩ := bind_some hF
 refine JL.callH (c_lays_rows n H panel panel_v0 hpanel_0 p.Turned y3 hy3) rfl en_71 .none rfl ?_
 intro H4 y3a_v0 hs4 hy3a_0
 refine JL.lenSL (R := R_Span) ul_28 hy3a_0 .none rfl ?_
 refine JL.move .none rfl ?_
 refine JL.done hQ (JQ.go (JC.newNil (e := 27) (sz := 2) ?_))
 obtain ⟨r301, hlr301, hKr301⟩ := bind_some hF
 refine JC.join (fun (out_299 : List Cell) H300 f bs gs => ∃ (vout_299 : Value) (xsout_299 : List Value), f 5 = vout_299 ∧ bs = [] ∧ gs = [⟨vout_299, 27, 2, out_299.length, xsout_299⟩] ∧ CH H300 2 R_Cell xsout_299 out_299 ∧ HSub H4 H300 ∧ out_299 = r301) ?_ ?_
 ·skip
  refine JC.block (JC.mask [true, false] [true] ?_)
  refine JC.loop hlr301 (fun (x : Int × List Cell) H446 f bs gs => match x with | (x_444, out_445) => ∃ (vout_445 : Value) (xsout_445 : List Value), f 3 = .pointer (some ⟨b2, 0, none⟩) ∧ f 5 = vout_445 ∧ f 12 = y3a_v0 ∧ f 13 = .int .i64 (y3.length : Int) ∧ f 14 = .int .i64 x_444 ∧ bs = [(b2, .cells [.int .i64 p.Row, .int .i64 p.Col, .int .i64 p.Turned].toArray 62)] ∧ gs = [⟨vout_445, 27, 2, out_445.length, xsout_445⟩] ∧ CH H446 2 R_Cell xsout_445 out_445 ∧ HSub H4 H446) ⟨(.slice none 0 0), [], rfl, rfl, rfl, rfl, rfl, rfl, rfl, CH.nil, (HSub.refl _)⟩ ?_
  rintro ⟨x_444, out_445⟩ x448 H446 f bs gs ⟨vout_445, xsout_445, hf3, hf5, hf12, hf13, hf14, rfl, rfl, hout_445, hs446⟩ hF hr447
  rw [F_lays_covered_s1] at hF
  refine (JC.norm (i := 3) hf3 (JC.norm (i := 5) hf5 (JC.norm (i := 12) hf12 (JC.norm (i := 13) hf13 (JC.norm (i := 14) hf14 ?_)))))
  refine JC.seq (JC.region (by rfl) ?_)
  intro hQ
  refine JL.bin rfl rfl rfl .none rfl ?_
  refine JL.done hQ (JQ.go (JC.seq ?_))
  rcases ite_some hF with ⟨hc449, hF⟩ | ⟨hc449, hF⟩
  ·refine JC.cond_t (b := decide (x_444 < (y3.length : Int))) rfl hc449 ?_
   refine JC.skip (JQ.go (JC.seq (JC.block (JC.seq (JC.region (by rfl) ?_)))))
   intro hQ
   refine JL.move .none rfl ?_
   obtain ⟨y450, hy450, hF⟩ := bind_some hF
   refine JL.indexSL (R := R_Span) sl_28 (SL.mono R_Span_mono hs446 hy3a_0) rfl hy450 .none rfl ?_
   rintro b451 o452 cs453 hc454 - rfl
   refine JL.loadH 0 az_46 rfl hc454 rfl .none rfl ?_
   refine JL.alloc ze_46 .none rfl ?_
   intro b455
   refine JL.assign .none rfl ?_
   refine JL.storeOwn 0 (cs := [.int .i64 y450.Low, .int .i64 y450.High]) az_46 rfl rfl rfl (one_cons rfl (one_cons rfl one_nil)) rfl rfl .none ?_
   refine JL.done hQ (JQ.go (JC.seq (JC.region (by rfl) ?_)))
   intro hQ
   refine JL.fieldAddr fo_46_0 rfl .none rfl ?_
   refine JL.loadOwn 0 az_3 rfl rfl rfl .none rfl ?_
   refine JL.assign .none rfl ?_
   refine JL.done hQ (JQ.go ?_)
   obtain ⟨r487, hlr487, hKr487⟩ := bind_some hF
   refine JC.join (fun (out_485 : List Cell) H486 f bs gs => ∃ (vout_485 : Value) (xsout_485 : List Value), f 3 = .pointer (some ⟨b2, 0, none⟩) ∧ f 5 = vout_485 ∧ f 12 = y3a_v0 ∧ f 13 = .int .i64 (y3.length : Int) ∧ f 14 = .int .i64 x_444 ∧ bs = [(b2, .cells [.int .i64 p.Row, .int .i64 p.Col, .int .i64 p.Turned].toArray 62)] ∧ gs = [⟨vout_485, 27, 2, out_485.length, xsout_485⟩] ∧ CH H486 2 R_Cell xsout_485 out_485 ∧ HSub H446 H486 ∧ out_485 = r487) ?_ ?_
   ·skip
    refine JC.block (JC.loop hlr487 (fun (x : Int × List Cell) H508 f bs gs => match x with | (col_506, out_507) => ∃ (vout_507 : Value) (xsout_507 : List Value), f 3 = .pointer (some ⟨b2, 0, none⟩) ∧ f 5 = vout_507 ∧ f 6 = .int .i64 x_444 ∧ f 7 = .pointer (some ⟨b455, 0, none⟩) ∧ f 8 = .int .i64 col_506 ∧ f 12 = y3a_v0 ∧ f 13 = .int .i64 (y3.length : Int) ∧ f 14 = .int .i64 x_444 ∧ bs = [(b455, .cells [.int .i64 y450.Low, .int .i64 y450.High].toArray 46), (b2, .cells [.int .i64 p.Row, .int .i64 p.Col, .int .i64 p.Turned].toArray 62)] ∧ gs = [⟨vout_507, 27, 2, out_507.length, xsout_507⟩] ∧ CH H508 2 R_Cell xsout_507 out_507 ∧ HSub H446 H508) ⟨vout_445, xsout_445, rfl, rfl, rfl, rfl, rfl, rfl, rfl, rfl, rfl, rfl, hout_445, (HSub.refl _)⟩ ?_)
    rintro ⟨col_506, out_507⟩ x510 H508 f bs gs ⟨vout_507, xsout_507, hf3, hf5, hf6, hf7, hf8, hf12, hf13, hf14, rfl, rfl, hout_507, hs508⟩ hF hr509
    rw [F_lays_covered_s2] at hF
    refine (JC.norm (i := 3) hf3 (JC.norm (i := 5) hf5 (JC.norm (i := 6) hf6 (JC.norm (i := 7) hf7 (JC.norm (i := 8) hf8 (JC.norm (i := 12) hf12 (JC.norm (i := 13) hf13 (JC.norm (i := 14) hf14 ?_))))))))
    refine JC.seq (JC.seq (JC.region (by rfl) ?_))
    intro hQ
    refine JL.move .none rfl ?_
    refine JL.fieldAddr fo_46_1 rfl .none rfl ?_
    refine JL.loadOwn 0 az_3 rfl rfl rfl .none rfl ?_
    refine JL.bin rfl rfl rfl .none rfl ?_
    refine JL.done hQ (JQ.go ?_)
    rcases ite_some hF with ⟨hc511, hF⟩ | ⟨hc511, hF⟩
    ·refine JC.cond_t (b := decide (col_506 ≤ y450.High)) rfl hc511 ?_
     refine JC.skip (JQ.go (JC.seq (JC.block (JC.region (by rfl) ?_))))
     intro hQ
     refine JL.move .none rfl ?_
     refine JL.fieldAddr fo_62_0 rfl .none rfl ?_
     refine JL.loadOwn 1 az_3 rfl rfl rfl .none rfl ?_
     refine JL.move .none rfl ?_
     refine JL.bin rfl rfl rfl .none rfl ?_
     refine JL.fieldAddr fo_62_1 rfl .none rfl ?_
     refine JL.loadOwn 1 az_3 rfl rfl rfl .none rfl ?_
     refine JL.move .none rfl ?_
     refine JL.bin rfl rfl rfl .none rfl ?_
     refine JL.build (l := [.int .i64 (w64 (p.Row + x_444)), .int .i64 (w64 (p.Col + col_506))]) (by kernel_rfl) .none rfl ?_
     refine JL.buildSlice (e := 27) (l := [.int .i64 (w64 (p.Row + x_444)), .int .i64 (w64 (p.Col + col_506))]) (by kernel_rfl) .none rfl ?_
     intro b512
     obtain ⟨l513, hl513, hF⟩ := bind_some hF
     refine JL.appO (R := R_Cell) 0 0 (l := out_507) (m := [(Cell.mk (w64 (p.Row + x_444)) (w64 (p.Col + col_506)))]) ap_22 rfl ⟨rfl, rfl⟩ rfl hout_507 rfl rfl rfl (CH.cons (cs := [.int .i64 (w64 (p.Row + x_444)), .int .i64 (w64 (p.Col + col_506))]) rfl rfl CH.nil) rfl (one_cons rfl (one_cons rfl one_nil)) hl513 .none rfl ?_
     intro v514 xs515 hch516
     refine JL.assign .none rfl ?_
     refine JL.done hQ (JQ.normal_block (JQ.go (JC.fresh (fun f => f 3 = .pointer (some ⟨b2, 0, none⟩) ∧ f 5 = v514 ∧ f 6 = .int .i64 x_444 ∧ f 7 = .pointer (some ⟨b455, 0, none⟩) ∧ f 8 = .int .i64 col_506 ∧ f 12 = y3a_v0 ∧ f 13 = .int .i64 (y3.length : Int) ∧ f 14 = .int .i64 x_444) ⟨rfl, rfl, rfl, rfl, rfl, rfl, rfl, rfl⟩ ?_)))
     rintro f ⟨hf3, hf5, hf6, hf7, hf8, hf12, hf13, hf14⟩
     refine (JC.norm (i := 3) hf3 (JC.norm (i := 5) hf5 (JC.norm (i := 6) hf6 (JC.norm (i := 7) hf7 (JC.norm (i := 8) hf8 (JC.norm (i := 12) hf12 (JC.norm (i := 13) hf13 (JC.norm (i := 14) hf14 ?_))))))))
     refine JC.region (by rfl) ?_
     intro hQ
     refine JL.move .none rfl ?_
     refine JL.bin rfl rfl rfl .none rfl ?_
     refine JL.assign .none rfl ?_
     refine JL.done hQ ?_
     obtain rfl := Option.some.inj hF
     refine JQ.mask [false, true, true] [true] ?_
     exact JQ.next rfl ⟨v514, xs515, rfl, rfl, rfl, rfl, rfl, rfl, rfl, rfl, rfl, rfl, hch516, hs508⟩
    ·refine JC.cond_f (b := decide (col_506 ≤ y450.High)) rfl hc511 ?_
     refine JC.exit (JQ.exit_then (JQ.exit_then (JQ.exit_block ?_)))
     obtain rfl := Option.some.inj hF
     have ehr509 := hr509 _ rfl
     subst ehr509
     refine JQ.mask [false, true] [true] ?_
     exact JQ.join out_507 ⟨vout_507, xsout_507, rfl, rfl, rfl, rfl, rfl, rfl, rfl, hout_507, hs508, rfl⟩
   ·rintro out_485 H486 f bs gs ⟨vout_485, xsout_485, hf3, hf5, hf12, hf13, hf14, rfl, rfl, hout_485, hs486, rfl⟩
    have hF := hKr487
    try dsimp only at hF
    refine (JQ.norm (i := 3) hf3 (JQ.norm (i := 5) hf5 (JQ.norm (i := 12) hf12 (JQ.norm (i := 13) hf13 (JQ.norm (i := 14) hf14 ?_)))))
    refine JQ.normal_block (JQ.go (JC.region (by rfl) ?_))
    intro hQ
    refine JL.bin rfl rfl rfl .none rfl ?_
    refine JL.move .none rfl ?_
    refine JL.done hQ ?_
    obtain rfl := Option.some.inj hF
    exact JQ.next rfl ⟨vout_485, xsout_485, rfl, rfl, rfl, rfl, rfl, rfl, rfl, hout_485, (HSub.trans hs446 hs486)⟩
  ·refine JC.cond_f (b := decide (x_444 < (y3.length : Int))) rfl hc449 ?_
   refine JC.exit (JQ.exit_then (JQ.exit_then (JQ.exit_block ?_)))
   obtain rfl := Option.some.inj hF
   have ehr447 := hr447 _ rfl
   subst ehr447
   refine JQ.mask [false] [true] ?_
   exact JQ.join out_445 ⟨vout_445, xsout_445, rfl, rfl, rfl, hout_445, hs446, rfl⟩
 ·rintro out_299 H300 f bs gs ⟨vout_299, xsout_299, hf5, rfl, rfl, hout_299, hs300, rfl⟩
  have hF := hKr301
  try dsimp only at hF
  refine (JQ.norm (i := 5) hf5 ?_)
  refine JQ.go (JC.seq (JC.region (by rfl) ?_))
  intro hQ
  refine JL.move .none rfl ?_
  refine JL.assign .none rfl ?_
  refine JL.done hQ (JQ.go (JC.ret (JQ.freezeG 0 (R := R_Cell) rfl R_Cell_mono hout_299 rfl ?_)))
  intro H517 hs517 hg518
  obtain rfl := Option.some.inj hF
  exact JQ.outH rfl (.tmp .nil) hg518
end Go.Proofs.Ytflhjlgimihmgaa
end
section
set_option maxRecDepth 100000
set_option maxHeartbeats 40000000
namespace Go.Proofs.Ytflhjlgimihmgaa
open Go Go.RowKit Go.Dec
set_option linter.unusedVariables false
-- 26 ferrule/lays.Waste
-- 65 ferrule/lays.isPlace
def F_lays_isPlace (n : Nat) (p : Place) : Option Bool :=
 (F_lays_within n p.Row 0 12).bind fun y2 => (if y2 = true then ((F_lays_within n p.Col 0 12).bind fun y7 => some y7) else (some false) : Option Bool).bind fun p4 => (if p4 = true then ((F_lays_within n p.Turned 0 1).bind fun y12 => some y12) else (some false) : Option Bool).bind fun p9 => some p9
theorem c_lays_isPlace (n : Nat) (H : Hp) (p : Place) (y : Bool) (hF : F_lays_isPlace n p = some y) : SC Try.prog 65 [.agg [.int .i64 p.Row, .int .i64 p.Col, .int .i64 p.Turned].toArray] (.bool y) H := by
 rw [F_lays_isPlace] at hF
 refine SC.of (N := 16) Try.func65 rfl rfl rfl fun w => ?_
 refine JC.seq (JC.region (by rfl) ?_)
 intro hQ
 refine JL.box (cs := [.int .i64 p.Row, .int .i64 p.Col, .int .i64 p.Turned]) rfl .none rfl ?_
 intro b1
 refine JL.assign .none rfl ?_
 refine JL.done hQ (JQ.go (JC.seq (JC.region (by rfl) ?_)))
 intro hQ
 refine JL.fieldAddr fo_62_0 rfl .none rfl ?_
 refine JL.loadOwn 0 az_3 rfl rfl rfl .none rfl ?_
 obtain ⟨y2, hy2, hF⟩ := bind_some hF
 refine JL.callS (c_lays_within n H p.Row 0 12 y2 hy2) rfl en_48 .none rfl ?_
 refine JL.move .none rfl ?_
 obtain ⟨p4, hp4, hF⟩ := bind_some hF
 refine JL.cut 4 (fun f => f 1 = .pointer (some ⟨b1, 0, none⟩) ∧ f 10 = .bool p4) ?_ ?_
 ·intro hJ5
  rcases ite_some hp4 with ⟨hc6, hF⟩ | ⟨hc6, hF⟩
  ·skip
   refine JL.fieldAddr fo_62_1 rfl (.some rfl rfl rfl hc6) rfl ?_
   refine JL.loadOwn 0 az_3 rfl rfl rfl (.some rfl rfl rfl hc6) rfl ?_
   obtain ⟨y7, hy7, hF⟩ := bind_some hF
   refine JL.callS (c_lays_within n H p.Col 0 12 y7 hy7) rfl en_48 (.some rfl rfl rfl hc6) rfl ?_
   refine JL.pick_t (b := y2) rfl hc6 .none rfl ?_
   obtain rfl := Option.some.inj hF
   exact hJ5 _ ⟨rfl, rfl⟩
  ·skip
   refine JL.skip (.bool rfl rfl rfl hc6) rfl ?_
   refine JL.skip (.bool rfl rfl rfl hc6) rfl ?_
   refine JL.skip (.bool rfl rfl rfl hc6) rfl ?_
   refine JL.pick_f (b := y2) rfl hc6 .none rfl ?_
   obtain rfl := Option.some.inj hF
   exact hJ5 _ ⟨rfl, rfl⟩
 ·rintro f ⟨hf1, hf10⟩
  refine (JL.norm (i := 1) hf1 (JL.norm (i := 10) hf10 ?_))
  refine JL.move .none rfl ?_
  obtain ⟨p9, hp9, hF⟩ := bind_some hF
  refine JL.cut 4 (fun f => f 15 = .bool p9) ?_ ?_
  ·intro hJ10
   rcases ite_some hp9 with ⟨hc11, hF⟩ | ⟨hc11, hF⟩
   ·skip
    refine JL.fieldAddr fo_62_2 rfl (.some rfl rfl rfl hc11) rfl ?_
    refine JL.loadOwn 0 az_3 rfl rfl rfl (.some rfl rfl rfl hc11) rfl ?_
    obtain ⟨y12, hy12, hF⟩ := bind_some hF
    refine JL.callS (c_lays_within n H p.Turned 0 1 y12 hy12) rfl en_48 (.some rfl rfl rfl hc11) rfl ?_
    refine JL.pick_t (b := p4) rfl hc11 .none rfl ?_
    obtain rfl := Option.some.inj hF
    exact hJ10 _ (rfl)
   ·skip
    refine JL.skip (.bool rfl rfl rfl hc11) rfl ?_
    refine JL.skip (.bool rfl rfl rfl hc11) rfl ?_
    refine JL.skip (.bool rfl rfl rfl hc11) rfl ?_
    refine JL.pick_f (b := p4) rfl hc11 .none rfl ?_
    obtain rfl := Option.some.inj hF
    exact hJ10 _ (rfl)
  ·rintro f hf15
   refine (JL.norm (i := 15) hf15 ?_)
   refine JL.assign .none rfl ?_
   refine JL.done hQ (JQ.go (JC.ret ?_))
   obtain rfl := Option.some.inj hF
   exact JQ.outS rfl (.tmp .nil) rfl
-- 35 ferrule/lays.Cells
def F_lays_Cells (n : Nat) (s : Lap) (panel : Int) (p : Place) : Option ((List Cell) × Int) :=
 (F_lays_Check n s).bind fun y3 => if (y3 != 0) = true then (some (([] : List Cell), y3)) else ((F_lays_within n panel 0 (w64 ((s.Panels.length : Int) - 1))).bind fun y5 => (if (!y5) = true then (some true) else ((F_lays_isPlace n p).bind fun y10 => some (!y10)) : Option Bool).bind fun p7 => if p7 = true then (some (([] : List Cell), 1)) else ((geti s.Panels panel).bind fun y18 => (F_lays_covered n y18 p).bind fun y23 => some (y23, 0)))
theorem c_lays_Cells (n : Nat) (H : Hp) (s : Lap) (s_v2 : Value) (hs_2 : SL H 2 R_Cell s_v2 s.Faults) (s_v3 : Value) (hs_3 : SL H 2 R_Cell s_v3 s.Flaws) (s_v4 : Value) (hs_4 : SL H 1 R_Panel s_v4 s.Panels) (panel : Int) (p : Place) (y : (List Cell) × Int) (hF : F_lays_Cells n s panel p = some y) : HC Try.prog 35 [.agg [.int .i64 s.Width, .int .i64 s.Length, s_v2, s_v3, s_v4].toArray, .int .i64 panel, .agg [.int .i64 p.Row, .int .i64 p.Col, .int .i64 p.Turned].toArray] H (fun H' v => ∃ ra_v0 : Value, v = .tuple [ra_v0, .int .i64 y.2].toArray ∧ SL H' 2 R_Cell ra_v0 y.1) := by
 rw [F_lays_Cells] at hF
 refine HC.of (N := 33) Try.func35 rfl rfl rfl fun w => ?_
 refine JC.seq (JC.region (by rfl) ?_)
 intro hQ
 refine JL.box (cs := [.int .i64 s.Width, .int .i64 s.Length, s_v2, s_v3, s_v4]) rfl .none rfl ?_
 intro b1
 refine JL.box (cs := [.int .i64 p.Row, .int .i64 p.Col, .int .i64 p.Turned]) rfl .none rfl ?_
 intro b2
 refine JL.assign .none rfl ?_
 refine JL.assign .none rfl ?_
 refine JL.done hQ (JQ.go (JC.seq (JC.seq (JC.region (by rfl) ?_))))
 intro hQ
 refine JL.loadOwn 1 az_25 rfl rfl rfl .none rfl ?_
 obtain ⟨y3, hy3, hF⟩ := bind_some hF
 refine JL.callS (c_lays_Check n H s s_v2 hs_2 s_v3 hs_3 s_v4 hs_4 y3 hy3) rfl en_33 .none rfl ?_
 refine JL.assign .none rfl ?_
 refine JL.done hQ (JQ.go (JC.seq (JC.region (by rfl) ?_)))
 intro hQ
 refine JL.move .none rfl ?_
 refine JL.bin rfl rfl rfl .none rfl ?_
 refine JL.done hQ (JQ.go ?_)
 rcases ite_some hF with ⟨hc4, hF⟩ | ⟨hc4, hF⟩
 ·refine JC.cond_t (b := (y3 != 0)) rfl hc4 ?_
  refine JC.seq (JC.region (by rfl) ?_)
  intro hQ
  refine JL.move .none rfl ?_
  refine JL.assign .none rfl ?_
  refine JL.assign .none rfl ?_
  refine JL.done hQ (JQ.go (JC.ret (JQ.ret_then ?_)))
  obtain rfl := Option.some.inj hF
  exact JQ.outH rfl (.tmp (.tmp .nil)) ⟨(.slice none 0 0), rfl, SL.nil⟩
 ·refine JC.cond_f (b := (y3 != 0)) rfl hc4 ?_
  refine JC.skip (JQ.go (JC.seq (JC.seq (JC.region (by rfl) ?_))))
  intro hQ
  refine JL.move .none rfl ?_
  refine JL.fieldAddr fo_25_4 rfl .none rfl ?_
  refine JL.loadOwn 1 az_23 rfl rfl rfl .none rfl ?_
  refine JL.lenSL (R := R_Panel) ul_23 hs_4 .none rfl ?_
  refine JL.bin rfl rfl rfl .none rfl ?_
  obtain ⟨y5, hy5, hF⟩ := bind_some hF
  refine JL.callS (c_lays_within n H panel 0 (w64 ((s.Panels.length : Int) - 1)) y5 hy5) rfl en_48 .none rfl ?_
  refine JL.not rfl .none rfl ?_
  refine JL.move .none rfl ?_
  obtain ⟨p7, hp7, hF⟩ := bind_some hF
  refine JL.cut 4 (fun f => f 1 = .int .i64 panel ∧ f 3 = .pointer (some ⟨b1, 0, none⟩) ∧ f 5 = .pointer (some ⟨b2, 0, none⟩) ∧ f 25 = .bool p7) ?_ ?_
  ·intro hJ8
   rcases ite_some hp7 with ⟨hc9, hF⟩ | ⟨hc9, hF⟩
   ·skip
    refine JL.skip (.bool rfl rfl rfl hc9) rfl ?_
    refine JL.skip (.bool rfl rfl rfl hc9) rfl ?_
    refine JL.skip (.bool rfl rfl rfl hc9) rfl ?_
    refine JL.pick_t (b := (!y5)) rfl hc9 .none rfl ?_
    obtain rfl := Option.some.inj hF
    exact hJ8 _ ⟨rfl, rfl, rfl, rfl⟩
   ·skip
    refine JL.loadOwn 0 az_62 rfl rfl rfl (.some rfl rfl rfl hc9) rfl ?_
    obtain ⟨y10, hy10, hF⟩ := bind_some hF
    refine JL.callS (c_lays_isPlace n H p y10 hy10) rfl en_65 (.some rfl rfl rfl hc9) rfl ?_
    refine JL.not rfl (.some rfl rfl rfl hc9) rfl ?_
    refine JL.pick_f (b := (!y5)) rfl hc9 .none rfl ?_
    obtain rfl := Option.some.inj hF
    exact hJ8 _ ⟨rfl, rfl, rfl, rfl⟩
  ·rintro f ⟨hf1, hf3, hf5, hf25⟩
   refine (JL.norm (i := 1) hf1 (JL.norm (i := 3) hf3 (JL.norm (i := 5) hf5 (JL.norm (i := 25) hf25 ?_))))
   refine JL.done hQ (JQ.go ?_)
   rcases ite_some hF with ⟨hc11, hF⟩ | ⟨hc11, hF⟩
   ·refine JC.cond_t (b := p7) rfl hc11 ?_
    refine JC.seq (JC.region (by rfl) ?_)
    intro hQ
    refine JL.assign .none rfl ?_
    refine JL.assign .none rfl ?_
    refine JL.done hQ (JQ.go (JC.ret (JQ.ret_then ?_)))
    obtain rfl := Option.some.inj hF
    exact JQ.outH rfl (.tmp (.tmp .nil)) ⟨(.slice none 0 0), rfl, SL.nil⟩
   ·refine JC.cond_f (b := p7) rfl hc11 ?_
    refine JC.skip (JQ.go (JC.seq ?_))
    obtain ⟨y18, hy18, hF⟩ := bind_some hF
    obtain ⟨y23, hy23, hF⟩ := bind_some hF
    refine JC.mixed 9 9 #[false, false, false, false, false, false, false, false, false] [(b2, .cells [.int .i64 p.Row, .int .i64 p.Col, .int .i64 p.Turned].toArray 62), (b1, .cells [.int .i64 s.Width, .int .i64 s.Length, s_v2, s_v3, s_v4].toArray 25)] (by rfl) mo_ (by kernel_rfl) (by kernel_rfl) ?_
    intro hQ hE
    refine JA.take 0 (listed' := #[true, false, false, false, false, false, false, false, false]) hQ rfl (by kernel_rfl) (by kernel_rfl) (by kernel_rfl) (by kernel_rfl) (by kernel_rfl) hE (HSub.refl _) (.cons_cons _ (.cons_cons _ (List.nil_sublist _))) ?_
    refine JL.fieldAddr fo_25_4 rfl .none rfl ?_
    refine JA.cont ?_
    refine JA.take 1 (listed' := #[true, true, false, false, false, false, false, false, false]) hQ rfl (by kernel_rfl) (by kernel_rfl) (by kernel_rfl) (by kernel_rfl) (by kernel_rfl) hE (HSub.refl _) (.cons_cons _ (.cons_cons _ (List.nil_sublist _))) ?_
    refine JL.loadOwn 1 az_23 rfl rfl rfl .none rfl ?_
    refine JA.cont ?_
    refine JA.take 2 (listed' := #[true, true, true, false, false, false, false, false, false]) hQ rfl (by kernel_rfl) (by kernel_rfl) (by kernel_rfl) (by kernel_rfl) (by kernel_rfl) hE (HSub.refl _) (.cons_cons _ (.cons_cons _ (List.nil_sublist _))) ?_
    refine JL.move .none rfl ?_
    refine JA.cont ?_
    refine JA.take 3 (listed' := #[true, true, true, true, false, false, false, false, false]) hQ rfl (by kernel_rfl) (by kernel_rfl) (by kernel_rfl) (by kernel_rfl) (by kernel_rfl) hE (HSub.refl _) (.cons_cons _ (.cons_cons _ (List.nil_sublist _))) ?_
    refine JL.indexSL (R := R_Panel) sl_23 hs_4 rfl hy18 .none rfl ?_
    rintro b38 o39 cs40 hc41 - ⟨y18_v0, rfl, hy18_0⟩
    refine JA.cont ?_
    refine JA.take 4 (listed' := #[true, true, true, true, true, false, false, false, false]) hQ rfl (by kernel_rfl) (by kernel_rfl) (by kernel_rfl) (by kernel_rfl) (by kernel_rfl) hE (HSub.refl _) (.cons_cons _ (.cons_cons _ (List.nil_sublist _))) ?_
    refine JL.loadH 0 az_30 rfl hc41 rfl .none rfl ?_
    refine JA.cont ?_
    refine JA.take 5 (listed' := #[true, true, true, true, true, true, false, false, false]) hQ rfl (by kernel_rfl) (by kernel_rfl) (by kernel_rfl) (by kernel_rfl) (by kernel_rfl) hE (HSub.refl _) (.cons_cons _ (.cons_cons _ (List.nil_sublist _))) ?_
    refine JL.loadOwn 0 az_62 rfl rfl rfl .none rfl ?_
    refine JA.cont ?_
    refine JA.many [6] (by kernel_rfl) (by simp) (all_one ⟨_, #[true, true, true, true, true, true, true, false, false], rfl, (by kernel_rfl), ?_⟩)
    refine JL.callH (c_lays_covered n H y18 y18_v0 hy18_0 p y23 hy23) rfl en_54 .none rfl ?_
    intro H42 y23a_v0 hs42 hy23a_0
    refine JA.after hE hs42 (.cons_cons _ (.cons_cons _ (List.nil_sublist _))) ?_
    refine JA.take 7 (listed' := #[true, true, true, true, true, true, true, true, false]) hQ rfl (by kernel_rfl) (by kernel_rfl) (by kernel_rfl) (by kernel_rfl) (by kernel_rfl) hE hs42 (.cons_cons _ (.cons_cons _ (List.nil_sublist _))) ?_
    refine JL.assign .none rfl ?_
    refine JA.cont ?_
    refine JA.take 8 (listed' := #[true, true, true, true, true, true, true, true, true]) hQ rfl (by kernel_rfl) (by kernel_rfl) (by kernel_rfl) (by kernel_rfl) (by kernel_rfl) hE hs42 (.cons_cons _ (.cons_cons _ (List.nil_sublist _))) ?_
    refine JL.assign .none rfl ?_
    refine JA.cont ?_
    refine JA.done hQ (by kernel_rfl) ?_
    refine JQ.go (JC.ret ?_)
    obtain rfl := Option.some.inj hF
    exact JQ.outH rfl (.tmp (.tmp .nil)) ⟨y23a_v0, rfl, hy23a_0⟩
-- 36 ferrule/ferruleref03.Cells
def F_ref03_Cells (n : Nat) (s : Lap) (panel : Int) (p : Place) : Option ((List Cell) × Int) :=
 (F_ref03_Check n s).bind fun y3 => if (y3 != 0) = true then (some (([] : List Cell), y3)) else ((F_ref03_within n panel 0 (w64 ((s.Panels.length : Int) - 1))).bind fun y5 => (if (!y5) = true then (some true) else ((F_ref03_IsPlace n p).bind fun y10 => some (!y10)) : Option Bool).bind fun p7 => if p7 = true then (some (([] : List Cell), 1)) else ((geti s.Panels panel).bind fun y18 => (F_ref03_CellsOf n y18 p).bind fun y23 => some (y23, 0)))
theorem c_ref03_Cells (n : Nat) (H : Hp) (s : Lap) (s_v2 : Value) (hs_2 : SL H 2 R_Cell s_v2 s.Faults) (s_v3 : Value) (hs_3 : SL H 2 R_Cell s_v3 s.Flaws) (s_v4 : Value) (hs_4 : SL H 1 R_Panel s_v4 s.Panels) (panel : Int) (p : Place) (y : (List Cell) × Int) (hF : F_ref03_Cells n s panel p = some y) : HC Try.prog 36 [.agg [.int .i64 s.Width, .int .i64 s.Length, s_v2, s_v3, s_v4].toArray, .int .i64 panel, .agg [.int .i64 p.Row, .int .i64 p.Col, .int .i64 p.Turned].toArray] H (fun H' v => ∃ ra_v0 : Value, v = .tuple [ra_v0, .int .i64 y.2].toArray ∧ SL H' 2 R_Cell ra_v0 y.1) := by
 rw [F_ref03_Cells] at hF
 refine HC.of (N := 33) Try.func36 rfl rfl rfl fun w => ?_
 refine JC.seq (JC.region (by rfl) ?_)
 intro hQ
 refine JL.box (cs := [.int .i64 s.Width, .int .i64 s.Length, s_v2, s_v3, s_v4]) rfl .none rfl ?_
 intro b1
 refine JL.box (cs := [.int .i64 p.Row, .int .i64 p.Col, .int .i64 p.Turned]) rfl .none rfl ?_
 intro b2
 refine JL.assign .none rfl ?_
 refine JL.assign .none rfl ?_
 refine JL.done hQ (JQ.go (JC.seq (JC.seq (JC.region (by rfl) ?_))))
 intro hQ
 refine JL.loadOwn 1 az_25 rfl rfl rfl .none rfl ?_
 obtain ⟨y3, hy3, hF⟩ := bind_some hF
 refine JL.callS (c_ref03_Check n H s s_v2 hs_2 s_v3 hs_3 s_v4 hs_4 y3 hy3) rfl en_34 .none rfl ?_
 refine JL.assign .none rfl ?_
 refine JL.done hQ (JQ.go (JC.seq (JC.region (by rfl) ?_)))
 intro hQ
 refine JL.move .none rfl ?_
 refine JL.bin rfl rfl rfl .none rfl ?_
 refine JL.done hQ (JQ.go ?_)
 rcases ite_some hF with ⟨hc4, hF⟩ | ⟨hc4, hF⟩
 ·refine JC.cond_t (b := (y3 != 0)) rfl hc4 ?_
  refine JC.seq (JC.region (by rfl) ?_)
  intro hQ
  refine JL.move .none rfl ?_
  refine JL.assign .none rfl ?_
  refine JL.assign .none rfl ?_
  refine JL.done hQ (JQ.go (JC.ret (JQ.ret_then ?_)))
  obtain rfl := Option.some.inj hF
  exact JQ.outH rfl (.tmp (.tmp .nil)) ⟨(.slice none 0 0), rfl, SL.nil⟩
 ·refine JC.cond_f (b := (y3 != 0)) rfl hc4 ?_
  refine JC.skip (JQ.go (JC.seq (JC.seq (JC.region (by rfl) ?_))))
  intro hQ
  refine JL.move .none rfl ?_
  refine JL.fieldAddr fo_25_4 rfl .none rfl ?_
  refine JL.loadOwn 1 az_23 rfl rfl rfl .none rfl ?_
  refine JL.lenSL (R := R_Panel) ul_23 hs_4 .none rfl ?_
  refine JL.bin rfl rfl rfl .none rfl ?_
  obtain ⟨y5, hy5, hF⟩ := bind_some hF
  refine JL.callS (c_ref03_within n H panel 0 (w64 ((s.Panels.length : Int) - 1)) y5 hy5) rfl en_51 .none rfl ?_
  refine JL.not rfl .none rfl ?_
  refine JL.move .none rfl ?_
  obtain ⟨p7, hp7, hF⟩ := bind_some hF
  refine JL.cut 4 (fun f => f 1 = .int .i64 panel ∧ f 3 = .pointer (some ⟨b1, 0, none⟩) ∧ f 5 = .pointer (some ⟨b2, 0, none⟩) ∧ f 25 = .bool p7) ?_ ?_
  ·intro hJ8
   rcases ite_some hp7 with ⟨hc9, hF⟩ | ⟨hc9, hF⟩
   ·skip
    refine JL.skip (.bool rfl rfl rfl hc9) rfl ?_
    refine JL.skip (.bool rfl rfl rfl hc9) rfl ?_
    refine JL.skip (.bool rfl rfl rfl hc9) rfl ?_
    refine JL.pick_t (b := (!y5)) rfl hc9 .none rfl ?_
    obtain rfl := Option.some.inj hF
    exact hJ8 _ ⟨rfl, rfl, rfl, rfl⟩
   ·skip
    refine JL.loadOwn 0 az_62 rfl rfl rfl (.some rfl rfl rfl hc9) rfl ?_
    obtain ⟨y10, hy10, hF⟩ := bind_some hF
    refine JL.callS (c_ref03_IsPlace n H p y10 hy10) rfl en_24 (.some rfl rfl rfl hc9) rfl ?_
    refine JL.not rfl (.some rfl rfl rfl hc9) rfl ?_
    refine JL.pick_f (b := (!y5)) rfl hc9 .none rfl ?_
    obtain rfl := Option.some.inj hF
    exact hJ8 _ ⟨rfl, rfl, rfl, rfl⟩
  ·rintro f ⟨hf1, hf3, hf5, hf25⟩
   refine (JL.norm (i := 1) hf1 (JL.norm (i := 3) hf3 (JL.norm (i := 5) hf5 (JL.norm (i := 25) hf25 ?_))))
   refine JL.done hQ (JQ.go ?_)
   rcases ite_some hF with ⟨hc11, hF⟩ | ⟨hc11, hF⟩
   ·refine JC.cond_t (b := p7) rfl hc11 ?_
    refine JC.seq (JC.region (by rfl) ?_)
    intro hQ
    refine JL.assign .none rfl ?_
    refine JL.assign .none rfl ?_
    refine JL.done hQ (JQ.go (JC.ret (JQ.ret_then ?_)))
    obtain rfl := Option.some.inj hF
    exact JQ.outH rfl (.tmp (.tmp .nil)) ⟨(.slice none 0 0), rfl, SL.nil⟩
   ·refine JC.cond_f (b := p7) rfl hc11 ?_
    refine JC.skip (JQ.go (JC.seq ?_))
    obtain ⟨y18, hy18, hF⟩ := bind_some hF
    obtain ⟨y23, hy23, hF⟩ := bind_some hF
    refine JC.mixed 9 9 #[false, false, false, false, false, false, false, false, false] [(b2, .cells [.int .i64 p.Row, .int .i64 p.Col, .int .i64 p.Turned].toArray 62), (b1, .cells [.int .i64 s.Width, .int .i64 s.Length, s_v2, s_v3, s_v4].toArray 25)] (by rfl) mo_ (by kernel_rfl) (by kernel_rfl) ?_
    intro hQ hE
    refine JA.take 0 (listed' := #[true, false, false, false, false, false, false, false, false]) hQ rfl (by kernel_rfl) (by kernel_rfl) (by kernel_rfl) (by kernel_rfl) (by kernel_rfl) hE (HSub.refl _) (.cons_cons _ (.cons_cons _ (List.nil_sublist _))) ?_
    refine JL.fieldAddr fo_25_4 rfl .none rfl ?_
    refine JA.cont ?_
    refine JA.take 1 (listed' := #[true, true, false, false, false, false, false, false, false]) hQ rfl (by kernel_rfl) (by kernel_rfl) (by kernel_rfl) (by kernel_rfl) (by kernel_rfl) hE (HSub.refl _) (.cons_cons _ (.cons_cons _ (List.nil_sublist _))) ?_
    refine JL.loadOwn 1 az_23 rfl rfl rfl .none rfl ?_
    refine JA.cont ?_
    refine JA.take 2 (listed' := #[true, true, true, false, false, false, false, false, false]) hQ rfl (by kernel_rfl) (by kernel_rfl) (by kernel_rfl) (by kernel_rfl) (by kernel_rfl) hE (HSub.refl _) (.cons_cons _ (.cons_cons _ (List.nil_sublist _))) ?_
    refine JL.move .none rfl ?_
    refine JA.cont ?_
    refine JA.take 3 (listed' := #[true, true, true, true, false, false, false, false, false]) hQ rfl (by kernel_rfl) (by kernel_rfl) (by kernel_rfl) (by kernel_rfl) (by kernel_rfl) hE (HSub.refl _) (.cons_cons _ (.cons_cons _ (List.nil_sublist _))) ?_
    refine JL.indexSL (R := R_Panel) sl_23 hs_4 rfl hy18 .none rfl ?_
    rintro b38 o39 cs40 hc41 - ⟨y18_v0, rfl, hy18_0⟩
    refine JA.cont ?_
    refine JA.take 4 (listed' := #[true, true, true, true, true, false, false, false, false]) hQ rfl (by kernel_rfl) (by kernel_rfl) (by kernel_rfl) (by kernel_rfl) (by kernel_rfl) hE (HSub.refl _) (.cons_cons _ (.cons_cons _ (List.nil_sublist _))) ?_
    refine JL.loadH 0 az_30 rfl hc41 rfl .none rfl ?_
    refine JA.cont ?_
    refine JA.take 5 (listed' := #[true, true, true, true, true, true, false, false, false]) hQ rfl (by kernel_rfl) (by kernel_rfl) (by kernel_rfl) (by kernel_rfl) (by kernel_rfl) hE (HSub.refl _) (.cons_cons _ (.cons_cons _ (List.nil_sublist _))) ?_
    refine JL.loadOwn 0 az_62 rfl rfl rfl .none rfl ?_
    refine JA.cont ?_
    refine JA.many [6] (by kernel_rfl) (by simp) (all_one ⟨_, #[true, true, true, true, true, true, true, false, false], rfl, (by kernel_rfl), ?_⟩)
    refine JL.callH (c_ref03_CellsOf n H y18 y18_v0 hy18_0 p y23 hy23) rfl en_50 .none rfl ?_
    intro H42 y23a_v0 hs42 hy23a_0
    refine JA.after hE hs42 (.cons_cons _ (.cons_cons _ (List.nil_sublist _))) ?_
    refine JA.take 7 (listed' := #[true, true, true, true, true, true, true, true, false]) hQ rfl (by kernel_rfl) (by kernel_rfl) (by kernel_rfl) (by kernel_rfl) (by kernel_rfl) hE hs42 (.cons_cons _ (.cons_cons _ (List.nil_sublist _))) ?_
    refine JL.assign .none rfl ?_
    refine JA.cont ?_
    refine JA.take 8 (listed' := #[true, true, true, true, true, true, true, true, true]) hQ rfl (by kernel_rfl) (by kernel_rfl) (by kernel_rfl) (by kernel_rfl) (by kernel_rfl) hE hs42 (.cons_cons _ (.cons_cons _ (List.nil_sublist _))) ?_
    refine JL.assign .none rfl ?_
    refine JA.cont ?_
    refine JA.done hQ (by kernel_rfl) ?_
    refine JQ.go (JC.ret ?_)
    obtain rfl := Option.some.inj hF
    exact JQ.outH rfl (.tmp (.tmp .nil)) ⟨y23a_v0, rfl, hy23a_0⟩
-- 76 slices.IndexFunc[[]ferrule/api.Place,ferrule/api.Place]
def F_slices_IndexFunc___api_Place_api_Place__s1 (n : Nat) (s : List Place) (f_ : Place → Option Bool) : Int → Option (Int ⊕ (Int ⊕ Unit))
 | x_55 => if decide (x_55 < (s.length : Int)) = true then ((geti s x_55).bind fun y60 => (f_ y60).bind fun y65 => if y65 = true then (some (Sum.inr (Sum.inl x_55))) else (some (Sum.inl (w64 (x_55 + 1))))) else (some (Sum.inr (Sum.inr ())))
def F_slices_IndexFunc___api_Place_api_Place_ (n : Nat) (s : List Place) (f_ : Place → Option Bool) : Option Int :=
 (loopO n (F_slices_IndexFunc___api_Place_api_Place__s1 n s f_) 0).bind fun r34 => match r34 with | .inl o => some o | .inr _ => some (-1)
theorem c_slices_IndexFunc___api_Place_api_Place_ (n : Nat) (H : Hp) (s : List Place) (s_v0 : Value) (hs_0 : SL H 3 R_Place s_v0 s) (f_ : Place → Option Bool) (f__k : Nat) (f__c : List Value) (f__e : Ent Try.prog f__k) (f__h : ∀ H', HSub H H' → ∀ (a0_ : Place) (y : Bool), f_ a0_ = some y → SC Try.prog f__k ([.agg [.int .i64 a0_.Row, .int .i64 a0_.Col, .int .i64 a0_.Turned].toArray] ++ f__c) (.bool y) H') (y : Int) (hF : F_slices_IndexFunc___api_Place_api_Place_ n s f_ = some y) : SC Try.prog 76 [s_v0, .func (.func f__k) #[] f__c.toArray] (.int .i64 y) H := by
 rw [F_slices_IndexFunc___api_Place_api_Place_] at hF
 refine SC.of (N := 19) Try.func76 rfl rfl rfl fun w => ?_
 refine JC.seq (JC.region (by rfl) ?_)
 intro hQ
 refine JL.assign .none rfl ?_
 refine JL.done hQ (JQ.go (JC.seq (JC.seq (JC.region (by rfl) ?_))))
 intro hQ
 refine JL.move .none rfl ?_
 refine JL.lenSL (R := R_Place) ul_54 hs_0 .none rfl ?_
 refine JL.move .none rfl ?_
 refine JL.done hQ (JQ.go ?_)
 obtain ⟨r34, hlr34, hKr34⟩ := bind_some hF
 refine JC.join (fun (_ : Unit) H33 f bs gs => bs = [] ∧ gs = [] ∧ HSub H H33 ∧ Sum.inr () = r34) ?_ ?_
 ·skip
  refine JC.block (JC.loop hlr34 (fun (x_55 : Int) H56 f bs gs => f 0 = s_v0 ∧ f 1 = .func (.func f__k) #[] f__c.toArray ∧ f 7 = .int .i64 (s.length : Int) ∧ f 8 = .int .i64 x_55 ∧ bs = [] ∧ gs = [] ∧ HSub H H56) ⟨rfl, rfl, rfl, rfl, rfl, rfl, (HSub.refl _)⟩ ?_)
  rintro x_55 x58 H56 f bs gs ⟨hf0, hf1, hf7, hf8, rfl, rfl, hs56⟩ hF hr57
  rw [F_slices_IndexFunc___api_Place_api_Place__s1] at hF
  refine (JC.norm (i := 0) hf0 (JC.norm (i := 1) hf1 (JC.norm (i := 7) hf7 (JC.norm (i := 8) hf8 ?_))))
  refine JC.seq (JC.region (by rfl) ?_)
  intro hQ
  refine JL.bin rfl rfl rfl .none rfl ?_
  refine JL.done hQ (JQ.go (JC.seq ?_))
  rcases ite_some hF with ⟨hc59, hF⟩ | ⟨hc59, hF⟩
  ·refine JC.cond_t (b := decide (x_55 < (s.length : Int))) rfl hc59 ?_
   refine JC.skip (JQ.go (JC.seq (JC.block (JC.seq (JC.region (by rfl) ?_)))))
   intro hQ
   refine JL.move .none rfl ?_
   refine JL.assign .none rfl ?_
   refine JL.done hQ (JQ.go (JC.seq (JC.region (by rfl) ?_)))
   intro hQ
   refine JL.move .none rfl ?_
   refine JL.move .none rfl ?_
   refine JL.move .none rfl ?_
   obtain ⟨y60, hy60, hF⟩ := bind_some hF
   refine JL.indexSL (R := R_Place) sl_54 (SL.mono R_Place_mono hs56 hs_0) rfl hy60 .none rfl ?_
   rintro b61 o62 cs63 hc64 - rfl
   refine JL.loadH 0 az_62 rfl hc64 rfl .none rfl ?_
   obtain ⟨y65, hy65, hF⟩ := bind_some hF
   refine JL.callV rfl (f__h H56 hs56 y60 y65 hy65) rfl f__e .none rfl ?_
   refine JL.done hQ (JQ.go ?_)
   rcases ite_some hF with ⟨hc66, hF⟩ | ⟨hc66, hF⟩
   ·refine JC.cond_t (b := y65) rfl hc66 ?_
    refine JC.seq (JC.region (by rfl) ?_)
    intro hQ
    refine JL.move .none rfl ?_
    refine JL.assign .none rfl ?_
    refine JL.done hQ (JQ.go (JC.fresh (fun f => f 4 = .int .i64 x_55) rfl ?_))
    rintro f hf4
    refine (JC.norm (i := 4) hf4 ?_)
    refine JC.ret (JQ.ret_block (JQ.ret_then (JQ.ret_then (JQ.ret_block (JQ.ret_join (JQ.ret_then ?_))))))
    obtain rfl := Option.some.inj hF
    have ehr57 := hr57 _ rfl
    subst ehr57
    have hF := hKr34
    try dsimp only at hF
    obtain rfl := Option.some.inj hF
    exact JQ.outS rfl (.tmp .nil) rfl
   ·refine JC.cond_f (b := y65) rfl hc66 ?_
    refine JC.skip (JQ.normal_block (JQ.go (JC.region (by rfl) ?_)))
    intro hQ
    refine JL.bin rfl rfl rfl .none rfl ?_
    refine JL.move .none rfl ?_
    refine JL.done hQ ?_
    obtain rfl := Option.some.inj hF
    exact JQ.next rfl ⟨rfl, rfl, rfl, rfl, rfl, rfl, hs56⟩
  ·refine JC.cond_f (b := decide (x_55 < (s.length : Int))) rfl hc59 ?_
   refine JC.exit (JQ.exit_then (JQ.exit_then (JQ.exit_block ?_)))
   obtain rfl := Option.some.inj hF
   have ehr57 := hr57 _ rfl
   subst ehr57
   exact JQ.join () ⟨rfl, rfl, hs56, rfl⟩
 ·rintro _ H33 f bs gs ⟨rfl, rfl, hs33, rfl⟩
  have hF := hKr34
  try dsimp only at hF
  refine JQ.go (JC.seq (JC.region (by rfl) ?_))
  intro hQ
  refine JL.assign .none rfl ?_
  refine JL.done hQ (JQ.go (JC.ret ?_))
  obtain rfl := Option.some.inj hF
  exact JQ.outS rfl (.tmp .nil) rfl
-- 66 slices.ContainsFunc[[]ferrule/api.Place,ferrule/api.Place]
def F_slices_ContainsFunc___api_Place_api_Place_ (n : Nat) (s : List Place) (f_ : Place → Option Bool) : Option Bool :=
 (F_slices_IndexFunc___api_Place_api_Place_ n s f_).bind fun y1 => some (decide (0 ≤ y1))
theorem c_slices_ContainsFunc___api_Place_api_Place_ (n : Nat) (H : Hp) (s : List Place) (s_v0 : Value) (hs_0 : SL H 3 R_Place s_v0 s) (f_ : Place → Option Bool) (f__k : Nat) (f__c : List Value) (f__e : Ent Try.prog f__k) (f__h : ∀ H', HSub H H' → ∀ (a0_ : Place) (y : Bool), f_ a0_ = some y → SC Try.prog f__k ([.agg [.int .i64 a0_.Row, .int .i64 a0_.Col, .int .i64 a0_.Turned].toArray] ++ f__c) (.bool y) H') (y : Bool) (hF : F_slices_ContainsFunc___api_Place_api_Place_ n s f_ = some y) : SC Try.prog 66 [s_v0, .func (.func f__k) #[] f__c.toArray] (.bool y) H := by
 rw [F_slices_ContainsFunc___api_Place_api_Place_] at hF
 refine SC.of (N := 9) Try.func66 rfl rfl rfl fun w => ?_
 refine JC.seq (JC.region (by rfl) ?_)
 intro hQ
 refine JL.assign .none rfl ?_
 refine JL.done hQ (JQ.go (JC.seq (JC.region (by rfl) ?_)))
 intro hQ
 refine JL.move .none rfl ?_
 refine JL.move .none rfl ?_
 obtain ⟨y1, hy1, hF⟩ := bind_some hF
 refine JL.callS (c_slices_IndexFunc___api_Place_api_Place_ n H s s_v0 hs_0 f_ f__k f__c f__e (fun H' hs' => f__h H' hs') y1 hy1) rfl en_76 .none rfl ?_
 refine JL.bin rfl rfl rfl .none rfl ?_
 refine JL.assign .none rfl ?_
 refine JL.done hQ (JQ.go (JC.ret ?_))
 obtain rfl := Option.some.inj hF
 exact JQ.outS rfl (.tmp .nil) rfl
-- 67 ferrule/lays.Needs$1
def F_lays_Needs_1 (n : Nat) (p : Place) : Option Bool :=
 (F_lays_isPlace n p).bind fun y2 => some (!y2)
theorem c_lays_Needs_1 (n : Nat) (H : Hp) (p : Place) (y : Bool) (hF : F_lays_Needs_1 n p = some y) : SC Try.prog 67 [.agg [.int .i64 p.Row, .int .i64 p.Col, .int .i64 p.Turned].toArray] (.bool y) H := by
 rw [F_lays_Needs_1] at hF
 refine SC.of (N := 6) Try.func67 rfl rfl rfl fun w => ?_
 refine JC.seq (JC.region (by rfl) ?_)
 intro hQ
 refine JL.box (cs := [.int .i64 p.Row, .int .i64 p.Col, .int .i64 p.Turned]) rfl .none rfl ?_
 intro b1
 refine JL.assign .none rfl ?_
 refine JL.done hQ (JQ.go (JC.seq (JC.region (by rfl) ?_)))
 intro hQ
 refine JL.loadOwn 0 az_62 rfl rfl rfl .none rfl ?_
 obtain ⟨y2, hy2, hF⟩ := bind_some hF
 refine JL.callS (c_lays_isPlace n H p y2 hy2) rfl en_65 .none rfl ?_
 refine JL.not rfl .none rfl ?_
 refine JL.assign .none rfl ?_
 refine JL.done hQ (JQ.go (JC.ret ?_))
 obtain rfl := Option.some.inj hF
 exact JQ.outS rfl (.tmp .nil) rfl
end Go.Proofs.Ytflhjlgimihmgaa
end
section
namespace Go.Dec
theorem w64_nat {i : Nat} (h : i ≤ 4611686018427387904) : w64 ((i : Int) + 1) = ((i + 1 : Nat) : Int) := by
  rw [w64_id] <;> omega
theorem lim_ok {α : Type} {l : List α} (h : l.length ≤ 4294967296) : lim l = some l := by simp [lim, h]
section
variable {S R : Type} {step : S → Option (S ⊕ R)}
theorem loopO_succ {n : Nat} {s : S} : loopO (n + 1) step s = (match step s with | none => none | some (.inl s') => loopO n step s' | some (.inr r) => some r) := by
  rw [loopO]; rcases step s with _ | (_ | _) <;> rfl
theorem loop_done {n : Nat} {s : S} {r : R} (h : step s = some (.inr r)) (hn : 0 < n) : loopO n step s = some r := by
  obtain ⟨m, rfl⟩ : ∃ k, n = k + 1 := ⟨n - 1, by omega⟩
  rw [loopO_succ, h]
/-- a loop that folds a list; I: what is so of the state before round i -/
theorem loop_fold {α β : Type} (l : List α) (enc : Nat → β → S) (g : β → α → β) (fin : β → R) (I : Nat → β → Prop) {n : Nat} (b0 : β) (h0 : I 0 b0)
    (h : ∀ i x b, l[i]? = some x → I i b → step (enc i b) = some (.inl (enc (i + 1) (g b x))) ∧ I (i + 1) (g b x))
    (hd : ∀ b, I l.length b → step (enc l.length b) = some (.inr (fin b))) (hn : l.length < n) : loopO n step (enc 0 b0) = some (fin (l.foldl g b0)) ∧ I l.length (l.foldl g b0) := by
  have key : ∀ (k i : Nat) (b : β) (n : Nat), i + k = l.length → I i b → k < n → loopO n step (enc i b) = some (fin ((l.drop i).foldl g b)) ∧ I l.length ((l.drop i).foldl g b) := by
    intro k
    induction k with
    | zero =>
      intro i b n hi hI hn
      have e : i = l.length := by omega
      subst e
      rw [List.drop_length]
      exact ⟨loop_done (hd b hI) hn, hI⟩
    | succ k ih =>
      intro i b n hi hI hn
      obtain ⟨m, rfl⟩ : ∃ k, n = k + 1 := ⟨n - 1, by omega⟩
      have hlt : i < l.length := by omega
      obtain ⟨h1, h2⟩ := h i l[i] b (List.getElem?_eq_getElem hlt) hI
      rw [loopO_succ, h1, List.drop_eq_getElem_cons hlt, List.foldl_cons]
      exact ih (i + 1) _ m (by omega) h2 (by omega)
  have := key l.length 0 b0 n (by omega) h0 hn
  rwa [List.drop_zero] at this
/-- a search by index -/
theorem loop_all {ρ : Type} {step : Int → Option (Int ⊕ (ρ ⊕ Unit))} (k : Nat) (p : Nat → Bool) (r : ρ) {n : Nat} (hk : k ≤ 4611686018427387904)
    (h : ∀ i, i < k → step (i : Int) = some (bif p i then .inl ((i + 1 : Nat) : Int) else .inr (.inl r))) (hd : step (k : Int) = some (.inr (.inr ()))) (hn : k < n) :
    loopO n step 0 = some (bif (List.range k).all p then .inr () else .inl r) := by
  have key : ∀ (m i n : Nat), i + m = k → m < n → loopO n step (i : Int) = some (bif (List.range' i m).all p then .inr () else .inl r) := by
    intro m
    induction m with
    | zero => intro i n hi hn; have : i = k := by omega
              subst this; rw [loop_done hd (by omega)]; simp
    | succ m ih =>
      intro i n hi hn
      obtain ⟨m', rfl⟩ : ∃ k, n = k + 1 := ⟨n - 1, by omega⟩
      rw [loopO_succ, h i (by omega), List.range'_succ, List.all_cons]
      cases hp : p i with
      | false => simp
      | true => simp only [cond_true, Bool.true_and]; exact ih (i + 1) m' (by omega) (by omega)
  have := key k 0 n (by omega) hn
  rw [List.range_eq_range']
  exact this
/-- a search in a list -/
theorem loop_all_l {α ρ : Type} {step : Int → Option (Int ⊕ (ρ ⊕ Unit))} (l : List α) (p : α → Bool) (r : ρ) {n : Nat} (hk : l.length ≤ 4611686018427387904)
    (h : ∀ i x, l[i]? = some x → i < l.length → step (i : Int) = some (bif p x then .inl ((i + 1 : Nat) : Int) else .inr (.inl r))) (hd : step (l.length : Int) = some (.inr (.inr ()))) (hn : l.length < n) :
    loopO n step 0 = some (bif l.all p then .inr () else .inl r) := by
  have := loop_all l.length (fun i => match l[i]? with | some x => p x | none => true) r hk (fun i hi => by
    rw [h i l[i] (List.getElem?_eq_getElem hi) hi]; simp [hi]) hd hn
  rw [this]
  have e : (List.range l.length).all (fun i => match l[i]? with | some x => p x | none => true) = l.all p := by
    rw [Bool.eq_iff_iff]
    simp only [List.all_eq_true, List.mem_range]
    constructor
    · intro h x hx
      obtain ⟨i, hi⟩ := List.mem_iff_getElem?.1 hx
      have := h i (List.getElem?_eq_some_iff.1 hi).1
      simpa [hi] using this
    · intro h i hi
      simpa [hi] using h _ (List.getElem_mem hi)
  rw [e]
end
theorem foldl_append_map {α β : Type} (f : α → β) : ∀ (l : List α) (out : List β), l.foldl (fun o x => o ++ [f x]) out = out ++ l.map f
  | [], out => by simp
  | a :: l, out => by rw [List.foldl_cons, foldl_append_map f l]; simp
end Go.Dec
end
section
namespace Go.Dec
def span (a b : Int) : List Int := (List.range (b + 1 - a).toNat).map fun j : Nat => a + j
def down (b a : Int) : List Int := (List.range (b + 1 - a).toNat).map fun j : Nat => b - j
theorem span_mem' {a b x : Int} : x ∈ span a b ↔ a ≤ x ∧ x ≤ b := by
  simp only [span, List.mem_map, List.mem_range]
  constructor
  · rintro ⟨j, h, rfl⟩; omega
  · intro h; exact ⟨(x - a).toNat, by omega, by omega⟩
theorem span_len (a b : Int) : (span a b).length = (b + 1 - a).toNat := by simp [span]
theorem span_nil {a b : Int} (h : b < a) : span a b = [] := by
  have : (b + 1 - a).toNat = 0 := by omega
  simp [span, this]
theorem span_cons {a b : Int} (h : a ≤ b) : span a b = a :: span (a + 1) b := by
  have : (b + 1 - a).toNat = (b + 1 - (a + 1)).toNat + 1 := by omega
  unfold span
  rw [this, List.range_succ_eq_map, List.map_cons, List.map_map]
  simp only [Int.natCast_zero, Int.add_zero]
  congr 1
  apply List.map_congr_left
  intro j _
  simp only [Function.comp]
  omega
theorem mul_in {x y A C : Int} (h1 : 0 ≤ x) (h2 : x ≤ A) (h3 : 0 ≤ y) (h4 : y ≤ C) : 0 ≤ x * y ∧ x * y ≤ A * C := by
  refine ⟨Int.mul_nonneg h1 h3, ?_⟩
  have a := Int.mul_le_mul_of_nonneg_right h2 h3
  have b := Int.mul_le_mul_of_nonneg_left h4 (show 0 ≤ A by omega)
  omega
end Go.Dec
end
section
namespace Go.Dec
def expand (m : Mp) : List (List Int) := m.flatMap fun p => List.replicate p.2.toNat p.1
/-- the map counts the list's members -/
structure RM (L : List (List Int)) (m : Mp) : Prop where
  srt : Srt m
  pos : ∀ p ∈ m, 0 < p.2
  perm : (expand m).Perm L
theorem mget_cons {p : List Int × Int} {r : Mp} {k : List Int} : mget (p :: r) k = if p.1 = k then p.2 else mget r k := by
  unfold mget
  rw [List.find?_cons]
  by_cases h : p.1 = k
  · have : (p.1 == k) = true := by simpa using h
    rw [this, if_pos h]
  · have : (p.1 == k) = false := by simpa using h
    rw [this, if_neg h]
theorem mget_nil {k : List Int} : mget [] k = 0 := rfl
theorem expand_cons (p : List Int × Int) (r : Mp) : expand (p :: r) = List.replicate p.2.toNat p.1 ++ expand r := by simp [expand]
theorem mget_nonneg {m : Mp} (hp : ∀ p ∈ m, 0 < p.2) (k : List Int) : 0 ≤ mget m k := by
  induction m with
  | nil => simp [mget_nil]
  | cons p r ih =>
    rw [mget_cons]
    split
    · have := hp p (List.mem_cons_self ..); omega
    · exact ih fun q hq => hp q (List.mem_cons_of_mem _ hq)
theorem expand_mput {k : List Int} {c : Int} (hc : 0 < c) : ∀ {m : Mp}, Srt m → (∀ p ∈ m, 0 < p.2) → (expand (mput m k (mget m k + c))).Perm (expand m ++ List.replicate c.toNat k)
  | [], _, _ => by simp [mput, mget_nil, expand]
  | p :: r, hs, hp => by
    obtain ⟨h1, h2⟩ := List.pairwise_cons.1 hs
    have hp' : ∀ q ∈ r, 0 < q.2 := fun q hq => hp q (List.mem_cons_of_mem _ hq)
    have hpp := hp p (List.mem_cons_self ..)
    rw [mget_cons]
    unfold mput
    by_cases e : p.1 = k
    · rw [if_pos e, if_pos (by simpa using e), expand_cons, expand_cons]
      simp only
      have e1 : (p.2 + c).toNat = p.2.toNat + c.toNat := by omega
      rw [e1, ← List.replicate_append_replicate, e]
      rw [List.append_assoc, List.append_assoc]
      exact List.Perm.append_left _ List.perm_append_comm
    · rw [if_neg e, if_neg (by simpa using e)]
      by_cases hl : klt k p.1 = true
      · rw [if_pos hl]
        have h0 : mget r k = 0 := mget_of_not fun q hq e2 => by
          have := klt_trans hl (h1 q hq)
          rw [e2, klt_irrefl] at this
          cases this
        rw [h0, expand_cons, Int.zero_add]
        exact List.perm_append_comm
      · rw [if_neg hl, expand_cons, expand_cons, List.append_assoc]
        exact List.Perm.append_left _ (expand_mput hc h2 hp')
theorem RM.nil : RM [] [] := ⟨List.Pairwise.nil, by simp, by simp [expand]⟩
theorem RM.add {L : List (List Int)} {m : Mp} (h : RM L m) (k : List Int) {c : Int} (hc : 0 < c) : RM (L ++ List.replicate c.toNat k) (mput m k (mget m k + c)) := by
  refine ⟨srt_mput h.srt, fun p hp => ?_, (expand_mput hc h.srt h.pos).trans (h.perm.append_right _)⟩
  rcases (mem_mput h.srt).1 hp with rfl | ⟨hp, _⟩
  · have := mget_nonneg h.pos k; simp only; omega
  · exact h.pos p hp
theorem mget_count {k : List Int} : ∀ {m : Mp}, Srt m → (∀ p ∈ m, 0 < p.2) → mget m k = ((expand m).count k : Nat)
  | [], _, _ => by simp [mget_nil, expand]
  | p :: r, hs, hp => by
    obtain ⟨h1, h2⟩ := List.pairwise_cons.1 hs
    have hp' : ∀ q ∈ r, 0 < q.2 := fun q hq => hp q (List.mem_cons_of_mem _ hq)
    have hpp := hp p (List.mem_cons_self ..)
    rw [mget_cons, expand_cons, List.count_append, List.count_replicate]
    have ih := mget_count (k := k) h2 hp'
    by_cases e : p.1 = k
    · rw [if_pos e, if_pos (by simpa using e)]
      have h0 : mget r k = 0 := mget_of_not fun q hq e2 => by
        have := h1 q hq
        rw [e2, ← e, klt_irrefl] at this
        cases this
      omega
    · rw [if_neg e, if_neg (by simpa using e)]
      omega
theorem RM.get {L : List (List Int)} {m : Mp} (h : RM L m) (k : List Int) : mget m k = (L.count k : Nat) := by
  rw [mget_count h.srt h.pos, h.perm.count_eq]
theorem RM.mem {L : List (List Int)} {m : Mp} (h : RM L m) {p : List Int × Int} : p ∈ m ↔ p.2 = (L.count p.1 : Nat) ∧ p.1 ∈ L := by
  constructor
  · intro hp
    have h1 := mget_of_mem h.srt (k := p.1) (v := p.2) hp
    rw [h.get] at h1
    refine ⟨h1.symm, ?_⟩
    have := h.pos p hp
    exact List.count_pos_iff.1 (by omega)
  · rintro ⟨h1, h2⟩
    have h3 : 0 < L.count p.1 := List.count_pos_iff.2 h2
    have h4 := h.get p.1
    unfold mget at h4
    cases hf : m.find? (fun q => q.1 == p.1) with
    | none => rw [hf] at h4; simp only at h4; omega
    | some q =>
      rw [hf] at h4
      simp only at h4
      have h5 := List.find?_some hf
      have e : q = p := by
        have : q.1 = p.1 := by simpa using h5
        exact Prod.ext this (by omega)
      rw [← e]
      exact List.mem_of_find?_eq_some hf
theorem RM.key {L : List (List Int)} {m : Mp} (h : RM L m) {x : List Int} : (∃ c, (x, c) ∈ m) ↔ x ∈ L :=
  ⟨fun ⟨_, hc⟩ => (h.mem.1 hc).2, fun hx => ⟨(L.count x : Nat), h.mem.2 ⟨rfl, hx⟩⟩⟩
theorem expand_filter (q : List Int → Bool) : ∀ (m : Mp), expand (m.filter fun p => q p.1) = (expand m).filter q
  | [] => by simp [expand]
  | p :: r => by
    rw [expand_cons, List.filter_append]
    cases hq : q p.1 with
    | true => rw [List.filter_cons_of_pos (p := fun p : List Int × Int => q p.1) hq, expand_cons, expand_filter q r, List.filter_replicate_of_pos hq]
    | false => rw [List.filter_cons_of_neg (p := fun p : List Int × Int => q p.1) (by simp [hq]), expand_filter q r, List.filter_replicate_of_neg (by simp [hq]), List.nil_append]
theorem RM.filter {L : List (List Int)} {m : Mp} (h : RM L m) (q : List Int → Bool) : RM (L.filter q) (m.filter fun p => q p.1) :=
  ⟨h.srt.filter _, fun p hp => h.pos p (List.mem_filter.1 hp).1, by rw [expand_filter]; exact h.perm.filter _⟩
end Go.Dec
end
