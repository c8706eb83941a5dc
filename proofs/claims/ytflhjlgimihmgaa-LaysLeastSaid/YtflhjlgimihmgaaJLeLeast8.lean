/-
  A part of the proof of LeLeast: the texts LeGenK11, EngQ, EngR, EngZ, LeLaa, LeLab, LeLac.
-/
import Derived.Test.YtflhjlgimihmgaaJLeLeast7
section
set_option maxRecDepth 100000
set_option maxHeartbeats 40000000
namespace Go.Proofs.Ytflhjlgimihmgaa
open Go Go.RowKit Go.Dec
set_option linter.unusedVariables false
-- 20 ferrule/lays.Lay
def F_lays_Lay (n : Nat) (s : Lap) : Option ((List Place) × Int) :=
 (F_lays_sure n s).bind fun y2 => some (y2.2.1, y2.2.2)
theorem c_lays_Lay (n : Nat) (H : Hp) (s : Lap) (s_v2 : Value) (hs_2 : SL H 2 R_Cell s_v2 s.Faults) (s_v3 : Value) (hs_3 : SL H 2 R_Cell s_v3 s.Flaws) (s_v4 : Value) (hs_4 : SL H 1 R_Panel s_v4 s.Panels) (y : (List Place) × Int) (hF : F_lays_Lay n s = some y) : HC Try.prog 20 [.agg [.int .i64 s.Width, .int .i64 s.Length, s_v2, s_v3, s_v4].toArray] H (fun H' v => ∃ ra_v0 : Value, v = .tuple [ra_v0, .int .i64 y.2].toArray ∧ SL H' 3 R_Place ra_v0 y.1) := by
 rw [F_lays_Lay] at hF
 refine HC.of (N := 15) Try.func20 rfl rfl rfl fun w => ?_
 refine JC.seq (JC.region (by rfl) ?_)
 intro hQ
 refine JL.box (cs := [.int .i64 s.Width, .int .i64 s.Length, s_v2, s_v3, s_v4]) rfl .none rfl ?_
 intro b1
 refine JL.assign .none rfl ?_
 refine JL.assign .none rfl ?_
 refine JL.done hQ (JQ.go (JC.seq (JC.region (by rfl) ?_)))
 intro hQ
 refine JL.loadOwn 0 az_25 rfl rfl rfl .none rfl ?_
 obtain ⟨y2, hy2, hF⟩ := bind_some hF
 refine JL.callH (c_lays_sure n H s s_v2 hs_2 s_v3 hs_3 s_v4 hs_4 y2 hy2) rfl en_43 .none rfl ?_
 rintro H3 vv4 hs3 ⟨y2b_v0, rfl, hy2b_0⟩
 refine JL.move .none rfl ?_
 refine JL.extract rfl rfl .none rfl ?_
 refine JL.extract rfl rfl .none rfl ?_
 refine JL.extract rfl rfl .none rfl ?_
 refine JL.assign .none rfl ?_
 refine JL.assign .none rfl ?_
 refine JL.assign .none rfl ?_
 refine JL.done hQ (JQ.go (JC.seq (JC.region (by rfl) ?_)))
 intro hQ
 refine JL.move .none rfl ?_
 refine JL.move .none rfl ?_
 refine JL.assign .none rfl ?_
 refine JL.assign .none rfl ?_
 refine JL.done hQ (JQ.go (JC.fresh (fun f => f 2 = y2b_v0 ∧ f 3 = .int .i64 y2.2.2) ⟨rfl, rfl⟩ ?_))
 rintro f ⟨hf2, hf3⟩
 refine (JC.norm (i := 2) hf2 (JC.norm (i := 3) hf3 ?_))
 refine JC.ret ?_
 obtain rfl := Option.some.inj hF
 exact JQ.outH rfl (.tmp (.tmp .nil)) ⟨y2b_v0, rfl, hy2b_0⟩
-- 32 ferrule/ferrulelaw03.sameInts
def F_law03_sameInts_s1 (n : Nat) (a : List Int) (b : List Int) : Int → Option (Int ⊕ (Bool ⊕ Unit))
 | i_126 => if decide (i_126 < (a.length : Int)) = true then ((geti a i_126).bind fun y141 => (geti b i_126).bind fun y146 => if (y141 != y146) = true then (some (Sum.inr (Sum.inl false))) else (some (Sum.inl (w64 (i_126 + 1))))) else (some (Sum.inr (Sum.inr ())))
def F_law03_sameInts (n : Nat) (a : List Int) (b : List Int) : Option Bool :=
 if ((a.length : Int) != (b.length : Int)) = true then (some false) else ((loopO n (F_law03_sameInts_s1 n a b) 0).bind fun r77 => match r77 with | .inl o => some o | .inr _ => some true)
theorem c_law03_sameInts (n : Nat) (H : Hp) (a : List Int) (a_v0 : Value) (ha_0 : SL H 1 RInt a_v0 a) (b : List Int) (b_v0 : Value) (hb_0 : SL H 1 RInt b_v0 b) (y : Bool) (hF : F_law03_sameInts n a b = some y) : SC Try.prog 32 [a_v0, b_v0] (.bool y) H := by
 rw [F_law03_sameInts] at hF
 refine SC.of (N := 26) Try.func32 rfl rfl rfl fun w => ?_
 refine JC.seq (JC.region (by rfl) ?_)
 intro hQ
 refine JL.assign .none rfl ?_
 refine JL.done hQ (JQ.go (JC.seq (JC.seq (JC.region (by rfl) ?_))))
 intro hQ
 refine JL.move .none rfl ?_
 refine JL.lenSL (R := RInt) ul_48 ha_0 .none rfl ?_
 refine JL.move .none rfl ?_
 refine JL.lenSL (R := RInt) ul_48 hb_0 .none rfl ?_
 refine JL.bin rfl rfl rfl .none rfl ?_
 refine JL.done hQ (JQ.go ?_)
 rcases ite_some hF with ⟨hc1, hF⟩ | ⟨hc1, hF⟩
 ·refine JC.cond_t (b := ((a.length : Int) != (b.length : Int))) rfl hc1 ?_
  refine JC.seq (JC.region (by rfl) ?_)
  intro hQ
  refine JL.assign .none rfl ?_
  refine JL.done hQ (JQ.go (JC.ret (JQ.ret_then ?_)))
  obtain rfl := Option.some.inj hF
  exact JQ.outS rfl (.tmp .nil) rfl
 ·refine JC.cond_f (b := ((a.length : Int) != (b.length : Int))) rfl hc1 ?_
  refine JC.skip (JQ.go (JC.seq (JC.seq (JC.region (by rfl) ?_))))
  intro hQ
  refine JL.assign .none rfl ?_
  refine JL.done hQ (JQ.go ?_)
  obtain ⟨r77, hlr77, hKr77⟩ := bind_some hF
  refine JC.join (fun (_ : Unit) H76 f bs gs => bs = [] ∧ gs = [] ∧ HSub H H76 ∧ Sum.inr () = r77) ?_ ?_
  ·skip
   refine JC.block (JC.loop hlr77 (fun (i_126 : Int) H127 f bs gs => f 0 = a_v0 ∧ f 1 = b_v0 ∧ f 5 = .int .i64 i_126 ∧ bs = [] ∧ gs = [] ∧ HSub H H127) ⟨rfl, rfl, rfl, rfl, rfl, (HSub.refl _)⟩ ?_)
   rintro i_126 x129 H127 f bs gs ⟨hf0, hf1, hf5, rfl, rfl, hs127⟩ hF hr128
   rw [F_law03_sameInts_s1] at hF
   refine (JC.norm (i := 0) hf0 (JC.norm (i := 1) hf1 (JC.norm (i := 5) hf5 ?_)))
   refine JC.seq (JC.seq (JC.region (by rfl) ?_))
   intro hQ
   refine JL.move .none rfl ?_
   refine JL.move .none rfl ?_
   refine JL.lenSL (R := RInt) ul_48 (SL.mono RInt.mono hs127 ha_0) .none rfl ?_
   refine JL.bin rfl rfl rfl .none rfl ?_
   refine JL.done hQ (JQ.go ?_)
   rcases ite_some hF with ⟨hc130, hF⟩ | ⟨hc130, hF⟩
   ·refine JC.cond_t (b := decide (i_126 < (a.length : Int))) rfl hc130 ?_
    refine JC.skip (JQ.go (JC.seq (JC.block (JC.seq (JC.draw (by rfl) mo_ (by kernel_rfl) ?_)))))
    intro hQ
    refine JL.move .none rfl ?_
    refine JL.move .none rfl ?_
    obtain ⟨y141, hy141, hF⟩ := bind_some hF
    refine JL.indexSL (R := RInt) sl_48 (SL.mono RInt.mono hs127 ha_0) rfl hy141 .none rfl ?_
    rintro b142 o143 cs144 hc145 - rfl
    refine JL.loadH 0 az_3 rfl hc145 rfl .none rfl ?_
    refine JL.move .none rfl ?_
    refine JL.move .none rfl ?_
    obtain ⟨y146, hy146, hF⟩ := bind_some hF
    refine JL.indexSL (R := RInt) sl_48 (SL.mono RInt.mono hs127 hb_0) rfl hy146 .none rfl ?_
    rintro b147 o148 cs149 hc150 - rfl
    refine JL.loadH 0 az_3 rfl hc150 rfl .none rfl ?_
    refine JL.bin rfl rfl rfl .none rfl ?_
    refine JL.doneQ hQ ?_
    refine JQ.go (JC.fresh (fun f => f 0 = a_v0 ∧ f 1 = b_v0 ∧ f 5 = .int .i64 i_126 ∧ f 25 = .bool (y141 != y146)) ⟨rfl, rfl, rfl, rfl⟩ ?_)
    rintro f ⟨hf0, hf1, hf5, hf25⟩
    refine (JC.norm (i := 0) hf0 (JC.norm (i := 1) hf1 (JC.norm (i := 5) hf5 (JC.norm (i := 25) hf25 ?_))))
    rcases ite_some hF with ⟨hc151, hF⟩ | ⟨hc151, hF⟩
    ·refine JC.cond_t (b := (y141 != y146)) rfl hc151 ?_
     refine JC.seq (JC.region (by rfl) ?_)
     intro hQ
     refine JL.assign .none rfl ?_
     refine JL.done hQ (JQ.go (JC.ret (JQ.ret_block (JQ.ret_then (JQ.ret_then (JQ.ret_block (JQ.ret_join (JQ.ret_then ?_))))))))
     obtain rfl := Option.some.inj hF
     have ehr128 := hr128 _ rfl
     subst ehr128
     have hF := hKr77
     try dsimp only at hF
     obtain rfl := Option.some.inj hF
     exact JQ.outS rfl (.tmp .nil) rfl
    ·refine JC.cond_f (b := (y141 != y146)) rfl hc151 ?_
     refine JC.skip (JQ.normal_block (JQ.go (JC.region (by rfl) ?_)))
     intro hQ
     refine JL.move .none rfl ?_
     refine JL.bin rfl rfl rfl .none rfl ?_
     refine JL.assign .none rfl ?_
     refine JL.done hQ ?_
     obtain rfl := Option.some.inj hF
     exact JQ.next rfl ⟨rfl, rfl, rfl, rfl, rfl, hs127⟩
   ·refine JC.cond_f (b := decide (i_126 < (a.length : Int))) rfl hc130 ?_
    refine JC.exit (JQ.exit_then (JQ.exit_then (JQ.exit_block ?_)))
    obtain rfl := Option.some.inj hF
    have ehr128 := hr128 _ rfl
    subst ehr128
    exact JQ.join () ⟨rfl, rfl, hs127, rfl⟩
  ·rintro _ H76 f bs gs ⟨rfl, rfl, hs76, rfl⟩
   have hF := hKr77
   try dsimp only at hF
   refine JQ.go (JC.seq (JC.region (by rfl) ?_))
   intro hQ
   refine JL.assign .none rfl ?_
   refine JL.done hQ (JQ.go (JC.ret ?_))
   obtain rfl := Option.some.inj hF
   exact JQ.outS rfl (.tmp .nil) rfl
-- 24 ferrule/ferruleref03.IsPlace
def F_ref03_IsPlace (n : Nat) (p : Place) : Option Bool :=
 (F_ref03_within n p.Row 0 12).bind fun y2 => (if y2 = true then ((F_ref03_within n p.Col 0 12).bind fun y7 => some y7) else (some false) : Option Bool).bind fun p4 => (if p4 = true then ((F_ref03_within n p.Turned 0 1).bind fun y12 => some y12) else (some false) : Option Bool).bind fun p9 => some p9
theorem c_ref03_IsPlace (n : Nat) (H : Hp) (p : Place) (y : Bool) (hF : F_ref03_IsPlace n p = some y) : SC Try.prog 24 [.agg [.int .i64 p.Row, .int .i64 p.Col, .int .i64 p.Turned].toArray] (.bool y) H := by
 rw [F_ref03_IsPlace] at hF
 refine SC.of (N := 16) Try.func24 rfl rfl rfl fun w => ?_
 refine JC.seq (JC.region (by rfl) ?_)
 intro hQ
 refine JL.box (cs := [.int .i64 p.Row, .int .i64 p.Col, .int .i64 p.Turned]) rfl .none rfl ?_
 intro b1
 refine JL.assign .none rfl ?_
 refine JL.done hQ (JQ.go (JC.seq (JC.region (by rfl) ?_)))
 intro hQ
 refine JL.fieldAddr fo_62_0 rfl .none rfl ?_
 refine JL.loadOwn 0 az_3 rfl rfl rfl .none rfl ?_
 obtain ⟨y2, hy2, hF⟩ := bind_some hF
 refine JL.callS (c_ref03_within n H p.Row 0 12 y2 hy2) rfl en_51 .none rfl ?_
 refine JL.move .none rfl ?_
 obtain ⟨p4, hp4, hF⟩ := bind_some hF
 refine JL.cut 4 (fun f => f 1 = .pointer (some ⟨b1, 0, none⟩) ∧ f 10 = .bool p4) ?_ ?_
 ·intro hJ5
  rcases ite_some hp4 with ⟨hc6, hF⟩ | ⟨hc6, hF⟩
  ·skip
   refine JL.fieldAddr fo_62_1 rfl (.some rfl rfl rfl hc6) rfl ?_
   refine JL.loadOwn 0 az_3 rfl rfl rfl (.some rfl rfl rfl hc6) rfl ?_
   obtain ⟨y7, hy7, hF⟩ := bind_some hF
   refine JL.callS (c_ref03_within n H p.Col 0 12 y7 hy7) rfl en_51 (.some rfl rfl rfl hc6) rfl ?_
   refine JL.pick_t (b := y2) rfl hc6 .none rfl ?_
   obtain rfl := Option.some.inj hF
   exact hJ5 _ ⟨rfl, rfl⟩
  ·skip
   refine JL.skip (.bool rfl rfl rfl hc6) rfl ?_
   refine JL.skip (.bool rfl rfl rfl hc6) rfl ?_
   refine JL.skip (.bool rfl rfl rfl hc6) rfl ?_
   refine JL.pick_f (b := y2) rfl hc6 .none rfl ?_
   obtain rfl := Option.some.inj hF
   exact hJ5 _ ⟨rfl, rfl⟩
 ·rintro f ⟨hf1, hf10⟩
  refine (JL.norm (i := 1) hf1 (JL.norm (i := 10) hf10 ?_))
  refine JL.move .none rfl ?_
  obtain ⟨p9, hp9, hF⟩ := bind_some hF
  refine JL.cut 4 (fun f => f 15 = .bool p9) ?_ ?_
  ·intro hJ10
   rcases ite_some hp9 with ⟨hc11, hF⟩ | ⟨hc11, hF⟩
   ·skip
    refine JL.fieldAddr fo_62_2 rfl (.some rfl rfl rfl hc11) rfl ?_
    refine JL.loadOwn 0 az_3 rfl rfl rfl (.some rfl rfl rfl hc11) rfl ?_
    obtain ⟨y12, hy12, hF⟩ := bind_some hF
    refine JL.callS (c_ref03_within n H p.Turned 0 1 y12 hy12) rfl en_51 (.some rfl rfl rfl hc11) rfl ?_
    refine JL.pick_t (b := p4) rfl hc11 .none rfl ?_
    obtain rfl := Option.some.inj hF
    exact hJ10 _ (rfl)
   ·skip
    refine JL.skip (.bool rfl rfl rfl hc11) rfl ?_
    refine JL.skip (.bool rfl rfl rfl hc11) rfl ?_
    refine JL.skip (.bool rfl rfl rfl hc11) rfl ?_
    refine JL.pick_f (b := p4) rfl hc11 .none rfl ?_
    obtain rfl := Option.some.inj hF
    exact hJ10 _ (rfl)
  ·rintro f hf15
   refine (JL.norm (i := 15) hf15 ?_)
   refine JL.assign .none rfl ?_
   refine JL.done hQ (JQ.go (JC.ret ?_))
   obtain rfl := Option.some.inj hF
   exact JQ.outS rfl (.tmp .nil) rfl
-- 25 ferrule/ferruleref03.Rows
def F_ref03_Rows_s2 (n : Nat) (s : Lap) (bad : List Cell) (out_3639 : List Cell) (y3665 : (List Cell)) : Int × Int → Option ((Int × Int) ⊕ (((Int × Int × List Cell) ⊕ (Int ⊕ Int)) ⊕ Int))
 | (rows_4156, k_4157) => if decide (k_4157 < (y3665.length : Int)) = true then ((geti y3665 k_4157).bind fun y4202 => (F_ref03_IsCell n s y4202).bind fun y4207 => (if (!y4207) = true then (some true) else ((geti y3665 k_4157).bind fun y4217 => (F_ref03_In n bad y4217).bind fun y4222 => some y4222) : Option Bool).bind fun p4214 => (if p4214 = true then (some true) else ((geti y3665 k_4157).bind fun y4234 => (F_ref03_In n out_3639 y4234).bind fun y4241 => some y4241) : Option Bool).bind fun p4231 => if p4231 = true then (some (Sum.inr (Sum.inl (Sum.inr (Sum.inl (-1)))))) else ((geti y3665 k_4157).bind fun y4243 => some (Sum.inl ((max rows_4156 (w64 (y4243.Row + 1))), (w64 (k_4157 + 1)))))) else (some (Sum.inr (Sum.inr rows_4156)))
def F_ref03_Rows_s1 (n : Nat) (s : Lap) (bad : List Cell) (lay : List Place) : Int × Int × List Cell → Option ((Int × Int × List Cell) ⊕ (Int ⊕ Int))
 | (rows_3637, i_3638, out_3639) => if decide (i_3638 < (lay.length : Int)) = true then ((geti s.Panels i_3638).bind fun y3655 => (geti lay i_3638).bind fun y3660 => (F_ref03_CellsOf n y3655 y3660).bind fun y3665 => (loopO n (F_ref03_Rows_s2 n s bad out_3639 y3665) (rows_3637, 0)).bind fun r3975 => match r3975 with | .inl o => some o | .inr rows_3973 => (lim (out_3639 ++ y3665)).bind fun l4248 => some (Sum.inl (rows_3973, (w64 (i_3638 + 1)), l4248))) else (some (Sum.inr (Sum.inr rows_3637)))
def F_ref03_Rows (n : Nat) (s : Lap) (bad : List Cell) (lay : List Place) : Option Int :=
 if ((lay.length : Int) != (s.Panels.length : Int)) = true then (some (-1)) else ((loopO n (F_ref03_Rows_s1 n s bad lay) (0, 0, ([] : List Cell))).bind fun r2410 => match r2410 with | .inl o => some o | .inr rows_2408 => some rows_2408)
theorem c_ref03_Rows (n : Nat) (H : Hp) (s : Lap) (s_v2 : Value) (hs_2 : SL H 2 R_Cell s_v2 s.Faults) (s_v3 : Value) (hs_3 : SL H 2 R_Cell s_v3 s.Flaws) (s_v4 : Value) (hs_4 : SL H 1 R_Panel s_v4 s.Panels) (bad : List Cell) (bad_v0 : Value) (hbad_0 : SL H 2 R_Cell bad_v0 bad) (lay : List Place) (lay_v0 : Value) (hlay_0 : SL H 3 R_Place lay_v0 lay) (y : Int) (hF : F_ref03_Rows n s bad lay = some y) : SC Try.prog 25 [.agg [.int .i64 s.Width, .int .i64 s.Length, s_v2, s_v3, s_v4].toArray, bad_v0, lay_v0] (.int .i64 y) H := by
 rw [F_ref03_Rows] at hF
 refine SC.of (N := 75) Try.func25 rfl rfl rfl fun w => ?_
 refine JC.seq (JC.region (by rfl) ?_)
 intro hQ
 refine JL.box (cs := [.int .i64 s.Width, .int .i64 s.Length, s_v2, s_v3, s_v4]) rfl .none rfl ?_
 intro b1
 refine JL.assign .none rfl ?_
 refine JL.done hQ (JQ.go (JC.seq (JC.seq (JC.region (by rfl) ?_))))
 intro hQ
 refine JL.move .none rfl ?_
 refine JL.lenSL (R := R_Place) ul_54 hlay_0 .none rfl ?_
 refine JL.fieldAddr fo_25_4 rfl .none rfl ?_
 refine JL.loadOwn 0 az_23 rfl rfl rfl .none rfl ?_
 refine JL.lenSL (R := R_Panel) ul_23 hs_4 .none rfl ?_
 refine JL.bin rfl rfl rfl .none rfl ?_
 refine JL.done hQ (JQ.go ?_)
 rcases ite_some hF with ⟨hc2, hF⟩ | ⟨hc2, hF⟩
 ·refine JC.cond_t (b := ((lay.length : Int) != (s.Panels.length : Int))) rfl hc2 ?_
  refine JC.seq (JC.region (by rfl) ?_)
  intro hQ
  refine JL.assign .none rfl ?_
  refine JL.done hQ (JQ.go (JC.ret (JQ.ret_then ?_)))
  obtain rfl := Option.some.inj hF
  exact JQ.outS rfl (.tmp .nil) rfl
 ·refine JC.cond_f (b := ((lay.length : Int) != (s.Panels.length : Int))) rfl hc2 ?_
  refine JC.skip (JQ.go (JC.seq (JC.region (by rfl) ?_)))
  intro hQ
  refine JL.assign .none rfl ?_
  refine JL.done hQ (JQ.go (JC.seq (JC.region (by rfl) ?_)))
  intro hQ
  refine JL.assign .none rfl ?_
  refine JL.done hQ (JQ.go (JC.seq (JC.seq (JC.region (by rfl) ?_))))
  intro hQ
  refine JL.assign .none rfl ?_
  refine JL.done hQ (JQ.go (JC.newNil (e := 27) (sz := 2) ?_))
  obtain ⟨r2410, hlr2410, hKr2410⟩ := bind_some hF
  refine JC.join (fun (rows_2408 : Int) H2409 f bs gs => f 8 = .int .i64 rows_2408 ∧ bs = [] ∧ gs = [] ∧ HSub H H2409 ∧ Sum.inr rows_2408 = r2410) ?_ ?_
  ·skip
   refine JC.block (JC.loop hlr2410 (fun (x : Int × Int × List Cell) H3640 f bs gs => match x with | (rows_3637, i_3638, out_3639) => ∃ (vout_3639 : Value) (xsout_3639 : List Value), f 1 = bad_v0 ∧ f 2 = lay_v0 ∧ f 3 = .pointer (some ⟨b1, 0, none⟩) ∧ f 7 = vout_3639 ∧ f 8 = .int .i64 rows_3637 ∧ f 9 = .int .i64 i_3638 ∧ bs = [(b1, .cells [.int .i64 s.Width, .int .i64 s.Length, s_v2, s_v3, s_v4].toArray 25)] ∧ gs = [⟨vout_3639, 27, 2, out_3639.length, xsout_3639⟩] ∧ CH H3640 2 R_Cell xsout_3639 out_3639 ∧ HSub H H3640) ⟨(.slice none 0 0), [], rfl, rfl, rfl, rfl, rfl, rfl, rfl, rfl, CH.nil, (HSub.refl _)⟩ ?_)
   rintro ⟨rows_3637, i_3638, out_3639⟩ x3642 H3640 f bs gs ⟨vout_3639, xsout_3639, hf1, hf2, hf3, hf7, hf8, hf9, rfl, rfl, hout_3639, hs3640⟩ hF hr3641
   rw [F_ref03_Rows_s1] at hF
   refine (JC.norm (i := 1) hf1 (JC.norm (i := 2) hf2 (JC.norm (i := 3) hf3 (JC.norm (i := 7) hf7 (JC.norm (i := 8) hf8 (JC.norm (i := 9) hf9 ?_))))))
   refine JC.seq (JC.seq (JC.region (by rfl) ?_))
   intro hQ
   refine JL.move .none rfl ?_
   refine JL.move .none rfl ?_
   refine JL.lenSL (R := R_Place) ul_54 (SL.mono R_Place_mono hs3640 hlay_0) .none rfl ?_
   refine JL.bin rfl rfl rfl .none rfl ?_
   refine JL.done hQ (JQ.go ?_)
   rcases ite_some hF with ⟨hc3643, hF⟩ | ⟨hc3643, hF⟩
   ·refine JC.cond_t (b := decide (i_3638 < (lay.length : Int))) rfl hc3643 ?_
    refine JC.skip (JQ.go (JC.seq (JC.block (JC.seq ?_))))
    obtain ⟨y3655, hy3655, hF⟩ := bind_some hF
    obtain ⟨y3660, hy3660, hF⟩ := bind_some hF
    obtain ⟨y3665, hy3665, hF⟩ := bind_some hF
    refine JC.mixed 11 11 #[false, false, false, false, false, false, false, false, false, false, false] [(b1, .cells [.int .i64 s.Width, .int .i64 s.Length, s_v2, s_v3, s_v4].toArray 25)] (by rfl) mo_ (by kernel_rfl) (by kernel_rfl) ?_
    intro hQ hE
    refine JA.take 0 (listed' := #[true, false, false, false, false, false, false, false, false, false, false]) hQ rfl (by kernel_rfl) (by kernel_rfl) (by kernel_rfl) (by kernel_rfl) (by kernel_rfl) hE (HSub.refl _) (.cons_cons _ (List.nil_sublist _)) ?_
    refine JL.fieldAddr fo_25_4 rfl .none rfl ?_
    refine JA.cont ?_
    refine JA.take 1 (listed' := #[true, true, false, false, false, false, false, false, false, false, false]) hQ rfl (by kernel_rfl) (by kernel_rfl) (by kernel_rfl) (by kernel_rfl) (by kernel_rfl) hE (HSub.refl _) (.cons_cons _ (List.nil_sublist _)) ?_
    refine JL.loadOwn 0 az_23 rfl rfl rfl .none rfl ?_
    refine JA.cont ?_
    refine JA.take 2 (listed' := #[true, true, true, false, false, false, false, false, false, false, false]) hQ rfl (by kernel_rfl) (by kernel_rfl) (by kernel_rfl) (by kernel_rfl) (by kernel_rfl) hE (HSub.refl _) (.cons_cons _ (List.nil_sublist _)) ?_
    refine JL.move .none rfl ?_
    refine JA.cont ?_
    refine JA.take 3 (listed' := #[true, true, true, true, false, false, false, false, false, false, false]) hQ rfl (by kernel_rfl) (by kernel_rfl) (by kernel_rfl) (by kernel_rfl) (by kernel_rfl) hE (HSub.refl _) (.cons_cons _ (List.nil_sublist _)) ?_
    refine JL.indexSL (R := R_Panel) sl_23 (SL.mono R_Panel_mono hs3640 hs_4) rfl hy3655 .none rfl ?_
    rintro b3688 o3689 cs3690 hc3691 - ⟨y3655_v0, rfl, hy3655_0⟩
    refine JA.cont ?_
    refine JA.take 4 (listed' := #[true, true, true, true, true, false, false, false, false, false, false]) hQ rfl (by kernel_rfl) (by kernel_rfl) (by kernel_rfl) (by kernel_rfl) (by kernel_rfl) hE (HSub.refl _) (.cons_cons _ (List.nil_sublist _)) ?_
    refine JL.loadH 0 az_30 rfl hc3691 rfl .none rfl ?_
    refine JA.cont ?_
    refine JA.take 5 (listed' := #[true, true, true, true, true, true, false, false, false, false, false]) hQ rfl (by kernel_rfl) (by kernel_rfl) (by kernel_rfl) (by kernel_rfl) (by kernel_rfl) hE (HSub.refl _) (.cons_cons _ (List.nil_sublist _)) ?_
    refine JL.move .none rfl ?_
    refine JA.cont ?_
    refine JA.take 6 (listed' := #[true, true, true, true, true, true, true, false, false, false, false]) hQ rfl (by kernel_rfl) (by kernel_rfl) (by kernel_rfl) (by kernel_rfl) (by kernel_rfl) hE (HSub.refl _) (.cons_cons _ (List.nil_sublist _)) ?_
    refine JL.move .none rfl ?_
    refine JA.cont ?_
    refine JA.take 7 (listed' := #[true, true, true, true, true, true, true, true, false, false, false]) hQ rfl (by kernel_rfl) (by kernel_rfl) (by kernel_rfl) (by kernel_rfl) (by kernel_rfl) hE (HSub.refl _) (.cons_cons _ (List.nil_sublist _)) ?_
    refine JL.indexSL (R := R_Place) sl_54 (SL.mono R_Place_mono hs3640 hlay_0) rfl hy3660 .none rfl ?_
    rintro b3696 o3697 cs3698 hc3699 - rfl
    refine JA.cont ?_
    refine JA.take 8 (listed' := #[true, true, true, true, true, true, true, true, true, false, false]) hQ rfl (by kernel_rfl) (by kernel_rfl) (by kernel_rfl) (by kernel_rfl) (by kernel_rfl) hE (HSub.refl _) (.cons_cons _ (List.nil_sublist _)) ?_
    refine JL.loadH 0 az_62 rfl hc3699 rfl .none rfl ?_
    refine JA.cont ?_
    refine JA.many [9] (by kernel_rfl) (by simp) (all_one ⟨_, #[true, true, true, true, true, true, true, true, true, true, false], rfl, (by kernel_rfl), ?_⟩)
    refine JL.callH (c_ref03_CellsOf n H3640 y3655 y3655_v0 hy3655_0 y3660 y3665 hy3665) rfl en_50 .none rfl ?_
    intro H3700 y3665a_v0 hs3700 hy3665a_0
    refine JA.after hE hs3700 (.cons_cons _ (List.nil_sublist _)) ?_
    refine JA.take 10 (listed' := #[true, true, true, true, true, true, true, true, true, true, true]) hQ rfl (by kernel_rfl) (by kernel_rfl) (by kernel_rfl) (by kernel_rfl) (by kernel_rfl) hE hs3700 (.cons_cons _ (List.nil_sublist _)) ?_
    refine JL.assign .none rfl ?_
    refine JA.cont ?_
    refine JA.done hQ (by kernel_rfl) ?_
    refine JQ.go (JC.fresh (fun f => f 1 = bad_v0 ∧ f 2 = lay_v0 ∧ f 3 = .pointer (some ⟨b1, 0, none⟩) ∧ f 7 = vout_3639 ∧ f 8 = .int .i64 rows_3637 ∧ f 9 = .int .i64 i_3638 ∧ f 10 = y3665a_v0) ⟨rfl, rfl, rfl, rfl, rfl, rfl, rfl⟩ ?_)
    rintro f ⟨hf1, hf2, hf3, hf7, hf8, hf9, hf10⟩
    refine (JC.norm (i := 1) hf1 (JC.norm (i := 2) hf2 (JC.norm (i := 3) hf3 (JC.norm (i := 7) hf7 (JC.norm (i := 8) hf8 (JC.norm (i := 9) hf9 (JC.norm (i := 10) hf10 ?_)))))))
    refine JC.seq (JC.seq (JC.region (by rfl) ?_))
    intro hQ
    refine JL.assign .none rfl ?_
    refine JL.done hQ (JQ.go ?_)
    obtain ⟨r3975, hlr3975, hKr3975⟩ := bind_some hF
    refine JC.join (fun (rows_3973 : Int) H3974 f bs gs => f 1 = bad_v0 ∧ f 2 = lay_v0 ∧ f 3 = .pointer (some ⟨b1, 0, none⟩) ∧ f 7 = vout_3639 ∧ f 8 = .int .i64 rows_3973 ∧ f 9 = .int .i64 i_3638 ∧ f 10 = y3665a_v0 ∧ bs = [(b1, .cells [.int .i64 s.Width, .int .i64 s.Length, s_v2, s_v3, s_v4].toArray 25)] ∧ gs = [⟨vout_3639, 27, 2, out_3639.length, xsout_3639⟩] ∧ HSub H3700 H3974 ∧ Sum.inr rows_3973 = r3975) ?_ ?_
    ·skip
     refine JC.block (JC.loop hlr3975 (fun (x : Int × Int) H4158 f bs gs => match x with | (rows_4156, k_4157) => f 1 = bad_v0 ∧ f 2 = lay_v0 ∧ f 3 = .pointer (some ⟨b1, 0, none⟩) ∧ f 7 = vout_3639 ∧ f 8 = .int .i64 rows_4156 ∧ f 9 = .int .i64 i_3638 ∧ f 10 = y3665a_v0 ∧ f 11 = .int .i64 k_4157 ∧ bs = [(b1, .cells [.int .i64 s.Width, .int .i64 s.Length, s_v2, s_v3, s_v4].toArray 25)] ∧ gs = [⟨vout_3639, 27, 2, out_3639.length, xsout_3639⟩] ∧ HSub H3700 H4158) ⟨rfl, rfl, rfl, rfl, rfl, rfl, rfl, rfl, rfl, rfl, (HSub.refl _)⟩ ?_)
     rintro ⟨rows_4156, k_4157⟩ x4160 H4158 f bs gs ⟨hf1, hf2, hf3, hf7, hf8, hf9, hf10, hf11, rfl, rfl, hs4158⟩ hF hr4159
     rw [F_ref03_Rows_s2] at hF
     refine (JC.norm (i := 1) hf1 (JC.norm (i := 2) hf2 (JC.norm (i := 3) hf3 (JC.norm (i := 7) hf7 (JC.norm (i := 8) hf8 (JC.norm (i := 9) hf9 (JC.norm (i := 10) hf10 (JC.norm (i := 11) hf11 ?_))))))))
     refine JC.seq (JC.seq (JC.region (by rfl) ?_))
     intro hQ
     refine JL.move .none rfl ?_
     refine JL.move .none rfl ?_
     refine JL.lenSL (R := R_Cell) ul_22 (SL.mono R_Cell_mono hs4158 hy3665a_0) .none rfl ?_
     refine JL.bin rfl rfl rfl .none rfl ?_
     refine JL.done hQ (JQ.go ?_)
     rcases ite_some hF with ⟨hc4161, hF⟩ | ⟨hc4161, hF⟩
     ·refine JC.cond_t (b := decide (k_4157 < (y3665.length : Int))) rfl hc4161 ?_
      refine JC.skip (JQ.go (JC.seq (JC.block (JC.seq (JC.seq (JC.draw (by rfl) mo_ (by kernel_rfl) ?_))))))
      intro hQ
      refine JL.loadOwn 0 az_25 rfl rfl rfl .none rfl ?_
      refine JL.move .none rfl ?_
      refine JL.move .none rfl ?_
      obtain ⟨y4202, hy4202, hF⟩ := bind_some hF
      refine JL.indexSL (R := R_Cell) sl_22 (SL.mono R_Cell_mono hs4158 hy3665a_0) rfl hy4202 .none rfl ?_
      rintro b4203 o4204 cs4205 hc4206 - rfl
      refine JL.loadH 0 az_27 rfl hc4206 rfl .none rfl ?_
      obtain ⟨y4207, hy4207, hF⟩ := bind_some hF
      refine JL.callS (c_ref03_IsCell n H4158 s s_v2 (SL.mono R_Cell_mono (HSub.trans hs3640 (HSub.trans hs3700 hs4158)) hs_2) s_v3 (SL.mono R_Cell_mono (HSub.trans hs3640 (HSub.trans hs3700 hs4158)) hs_3) s_v4 (SL.mono R_Panel_mono (HSub.trans hs3640 (HSub.trans hs3700 hs4158)) hs_4) y4202 y4207 hy4207) rfl en_52 .none rfl ?_
      refine JL.not rfl .none rfl ?_
      refine JL.move .none rfl ?_
      obtain ⟨p4214, hp4214, hF⟩ := bind_some hF
      refine JL.cut 7 (fun f => f 1 = bad_v0 ∧ f 2 = lay_v0 ∧ f 3 = .pointer (some ⟨b1, 0, none⟩) ∧ f 7 = vout_3639 ∧ f 8 = .int .i64 rows_4156 ∧ f 9 = .int .i64 i_3638 ∧ f 10 = y3665a_v0 ∧ f 11 = .int .i64 k_4157 ∧ f 54 = .bool p4214) ?_ ?_
      ·intro hJ4215
       rcases ite_some hp4214 with ⟨hc4216, hF⟩ | ⟨hc4216, hF⟩
       ·skip
        refine JL.skip (.bool rfl rfl rfl hc4216) rfl ?_
        refine JL.skip (.bool rfl rfl rfl hc4216) rfl ?_
        refine JL.skip (.bool rfl rfl rfl hc4216) rfl ?_
        refine JL.skip (.bool rfl rfl rfl hc4216) rfl ?_
        refine JL.skip (.bool rfl rfl rfl hc4216) rfl ?_
        refine JL.skip (.bool rfl rfl rfl hc4216) rfl ?_
        refine JL.pick_t (b := (!y4207)) rfl hc4216 .none rfl ?_
        obtain rfl := Option.some.inj hF
        exact hJ4215 _ ⟨rfl, rfl, rfl, rfl, rfl, rfl, rfl, rfl, rfl⟩
       ·skip
        refine JL.move (.some rfl rfl rfl hc4216) rfl ?_
        refine JL.move (.some rfl rfl rfl hc4216) rfl ?_
        refine JL.move (.some rfl rfl rfl hc4216) rfl ?_
        obtain ⟨y4217, hy4217, hF⟩ := bind_some hF
        refine JL.indexSL (R := R_Cell) sl_22 (SL.mono R_Cell_mono hs4158 hy3665a_0) rfl hy4217 (.some rfl rfl rfl hc4216) rfl ?_
        rintro b4218 o4219 cs4220 hc4221 - rfl
        refine JL.loadH 0 az_27 rfl hc4221 rfl (.some rfl rfl rfl hc4216) rfl ?_
        obtain ⟨y4222, hy4222, hF⟩ := bind_some hF
        refine JL.callS (c_ref03_In n H4158 bad bad_v0 (SL.mono R_Cell_mono (HSub.trans hs3640 (HSub.trans hs3700 hs4158)) hbad_0) y4217 y4222 hy4222) rfl en_53 (.some rfl rfl rfl hc4216) rfl ?_
        refine JL.pick_f (b := (!y4207)) rfl hc4216 .none rfl ?_
        obtain rfl := Option.some.inj hF
        exact hJ4215 _ ⟨rfl, rfl, rfl, rfl, rfl, rfl, rfl, rfl, rfl⟩
      ·rintro f ⟨hf1, hf2, hf3, hf7, hf8, hf9, hf10, hf11, hf54⟩
       refine (JL.norm (i := 1) hf1 (JL.norm (i := 2) hf2 (JL.norm (i := 3) hf3 (JL.norm (i := 7) hf7 (JL.norm (i := 8) hf8 (JL.norm (i := 9) hf9 (JL.norm (i := 10) hf10 (JL.norm (i := 11) hf11 (JL.norm (i := 54) hf54 ?_)))))))))
       refine JL.move .none rfl ?_
       obtain ⟨p4231, hp4231, hF⟩ := bind_some hF
       refine JL.cut 7 (fun f => f 1 = bad_v0 ∧ f 2 = lay_v0 ∧ f 3 = .pointer (some ⟨b1, 0, none⟩) ∧ f 7 = vout_3639 ∧ f 8 = .int .i64 rows_4156 ∧ f 9 = .int .i64 i_3638 ∧ f 10 = y3665a_v0 ∧ f 11 = .int .i64 k_4157 ∧ f 62 = .bool p4231) ?_ ?_
       ·intro hJ4232
        rcases ite_some hp4231 with ⟨hc4233, hF⟩ | ⟨hc4233, hF⟩
        ·skip
         refine JL.skip (.bool rfl rfl rfl hc4233) rfl ?_
         refine JL.skip (.bool rfl rfl rfl hc4233) rfl ?_
         refine JL.skip (.bool rfl rfl rfl hc4233) rfl ?_
         refine JL.skip (.bool rfl rfl rfl hc4233) rfl ?_
         refine JL.skip (.bool rfl rfl rfl hc4233) rfl ?_
         refine JL.skip (.bool rfl rfl rfl hc4233) rfl ?_
         refine JL.pick_t (b := p4214) rfl hc4233 .none rfl ?_
         obtain rfl := Option.some.inj hF
         exact hJ4232 _ ⟨rfl, rfl, rfl, rfl, rfl, rfl, rfl, rfl, rfl⟩
        ·skip
         refine JL.move (.some rfl rfl rfl hc4233) rfl ?_
         refine JL.move (.some rfl rfl rfl hc4233) rfl ?_
         refine JL.move (.some rfl rfl rfl hc4233) rfl ?_
         obtain ⟨y4234, hy4234, hF⟩ := bind_some hF
         refine JL.indexSL (R := R_Cell) sl_22 (SL.mono R_Cell_mono hs4158 hy3665a_0) rfl hy4234 (.some rfl rfl rfl hc4233) rfl ?_
         rintro b4235 o4236 cs4237 hc4238 - rfl
         refine JL.loadH 0 az_27 rfl hc4238 rfl (.some rfl rfl rfl hc4233) rfl ?_
         obtain ⟨y4241, hy4241, hF⟩ := bind_some hF
         refine JL.callLG1 (R := R_Cell) 0 rfl R_Cell_mono (CH.mono R_Cell_mono (HSub.trans hs3700 hs4158) hout_3639) rfl (fun H4239 hs4239 hg4240 => c_ref03_In n H4239 out_3639 vout_3639 hg4240 y4234 y4241 hy4241) rfl en_53 (.some rfl rfl rfl hc4233) rfl ?_
         refine JL.pick_f (b := p4214) rfl hc4233 .none rfl ?_
         obtain rfl := Option.some.inj hF
         exact hJ4232 _ ⟨rfl, rfl, rfl, rfl, rfl, rfl, rfl, rfl, rfl⟩
       ·rintro f ⟨hf1, hf2, hf3, hf7, hf8, hf9, hf10, hf11, hf62⟩
        refine (JL.norm (i := 1) hf1 (JL.norm (i := 2) hf2 (JL.norm (i := 3) hf3 (JL.norm (i := 7) hf7 (JL.norm (i := 8) hf8 (JL.norm (i := 9) hf9 (JL.norm (i := 10) hf10 (JL.norm (i := 11) hf11 (JL.norm (i := 62) hf62 ?_)))))))))
        refine JL.doneQ hQ ?_
        refine JQ.go ?_
        rcases ite_some hF with ⟨hc4242, hF⟩ | ⟨hc4242, hF⟩
        ·refine JC.cond_t (b := p4231) rfl hc4242 ?_
         refine JC.seq (JC.region (by rfl) ?_)
         intro hQ
         refine JL.assign .none rfl ?_
         refine JL.done hQ (JQ.go (JC.ret (JQ.ret_then (JQ.ret_block (JQ.ret_then (JQ.ret_then (JQ.ret_block (JQ.ret_join (JQ.ret_then (JQ.ret_block (JQ.ret_then (JQ.ret_then (JQ.ret_block (JQ.ret_join (JQ.ret_then ?_)))))))))))))))
         obtain rfl := Option.some.inj hF
         have ehr4159 := hr4159 _ rfl
         subst ehr4159
         have hF := hKr3975
         try dsimp only at hF
         obtain rfl := Option.some.inj hF
         have ehr3641 := hr3641 _ rfl
         subst ehr3641
         have hF := hKr2410
         try dsimp only at hF
         obtain rfl := Option.some.inj hF
         exact JQ.outS rfl (.tmp .nil) rfl
        ·refine JC.cond_f (b := p4231) rfl hc4242 ?_
         refine JC.skip (JQ.go (JC.region (by rfl) ?_))
         intro hQ
         refine JL.move .none rfl ?_
         refine JL.move .none rfl ?_
         refine JL.move .none rfl ?_
         obtain ⟨y4243, hy4243, hF⟩ := bind_some hF
         refine JL.indexSL (R := R_Cell) sl_22 (SL.mono R_Cell_mono hs4158 hy3665a_0) rfl hy4243 .none rfl ?_
         rintro b4244 o4245 cs4246 hc4247 - rfl
         refine JL.fieldAddr fo_27_0 rfl .none rfl ?_
         refine JL.loadH 0 az_3 rfl hc4247 rfl .none rfl ?_
         refine JL.bin rfl rfl rfl .none rfl ?_
         refine JL.max rfl rfl .none rfl ?_
         refine JL.assign .none rfl ?_
         refine JL.done hQ (JQ.normal_block (JQ.go (JC.fresh (fun f => f 1 = bad_v0 ∧ f 2 = lay_v0 ∧ f 3 = .pointer (some ⟨b1, 0, none⟩) ∧ f 7 = vout_3639 ∧ f 8 = .int .i64 (max rows_4156 (w64 (y4243.Row + 1))) ∧ f 9 = .int .i64 i_3638 ∧ f 10 = y3665a_v0 ∧ f 11 = .int .i64 k_4157) ⟨rfl, rfl, rfl, rfl, rfl, rfl, rfl, rfl⟩ ?_)))
         rintro f ⟨hf1, hf2, hf3, hf7, hf8, hf9, hf10, hf11⟩
         refine (JC.norm (i := 1) hf1 (JC.norm (i := 2) hf2 (JC.norm (i := 3) hf3 (JC.norm (i := 7) hf7 (JC.norm (i := 8) hf8 (JC.norm (i := 9) hf9 (JC.norm (i := 10) hf10 (JC.norm (i := 11) hf11 ?_))))))))
         refine JC.region (by rfl) ?_
         intro hQ
         refine JL.move .none rfl ?_
         refine JL.bin rfl rfl rfl .none rfl ?_
         refine JL.assign .none rfl ?_
         refine JL.done hQ ?_
         obtain rfl := Option.some.inj hF
         exact JQ.next rfl ⟨rfl, rfl, rfl, rfl, rfl, rfl, rfl, rfl, rfl, rfl, hs4158⟩
     ·refine JC.cond_f (b := decide (k_4157 < (y3665.length : Int))) rfl hc4161 ?_
      refine JC.exit (JQ.exit_then (JQ.exit_then (JQ.exit_block ?_)))
      obtain rfl := Option.some.inj hF
      have ehr4159 := hr4159 _ rfl
      subst ehr4159
      exact JQ.join rows_4156 ⟨rfl, rfl, rfl, rfl, rfl, rfl, rfl, rfl, rfl, hs4158, rfl⟩
    ·rintro rows_3973 H3974 f bs gs ⟨hf1, hf2, hf3, hf7, hf8, hf9, hf10, rfl, rfl, hs3974, rfl⟩
     have hF := hKr3975
     try dsimp only at hF
     refine (JQ.norm (i := 1) hf1 (JQ.norm (i := 2) hf2 (JQ.norm (i := 3) hf3 (JQ.norm (i := 7) hf7 (JQ.norm (i := 8) hf8 (JQ.norm (i := 9) hf9 (JQ.norm (i := 10) hf10 ?_)))))))
     refine JQ.go (JC.region (by rfl) ?_)
     intro hQ
     refine JL.move .none rfl ?_
     refine JL.move .none rfl ?_
     obtain ⟨l4248, hl4248, hF⟩ := bind_some hF
     refine JL.appD (R := R_Cell) 0 (l := out_3639) (m := y3665) ap_22 rfl ⟨rfl, rfl⟩ rfl (CH.mono R_Cell_mono (HSub.trans hs3700 hs3974) hout_3639) rfl (SL.mono R_Cell_mono hs3974 hy3665a_0) (R_Cell_one _) hl4248 .none rfl ?_
     intro v4249 xs4250 hch4251
     refine JL.assign .none rfl ?_
     refine JL.done hQ (JQ.normal_block (JQ.go (JC.region (by rfl) ?_)))
     intro hQ
     refine JL.move .none rfl ?_
     refine JL.bin rfl rfl rfl .none rfl ?_
     refine JL.assign .none rfl ?_
     refine JL.done hQ ?_
     obtain rfl := Option.some.inj hF
     exact JQ.next rfl ⟨v4249, xs4250, rfl, rfl, rfl, rfl, rfl, rfl, rfl, rfl, hch4251, (HSub.trans hs3640 (HSub.trans hs3700 hs3974))⟩
   ·refine JC.cond_f (b := decide (i_3638 < (lay.length : Int))) rfl hc3643 ?_
    refine JC.exit (JQ.exit_then (JQ.exit_then (JQ.exit_block ?_)))
    obtain rfl := Option.some.inj hF
    have ehr3641 := hr3641 _ rfl
    subst ehr3641
    refine JQ.mask [false] [false] ?_
    exact JQ.join rows_3637 ⟨rfl, rfl, rfl, hs3640, rfl⟩
  ·rintro rows_2408 H2409 f bs gs ⟨hf8, rfl, rfl, hs2409, rfl⟩
   have hF := hKr2410
   try dsimp only at hF
   refine (JQ.norm (i := 8) hf8 ?_)
   refine JQ.go (JC.seq (JC.region (by rfl) ?_))
   intro hQ
   refine JL.move .none rfl ?_
   refine JL.assign .none rfl ?_
   refine JL.done hQ (JQ.go (JC.ret ?_))
   obtain rfl := Option.some.inj hF
   exact JQ.outS rfl (.tmp .nil) rfl
-- 21 ferrule/ferrulelaw03.rows
def F_law03_rows_s1 (n : Nat) (lay : List Place) : Int → Option (Int ⊕ (Int ⊕ Unit))
 | i_56 => if decide (i_56 < (lay.length : Int)) = true then ((geti lay i_56).bind fun y61 => (F_ref03_IsPlace n y61).bind fun y66 => if (!y66) = true then (some (Sum.inr (Sum.inl (-1)))) else (some (Sum.inl (w64 (i_56 + 1))))) else (some (Sum.inr (Sum.inr ())))
def F_law03_rows (n : Nat) (s : Lap) (lay : List Place) : Option Int :=
 (loopO n (F_law03_rows_s1 n lay) 0).bind fun r35 => match r35 with | .inl o => some o | .inr _ => (lim (([] : List Cell) ++ s.Faults)).bind fun l70 => (lim (l70 ++ s.Flaws)).bind fun l74 => (F_ref03_Rows n s l74 lay).bind fun y80 => some y80
theorem c_law03_rows (n : Nat) (H : Hp) (s : Lap) (s_v2 : Value) (hs_2 : SL H 2 R_Cell s_v2 s.Faults) (s_v3 : Value) (hs_3 : SL H 2 R_Cell s_v3 s.Flaws) (s_v4 : Value) (hs_4 : SL H 1 R_Panel s_v4 s.Panels) (lay : List Place) (lay_v0 : Value) (hlay_0 : SL H 3 R_Place lay_v0 lay) (y : Int) (hF : F_law03_rows n s lay = some y) : SC Try.prog 21 [.agg [.int .i64 s.Width, .int .i64 s.Length, s_v2, s_v3, s_v4].toArray, lay_v0] (.int .i64 y) H := by
 rw [F_law03_rows] at hF
 refine SC.of (N := 28) Try.func21 rfl rfl rfl fun w => ?_
 refine JC.seq (JC.region (by rfl) ?_)
 intro hQ
 refine JL.box (cs := [.int .i64 s.Width, .int .i64 s.Length, s_v2, s_v3, s_v4]) rfl .none rfl ?_
 intro b1
 refine JL.assign .none rfl ?_
 refine JL.done hQ (JQ.go (JC.seq (JC.seq (JC.region (by rfl) ?_))))
 intro hQ
 refine JL.assign .none rfl ?_
 refine JL.done hQ (JQ.go ?_)
 obtain ⟨r35, hlr35, hKr35⟩ := bind_some hF
 refine JC.join (fun (_ : Unit) H34 f bs gs => f 1 = lay_v0 ∧ f 2 = .pointer (some ⟨b1, 0, none⟩) ∧ bs = [(b1, .cells [.int .i64 s.Width, .int .i64 s.Length, s_v2, s_v3, s_v4].toArray 25)] ∧ gs = [] ∧ HSub H H34 ∧ Sum.inr () = r35) ?_ ?_
 ·skip
  refine JC.block (JC.loop hlr35 (fun (i_56 : Int) H57 f bs gs => f 1 = lay_v0 ∧ f 2 = .pointer (some ⟨b1, 0, none⟩) ∧ f 5 = .int .i64 i_56 ∧ bs = [(b1, .cells [.int .i64 s.Width, .int .i64 s.Length, s_v2, s_v3, s_v4].toArray 25)] ∧ gs = [] ∧ HSub H H57) ⟨rfl, rfl, rfl, rfl, rfl, (HSub.refl _)⟩ ?_)
  rintro i_56 x59 H57 f bs gs ⟨hf1, hf2, hf5, rfl, rfl, hs57⟩ hF hr58
  rw [F_law03_rows_s1] at hF
  refine (JC.norm (i := 1) hf1 (JC.norm (i := 2) hf2 (JC.norm (i := 5) hf5 ?_)))
  refine JC.seq (JC.seq (JC.region (by rfl) ?_))
  intro hQ
  refine JL.move .none rfl ?_
  refine JL.move .none rfl ?_
  refine JL.lenSL (R := R_Place) ul_54 (SL.mono R_Place_mono hs57 hlay_0) .none rfl ?_
  refine JL.bin rfl rfl rfl .none rfl ?_
  refine JL.done hQ (JQ.go ?_)
  rcases ite_some hF with ⟨hc60, hF⟩ | ⟨hc60, hF⟩
  ·refine JC.cond_t (b := decide (i_56 < (lay.length : Int))) rfl hc60 ?_
   refine JC.skip (JQ.go (JC.seq (JC.block (JC.seq (JC.region (by rfl) ?_)))))
   intro hQ
   refine JL.move .none rfl ?_
   refine JL.move .none rfl ?_
   obtain ⟨y61, hy61, hF⟩ := bind_some hF
   refine JL.indexSL (R := R_Place) sl_54 (SL.mono R_Place_mono hs57 hlay_0) rfl hy61 .none rfl ?_
   rintro b62 o63 cs64 hc65 - rfl
   refine JL.loadH 0 az_62 rfl hc65 rfl .none rfl ?_
   obtain ⟨y66, hy66, hF⟩ := bind_some hF
   refine JL.callS (c_ref03_IsPlace n H57 y61 y66 hy66) rfl en_24 .none rfl ?_
   refine JL.not rfl .none rfl ?_
   refine JL.done hQ (JQ.go ?_)
   rcases ite_some hF with ⟨hc67, hF⟩ | ⟨hc67, hF⟩
   ·refine JC.cond_t (b := (!y66)) rfl hc67 ?_
    refine JC.seq (JC.region (by rfl) ?_)
    intro hQ
    refine JL.assign .none rfl ?_
    refine JL.done hQ (JQ.go (JC.fresh (fun f => f 4 = .int .i64 (-1)) rfl ?_))
    rintro f hf4
    refine (JC.norm (i := 4) hf4 ?_)
    refine JC.ret (JQ.ret_block (JQ.ret_then (JQ.ret_then (JQ.ret_block (JQ.ret_join (JQ.ret_then ?_))))))
    obtain rfl := Option.some.inj hF
    have ehr58 := hr58 _ rfl
    subst ehr58
    have hF := hKr35
    try dsimp only at hF
    obtain rfl := Option.some.inj hF
    exact JQ.outS rfl (.tmp .nil) rfl
   ·refine JC.cond_f (b := (!y66)) rfl hc67 ?_
    refine JC.skip (JQ.normal_block (JQ.go (JC.region (by rfl) ?_)))
    intro hQ
    refine JL.move .none rfl ?_
    refine JL.bin rfl rfl rfl .none rfl ?_
    refine JL.assign .none rfl ?_
    refine JL.done hQ ?_
    obtain rfl := Option.some.inj hF
    exact JQ.next rfl ⟨rfl, rfl, rfl, rfl, rfl, hs57⟩
  ·refine JC.cond_f (b := decide (i_56 < (lay.length : Int))) rfl hc60 ?_
   refine JC.exit (JQ.exit_then (JQ.exit_then (JQ.exit_block ?_)))
   obtain rfl := Option.some.inj hF
   have ehr58 := hr58 _ rfl
   subst ehr58
   exact JQ.join () ⟨rfl, rfl, rfl, rfl, hs57, rfl⟩
 ·rintro _ H34 f bs gs ⟨hf1, hf2, rfl, rfl, hs34, rfl⟩
  have hF := hKr35
  try dsimp only at hF
  refine (JQ.norm (i := 1) hf1 (JQ.norm (i := 2) hf2 ?_))
  refine JQ.go (JC.seq ?_)
  obtain ⟨l70, hl70, hF⟩ := bind_some hF
  obtain ⟨l74, hl74, hF⟩ := bind_some hF
  obtain ⟨y80, hy80, hF⟩ := bind_some hF
  refine JC.mixed 11 11 #[false, false, false, false, false, false, false, false, false, false, false] [(b1, .cells [.int .i64 s.Width, .int .i64 s.Length, s_v2, s_v3, s_v4].toArray 25)] (by rfl) mo_ (by kernel_rfl) (by kernel_rfl) ?_
  intro hQ hE
  refine JA.take 0 (listed' := #[true, false, false, false, false, false, false, false, false, false, false]) hQ rfl (by kernel_rfl) (by kernel_rfl) (by kernel_rfl) (by kernel_rfl) (by kernel_rfl) hE (HSub.refl _) (.cons_cons _ (List.nil_sublist _)) ?_
  refine JL.loadOwn 0 az_25 rfl rfl rfl .none rfl ?_
  refine JA.cont ?_
  refine JA.take 2 (listed' := #[true, false, true, false, false, false, false, false, false, false, false]) hQ rfl (by kernel_rfl) (by kernel_rfl) (by kernel_rfl) (by kernel_rfl) (by kernel_rfl) hE (HSub.refl _) (.cons_cons _ (List.nil_sublist _)) ?_
  refine JL.fieldAddr fo_25_2 rfl .none rfl ?_
  refine JA.cont ?_
  refine JA.take 3 (listed' := #[true, false, true, true, false, false, false, false, false, false, false]) hQ rfl (by kernel_rfl) (by kernel_rfl) (by kernel_rfl) (by kernel_rfl) (by kernel_rfl) hE (HSub.refl _) (.cons_cons _ (List.nil_sublist _)) ?_
  refine JL.loadOwn 0 az_22 rfl rfl rfl .none rfl ?_
  refine JA.cont ?_
  refine JA.take 5 (listed' := #[true, false, true, true, false, true, false, false, false, false, false]) hQ rfl (by kernel_rfl) (by kernel_rfl) (by kernel_rfl) (by kernel_rfl) (by kernel_rfl) hE (HSub.refl _) (.cons_cons _ (List.nil_sublist _)) ?_
  refine JL.fieldAddr fo_25_3 rfl .none rfl ?_
  refine JA.cont ?_
  refine JA.take 6 (listed' := #[true, false, true, true, false, true, true, false, false, false, false]) hQ rfl (by kernel_rfl) (by kernel_rfl) (by kernel_rfl) (by kernel_rfl) (by kernel_rfl) hE (HSub.refl _) (.cons_cons _ (List.nil_sublist _)) ?_
  refine JL.loadOwn 0 az_22 rfl rfl rfl .none rfl ?_
  refine JA.cont ?_
  refine JA.take 8 (listed' := #[true, false, true, true, false, true, true, false, true, false, false]) hQ rfl (by kernel_rfl) (by kernel_rfl) (by kernel_rfl) (by kernel_rfl) (by kernel_rfl) hE (HSub.refl _) (.cons_cons _ (List.nil_sublist _)) ?_
  refine JL.move .none rfl ?_
  refine JA.cont ?_
  refine JA.many [1] (by kernel_rfl) (by simp) (all_one ⟨_, #[true, true, true, true, false, true, true, false, true, false, false], rfl, (by kernel_rfl), ?_⟩)
  refine JL.emptySlice ap_22 .none rfl ?_
  intro v91
  refine JA.after hE (HSub.refl _) (.cons_cons _ (List.nil_sublist _)) ?_
  refine JA.many [4] (by kernel_rfl) (by simp) (all_one ⟨_, #[true, true, true, true, true, true, true, false, true, false, false], rfl, (by kernel_rfl), ?_⟩)
  refine JL.appD (R := R_Cell) 0 (l := ([] : List Cell)) (m := s.Faults) ap_22 rfl ⟨rfl, rfl⟩ rfl CH.nil rfl (SL.mono R_Cell_mono hs34 hs_2) (R_Cell_one _) hl70 .none rfl ?_
  intro v93 xs94 hch95
  refine JA.after hE (HSub.refl _) (.cons_cons _ (List.nil_sublist _)) ?_
  refine JA.many [7] (by kernel_rfl) (by simp) (all_one ⟨_, #[true, true, true, true, true, true, true, true, true, false, false], rfl, (by kernel_rfl), ?_⟩)
  refine JL.appD (R := R_Cell) 0 (l := l70) (m := s.Flaws) ap_22 rfl ⟨rfl, rfl⟩ rfl hch95 rfl (SL.mono R_Cell_mono hs34 hs_3) (R_Cell_one _) hl74 .none rfl ?_
  intro v96 xs97 hch98
  refine JA.after hE (HSub.refl _) (.cons_cons _ (List.nil_sublist _)) ?_
  refine JA.many [9] (by kernel_rfl) (by simp) (all_one ⟨_, #[true, true, true, true, true, true, true, true, true, true, false], rfl, (by kernel_rfl), ?_⟩)
  refine JL.freezeG 0 (R := R_Cell) rfl R_Cell_mono hch98 rfl ?_
  intro H99 hs99 hg100
  refine JL.callS (c_ref03_Rows n H99 s s_v2 (SL.mono R_Cell_mono (HSub.trans hs34 hs99) hs_2) s_v3 (SL.mono R_Cell_mono (HSub.trans hs34 hs99) hs_3) s_v4 (SL.mono R_Panel_mono (HSub.trans hs34 hs99) hs_4) l74 v96 hg100 lay lay_v0 (SL.mono R_Place_mono (HSub.trans hs34 hs99) hlay_0) y80 hy80) rfl en_25 .none rfl ?_
  refine JA.after hE hs99 (.cons_cons _ (List.nil_sublist _)) ?_
  refine JA.take 10 (listed' := #[true, true, true, true, true, true, true, true, true, true, true]) hQ rfl (by kernel_rfl) (by kernel_rfl) (by kernel_rfl) (by kernel_rfl) (by kernel_rfl) hE hs99 (.cons_cons _ (List.nil_sublist _)) ?_
  refine JL.assign .none rfl ?_
  refine JA.cont ?_
  refine JA.done hQ (by kernel_rfl) ?_
  refine JQ.go (JC.ret ?_)
  obtain rfl := Option.some.inj hF
  exact JQ.outS rfl (.tmp .nil) rfl
end Go.Proofs.Ytflhjlgimihmgaa
end
section
namespace Go.Dec
theorem w64_nat {i : Nat} (h : i ≤ 4611686018427387904) : w64 ((i : Int) + 1) = ((i + 1 : Nat) : Int) := by
  rw [w64_id] <;> omega
theorem lim_ok {α : Type} {l : List α} (h : l.length ≤ 4294967296) : lim l = some l := by simp [lim, h]
section
variable {S R : Type} {step : S → Option (S ⊕ R)}
theorem loopO_succ {n : Nat} {s : S} : loopO (n + 1) step s = (match step s with | none => none | some (.inl s') => loopO n step s' | some (.inr r) => some r) := by
  rw [loopO]; rcases step s with _ | (_ | _) <;> rfl
theorem loop_done {n : Nat} {s : S} {r : R} (h : step s = some (.inr r)) (hn : 0 < n) : loopO n step s = some r := by
  obtain ⟨m, rfl⟩ : ∃ k, n = k + 1 := ⟨n - 1, by omega⟩
  rw [loopO_succ, h]
/-- a loop that folds a list; I: what is so of the state before round i -/
theorem loop_fold {α β : Type} (l : List α) (enc : Nat → β → S) (g : β → α → β) (fin : β → R) (I : Nat → β → Prop) {n : Nat} (b0 : β) (h0 : I 0 b0)
    (h : ∀ i x b, l[i]? = some x → I i b → step (enc i b) = some (.inl (enc (i + 1) (g b x))) ∧ I (i + 1) (g b x))
    (hd : ∀ b, I l.length b → step (enc l.length b) = some (.inr (fin b))) (hn : l.length < n) : loopO n step (enc 0 b0) = some (fin (l.foldl g b0)) ∧ I l.length (l.foldl g b0) := by
  have key : ∀ (k i : Nat) (b : β) (n : Nat), i + k = l.length → I i b → k < n → loopO n step (enc i b) = some (fin ((l.drop i).foldl g b)) ∧ I l.length ((l.drop i).foldl g b) := by
    intro k
    induction k with
    | zero =>
      intro i b n hi hI hn
      have e : i = l.length := by omega
      subst e
      rw [List.drop_length]
      exact ⟨loop_done (hd b hI) hn, hI⟩
    | succ k ih =>
      intro i b n hi hI hn
      obtain ⟨m, rfl⟩ : ∃ k, n = k + 1 := ⟨n - 1, by omega⟩
      have hlt : i < l.length := by omega
      obtain ⟨h1, h2⟩ := h i l[i] b (List.getElem?_eq_getElem hlt) hI
      rw [loopO_succ, h1, List.drop_eq_getElem_cons hlt, List.foldl_cons]
      exact ih (i + 1) _ m (by omega) h2 (by omega)
  have := key l.length 0 b0 n (by omega) h0 hn
  rwa [List.drop_zero] at this
/-- a search by index -/
theorem loop_all {ρ : Type} {step : Int → Option (Int ⊕ (ρ ⊕ Unit))} (k : Nat) (p : Nat → Bool) (r : ρ) {n : Nat} (hk : k ≤ 4611686018427387904)
    (h : ∀ i, i < k → step (i : Int) = some (bif p i then .inl ((i + 1 : Nat) : Int) else .inr (.inl r))) (hd : step (k : Int) = some (.inr (.inr ()))) (hn : k < n) :
    loopO n step 0 = some (bif (List.range k).all p then .inr () else .inl r) := by
  have key : ∀ (m i n : Nat), i + m = k → m < n → loopO n step (i : Int) = some (bif (List.range' i m).all p then .inr () else .inl r) := by
    intro m
    induction m with
    | zero => intro i n hi hn; have : i = k := by omega
              subst this; rw [loop_done hd (by omega)]; simp
    | succ m ih =>
      intro i n hi hn
      obtain ⟨m', rfl⟩ : ∃ k, n = k + 1 := ⟨n - 1, by omega⟩
      rw [loopO_succ, h i (by omega), List.range'_succ, List.all_cons]
      cases hp : p i with
      | false => simp
      | true => simp only [cond_true, Bool.true_and]; exact ih (i + 1) m' (by omega) (by omega)
  have := key k 0 n (by omega) hn
  rw [List.range_eq_range']
  exact this
/-- a search in a list -/
theorem loop_all_l {α ρ : Type} {step : Int → Option (Int ⊕ (ρ ⊕ Unit))} (l : List α) (p : α → Bool) (r : ρ) {n : Nat} (hk : l.length ≤ 4611686018427387904)
    (h : ∀ i x, l[i]? = some x → i < l.length → step (i : Int) = some (bif p x then .inl ((i + 1 : Nat) : Int) else .inr (.inl r))) (hd : step (l.length : Int) = some (.inr (.inr ()))) (hn : l.length < n) :
    loopO n step 0 = some (bif l.all p then .inr () else .inl r) := by
  have := loop_all l.length (fun i => match l[i]? with | some x => p x | none => true) r hk (fun i hi => by
    rw [h i l[i] (List.getElem?_eq_getElem hi) hi]; simp [hi]) hd hn
  rw [this]
  have e : (List.range l.length).all (fun i => match l[i]? with | some x => p x | none => true) = l.all p := by
    rw [Bool.eq_iff_iff]
    simp only [List.all_eq_true, List.mem_range]
    constructor
    · intro h x hx
      obtain ⟨i, hi⟩ := List.mem_iff_getElem?.1 hx
      have := h i (List.getElem?_eq_some_iff.1 hi).1
      simpa [hi] using this
    · intro h i hi
      simpa [hi] using h _ (List.getElem_mem hi)
  rw [e]
end
theorem foldl_append_map {α β : Type} (f : α → β) : ∀ (l : List α) (out : List β), l.foldl (fun o x => o ++ [f x]) out = out ++ l.map f
  | [], out => by simp
  | a :: l, out => by rw [List.foldl_cons, foldl_append_map f l]; simp
end Go.Dec
end
section
namespace Go.Dec
def span (a b : Int) : List Int := (List.range (b + 1 - a).toNat).map fun j : Nat => a + j
def down (b a : Int) : List Int := (List.range (b + 1 - a).toNat).map fun j : Nat => b - j
theorem span_mem' {a b x : Int} : x ∈ span a b ↔ a ≤ x ∧ x ≤ b := by
  simp only [span, List.mem_map, List.mem_range]
  constructor
  · rintro ⟨j, h, rfl⟩; omega
  · intro h; exact ⟨(x - a).toNat, by omega, by omega⟩
theorem span_len (a b : Int) : (span a b).length = (b + 1 - a).toNat := by simp [span]
theorem span_nil {a b : Int} (h : b < a) : span a b = [] := by
  have : (b + 1 - a).toNat = 0 := by omega
  simp [span, this]
theorem span_cons {a b : Int} (h : a ≤ b) : span a b = a :: span (a + 1) b := by
  have : (b + 1 - a).toNat = (b + 1 - (a + 1)).toNat + 1 := by omega
  unfold span
  rw [this, List.range_succ_eq_map, List.map_cons, List.map_map]
  simp only [Int.natCast_zero, Int.add_zero]
  congr 1
  apply List.map_congr_left
  intro j _
  simp only [Function.comp]
  omega
theorem mul_in {x y A C : Int} (h1 : 0 ≤ x) (h2 : x ≤ A) (h3 : 0 ≤ y) (h4 : y ≤ C) : 0 ≤ x * y ∧ x * y ≤ A * C := by
  refine ⟨Int.mul_nonneg h1 h3, ?_⟩
  have a := Int.mul_le_mul_of_nonneg_right h2 h3
  have b := Int.mul_le_mul_of_nonneg_left h4 (show 0 ≤ A by omega)
  omega
end Go.Dec
end
section
namespace Go.Dec
def expand (m : Mp) : List (List Int) := m.flatMap fun p => List.replicate p.2.toNat p.1
/-- the map counts the list's members -/
structure RM (L : List (List Int)) (m : Mp) : Prop where
  srt : Srt m
  pos : ∀ p ∈ m, 0 < p.2
  perm : (expand m).Perm L
theorem mget_cons {p : List Int × Int} {r : Mp} {k : List Int} : mget (p :: r) k = if p.1 = k then p.2 else mget r k := by
  unfold mget
  rw [List.find?_cons]
  by_cases h : p.1 = k
  · have : (p.1 == k) = true := by simpa using h
    rw [this, if_pos h]
  · have : (p.1 == k) = false := by simpa using h
    rw [this, if_neg h]
theorem mget_nil {k : List Int} : mget [] k = 0 := rfl
theorem expand_cons (p : List Int × Int) (r : Mp) : expand (p :: r) = List.replicate p.2.toNat p.1 ++ expand r := by simp [expand]
theorem mget_nonneg {m : Mp} (hp : ∀ p ∈ m, 0 < p.2) (k : List Int) : 0 ≤ mget m k := by
  induction m with
  | nil => simp [mget_nil]
  | cons p r ih =>
    rw [mget_cons]
    split
    · have := hp p (List.mem_cons_self ..); omega
    · exact ih fun q hq => hp q (List.mem_cons_of_mem _ hq)
theorem expand_mput {k : List Int} {c : Int} (hc : 0 < c) : ∀ {m : Mp}, Srt m → (∀ p ∈ m, 0 < p.2) → (expand (mput m k (mget m k + c))).Perm (expand m ++ List.replicate c.toNat k)
  | [], _, _ => by simp [mput, mget_nil, expand]
  | p :: r, hs, hp => by
    obtain ⟨h1, h2⟩ := List.pairwise_cons.1 hs
    have hp' : ∀ q ∈ r, 0 < q.2 := fun q hq => hp q (List.mem_cons_of_mem _ hq)
    have hpp := hp p (List.mem_cons_self ..)
    rw [mget_cons]
    unfold mput
    by_cases e : p.1 = k
    · rw [if_pos e, if_pos (by simpa using e), expand_cons, expand_cons]
      simp only
      have e1 : (p.2 + c).toNat = p.2.toNat + c.toNat := by omega
      rw [e1, ← List.replicate_append_replicate, e]
      rw [List.append_assoc, List.append_assoc]
      exact List.Perm.append_left _ List.perm_append_comm
    · rw [if_neg e, if_neg (by simpa using e)]
      by_cases hl : klt k p.1 = true
      · rw [if_pos hl]
        have h0 : mget r k = 0 := mget_of_not fun q hq e2 => by
          have := klt_trans hl (h1 q hq)
          rw [e2, klt_irrefl] at this
          cases this
        rw [h0, expand_cons, Int.zero_add]
        exact List.perm_append_comm
      · rw [if_neg hl, expand_cons, expand_cons, List.append_assoc]
        exact List.Perm.append_left _ (expand_mput hc h2 hp')
theorem RM.nil : RM [] [] := ⟨List.Pairwise.nil, by simp, by simp [expand]⟩
theorem RM.add {L : List (List Int)} {m : Mp} (h : RM L m) (k : List Int) {c : Int} (hc : 0 < c) : RM (L ++ List.replicate c.toNat k) (mput m k (mget m k + c)) := by
  refine ⟨srt_mput h.srt, fun p hp => ?_, (expand_mput hc h.srt h.pos).trans (h.perm.append_right _)⟩
  rcases (mem_mput h.srt).1 hp with rfl | ⟨hp, _⟩
  · have := mget_nonneg h.pos k; simp only; omega
  · exact h.pos p hp
theorem mget_count {k : List Int} : ∀ {m : Mp}, Srt m → (∀ p ∈ m, 0 < p.2) → mget m k = ((expand m).count k : Nat)
  | [], _, _ => by simp [mget_nil, expand]
  | p :: r, hs, hp => by
    obtain ⟨h1, h2⟩ := List.pairwise_cons.1 hs
    have hp' : ∀ q ∈ r, 0 < q.2 := fun q hq => hp q (List.mem_cons_of_mem _ hq)
    have hpp := hp p (List.mem_cons_self ..)
    rw [mget_cons, expand_cons, List.count_append, List.count_replicate]
    have ih := mget_count (k := k) h2 hp'
    by_cases e : p.1 = k
    · rw [if_pos e, if_pos (by simpa using e)]
      have h0 : mget r k = 0 := mget_of_not fun q hq e2 => by
        have := h1 q hq
        rw [e2, ← e, klt_irrefl] at this
        cases this
      omega
    · rw [if_neg e, if_neg (by simpa using e)]
      omega
theorem RM.get {L : List (List Int)} {m : Mp} (h : RM L m) (k : List Int) : mget m k = (L.count k : Nat) := by
  rw [mget_count h.srt h.pos, h.perm.count_eq]
theorem RM.mem {L : List (List Int)} {m : Mp} (h : RM L m) {p : List Int × Int} : p ∈ m ↔ p.2 = (L.count p.1 : Nat) ∧ p.1 ∈ L := by
  constructor
  · intro hp
    have h1 := mget_of_mem h.srt (k := p.1) (v := p.2) hp
    rw [h.get] at h1
    refine ⟨h1.symm, ?_⟩
    have := h.pos p hp
    exact List.count_pos_iff.1 (by omega)
  · rintro ⟨h1, h2⟩
    have h3 : 0 < L.count p.1 := List.count_pos_iff.2 h2
    have h4 := h.get p.1
    unfold mget at h4
    cases hf : m.find? (fun q => q.1 == p.1) with
    | none => rw [hf] at h4; simp only at h4; omega
    | some q =>
      rw [hf] at h4
      simp only at h4
      have h5 := List.find?_some hf
      have e : q = p := by
        have : q.1 = p.1 := by simpa using h5
        exact Prod.ext this (by omega)
      rw [← e]
      exact List.mem_of_find?_eq_some hf
theorem RM.uniq {L : List (List Int)} {m m' : Mp} (h : RM L m) (h' : RM L m') : m = m' := srt_ext h.srt h'.srt fun p => by rw [h.mem, h'.mem]
theorem RM.key {L : List (List Int)} {m : Mp} (h : RM L m) {x : List Int} : (∃ c, (x, c) ∈ m) ↔ x ∈ L :=
  ⟨fun ⟨_, hc⟩ => (h.mem.1 hc).2, fun hx => ⟨(L.count x : Nat), h.mem.2 ⟨rfl, hx⟩⟩⟩
theorem expand_filter (q : List Int → Bool) : ∀ (m : Mp), expand (m.filter fun p => q p.1) = (expand m).filter q
  | [] => by simp [expand]
  | p :: r => by
    rw [expand_cons, List.filter_append]
    cases hq : q p.1 with
    | true => rw [List.filter_cons_of_pos (p := fun p : List Int × Int => q p.1) hq, expand_cons, expand_filter q r, List.filter_replicate_of_pos hq]
    | false => rw [List.filter_cons_of_neg (p := fun p : List Int × Int => q p.1) (by simp [hq]), expand_filter q r, List.filter_replicate_of_neg (by simp [hq]), List.nil_append]
theorem RM.filter {L : List (List Int)} {m : Mp} (h : RM L m) (q : List Int → Bool) : RM (L.filter q) (m.filter fun p => q p.1) :=
  ⟨h.srt.filter _, fun p hp => h.pos p (List.mem_filter.1 hp).1, by rw [expand_filter]; exact h.perm.filter _⟩
def tally (L : List (List Int)) : Mp := L.foldl (fun m k => mput m k (mget m k + 1)) []
theorem tally_ok (L : List (List Int)) : RM L (tally L) := by
  have key : ∀ (L L0 : List (List Int)) (m : Mp), RM L0 m → RM (L0 ++ L) (L.foldl (fun m k => mput m k (mget m k + 1)) m) := by
    intro L
    induction L with
    | nil => intro L0 m h; simpa using h
    | cons k L ih =>
      intro L0 m h
      rw [List.foldl_cons]
      have := ih (L0 ++ [k]) _ (by simpa using h.add k (c := 1) (by omega))
      simpa using this
  have := key L [] [] RM.nil
  rw [List.nil_append] at this
  exact this
theorem RM.eq {L : List (List Int)} {m : Mp} (h : RM L m) : m = tally L := h.uniq (tally_ok L)
end Go.Dec
end
section
namespace Go.Proofs.Ytflhjlgimihmgaa
open Go Go.RowKit Go.Dec
/-- a loop over a list that may be left early -/
theorem loop_list {S R α β : Type} {step : S → Option (S ⊕ R)} (l : List α) (enc : Nat → β → S) (I : Nat → β → Prop) (Post : R → Prop) {n : Nat} (b0 : β) (h0 : I 0 b0)
    (h : ∀ i x b, l[i]? = some x → I i b → (∃ b', step (enc i b) = some (.inl (enc (i + 1) b')) ∧ I (i + 1) b') ∨ (∃ r, step (enc i b) = some (.inr r) ∧ Post r))
    (hd : ∀ b, I l.length b → ∃ r, step (enc l.length b) = some (.inr r) ∧ Post r) (hn : l.length < n) : ∃ r, loopO n step (enc 0 b0) = some r ∧ Post r := by
  have key : ∀ (k i : Nat) (b : β) (n : Nat), i + k = l.length → I i b → k < n → ∃ r, loopO n step (enc i b) = some r ∧ Post r := by
    intro k
    induction k with
    | zero =>
      intro i b n hi hI hn
      have e : i = l.length := by omega
      subst e
      obtain ⟨r, hr, hp⟩ := hd b hI
      exact ⟨r, loop_done hr hn, hp⟩
    | succ k ih =>
      intro i b n hi hI hn
      obtain ⟨m, rfl⟩ : ∃ k, n = k + 1 := ⟨n - 1, by omega⟩
      have hlt : i < l.length := by omega
      rcases h i l[i] b (List.getElem?_eq_getElem hlt) hI with ⟨b', h1, h2⟩ | ⟨r, h1, h2⟩
      · rw [loopO_succ, h1]
        exact ih (i + 1) b' m (by omega) h2 (by omega)
      · exact ⟨r, by rw [loopO_succ, h1], h2⟩
  exact key l.length 0 b0 n (by omega) h0 hn
/-- .. over numbers -/
theorem loop_nats {S R β : Type} {step : S → Option (S ⊕ R)} (k : Nat) (enc : Nat → β → S) (I : Nat → β → Prop) (Post : R → Prop) {n : Nat} (b0 : β) (h0 : I 0 b0)
    (h : ∀ i b, i < k → I i b → (∃ b', step (enc i b) = some (.inl (enc (i + 1) b')) ∧ I (i + 1) b') ∨ (∃ r, step (enc i b) = some (.inr r) ∧ Post r))
    (hd : ∀ b, I k b → ∃ r, step (enc k b) = some (.inr r) ∧ Post r) (hn : k < n) : ∃ r, loopO n step (enc 0 b0) = some r ∧ Post r := by
  have := loop_list (step := step) (List.range k) enc I Post b0 h0 (fun i x b hx hI => h i b (by have := (List.getElem?_eq_some_iff.1 hx).1; simpa using this) hI) (fun b hI => by rw [List.length_range] at hI ⊢; exact hd b hI) (n := n) (by simpa using hn)
  exact this
theorem cell_ext {a b : Cell} (h1 : a.Row = b.Row) (h2 : a.Col = b.Col) : a = b := by
  obtain ⟨r, c⟩ := a; obtain ⟨r', c'⟩ := b; simp only at h1 h2; subst h1; subst h2; rfl
def cellE (a b : Cell) : Bool := a.Row == b.Row && a.Col == b.Col
theorem cellE_t {a b : Cell} : cellE a b = true ↔ a = b := by
  simp only [cellE, Bool.and_eq_true, beq_iff_eq]
  exact ⟨fun h => cell_ext h.1 h.2, fun h => by subst h; exact ⟨rfl, rfl⟩⟩
def inB (l : List Cell) (c : Cell) : Bool := l.any fun x => cellE x c
theorem inB_t {l : List Cell} {c : Cell} : inB l c = true ↔ c ∈ l := by
  simp only [inB, List.any_eq_true, cellE_t]
  exact ⟨fun ⟨x, h, e⟩ => e ▸ h, fun h => ⟨c, h, rfl⟩⟩
theorem inB_f {l : List Cell} {c : Cell} : inB l c = false ↔ c ∉ l := by rw [← inB_t]; cases inB l c <;> simp
section
variable {n : Nat}
theorem dlt (i : Nat) (k : Nat) : decide ((i : Int) < (k : Int)) = decide (i < k) := by simp
theorem p_within (x a b : Int) : F_ref03_within n x a b = some (decide (a ≤ x) && decide (x ≤ b)) := rfl
theorem p_lwithin (x a b : Int) : F_lays_within n x a b = some (decide (a ≤ x) && decide (x ≤ b)) := rfl
theorem p_In (hn : 1000000 ≤ n) (l : List Cell) (hl : l.length ≤ 10000) (c : Cell) : F_ref03_In n l c = some (inB l c) := by
  rw [F_ref03_In]
  have := loop_all_l (step := F_ref03_In_s1 n l c) l (fun x => !cellE x c) true (n := n) (by omega) (fun i x hx hi => by
    rw [F_ref03_In_s1, dlt, decide_eq_true hi, geti_nat, hx]
    simp only [if_true, Option.bind_some, w64_nat (show i ≤ 4611686018427387904 by omega), cellE]
    cases (x.Row == c.Row && x.Col == c.Col) <;> rfl) (by rw [F_ref03_In_s1, dlt]; simp) (by omega)
  rw [this]
  have e : inB l c = !(l.all fun x => !cellE x c) := by
    simp only [inB, List.any_eq_not_all_not]
  rw [e]
  cases l.all fun x => !cellE x c <;> rfl
def InC (s : Lap) (c : Cell) : Prop := (0 ≤ c.Row ∧ c.Row ≤ s.Length - 1) ∧ (0 ≤ c.Col ∧ c.Col ≤ s.Width - 1)
def cellB (s : Lap) (c : Cell) : Bool := (decide (0 ≤ c.Row) && decide (c.Row ≤ s.Length - 1)) && (decide (0 ≤ c.Col) && decide (c.Col ≤ s.Width - 1))
theorem cellB_t {s : Lap} {c : Cell} : cellB s c = true ↔ InC s c := by simp [cellB, InC]
def AreC (s : Lap) (l others : List Cell) : Prop := (∀ c ∈ l, InC s c ∧ c ∉ others) ∧ l.Nodup ∧ l.length ≤ 20
structure VPn (p : Panel) : Prop where
  n : 1 ≤ p.Rows.length ∧ p.Rows.length ≤ 4
  r : ∀ s ∈ p.Rows, 0 ≤ s.Low ∧ s.Low ≤ s.High ∧ s.High ≤ 7
  z : ∃ s ∈ p.Rows, s.Low = 0
structure VL (s : Lap) : Prop where
  w : 1 ≤ s.Width ∧ s.Width ≤ 8
  l : 1 ≤ s.Length ∧ s.Length ≤ 12
  fa : AreC s s.Faults []
  fl : AreC s s.Flaws s.Faults
  np : s.Panels.length ≤ 5
  p : ∀ p ∈ s.Panels, VPn p
/-- not far too much of anything -/
structure Small (s : Lap) : Prop where
  fa : s.Faults.length ≤ 40
  fl : s.Flaws.length ≤ 40
  np : s.Panels.length ≤ 20
  p : ∀ p ∈ s.Panels, p.Rows.length ≤ 20
theorem p_IsCell {s : Lap} (hl : 1 ≤ s.Length ∧ s.Length ≤ 12) (hw : 1 ≤ s.Width ∧ s.Width ≤ 8) (c : Cell) : F_ref03_IsCell n s c = some (cellB s c) := by
  rw [F_ref03_IsCell, p_within, p_within, w64_id (by omega) (by omega), w64_id (by omega) (by omega)]
  simp only [Option.bind_some, cellB]
  cases (decide (0 ≤ c.Row) && decide (c.Row ≤ s.Length - 1)) <;> rfl
theorem nodup_iff_take {α : Type} {l : List α} : l.Nodup ↔ ∀ i x, l[i]? = some x → x ∉ l.take i := by
  constructor
  · intro h i x hx hm
    obtain ⟨j, hj⟩ := List.mem_iff_getElem?.1 hm
    rw [List.getElem?_take] at hj
    split at hj
    · rename_i hlt
      obtain ⟨h1, h2⟩ := List.getElem?_eq_some_iff.1 hx
      obtain ⟨h3, h4⟩ := List.getElem?_eq_some_iff.1 hj
      exact List.pairwise_iff_getElem.1 h j i h3 h1 hlt (by rw [h4, h2])
    · cases hj
  · intro h
    refine List.pairwise_iff_getElem.2 fun i j hi hj hij e => ?_
    exact h j l[j] (List.getElem?_eq_getElem hj) (List.mem_iff_getElem?.2 ⟨i, by rw [List.getElem?_take, if_pos hij, List.getElem?_eq_getElem hi, e]⟩)
theorem p_areCells (hn : 1000000 ≤ n) {s : Lap} (hl : 1 ≤ s.Length ∧ s.Length ≤ 12) (hw : 1 ≤ s.Width ∧ s.Width ≤ 8) (l others : List Cell) (h1 : l.length ≤ 40) (h2 : others.length ≤ 40) :
    ∃ b, F_ref03_areCells n s l others = some b ∧ (b = true ↔ AreC s l others) := by
  rw [F_ref03_areCells]
  obtain ⟨r, hr, hp⟩ := loop_list (step := F_ref03_areCells_s1 n s l others) l (fun i (_ : Unit) => (i : Int)) (fun i _ => ∀ j x, j < i → l[j]? = some x → (InC s x ∧ x ∉ others) ∧ x ∉ l.take j)
    (fun r => match r with | .inl b => b = false ∧ ¬ AreC s l others | .inr _ => ∀ j x, l[j]? = some x → (InC s x ∧ x ∉ others) ∧ x ∉ l.take j) (n := n) () (by intro j x h; omega) (fun i x _ hx hI => by
      have hi := (List.getElem?_eq_some_iff.1 hx).1
      rw [F_ref03_areCells_s1, dlt, decide_eq_true hi, geti_nat, hx]
      have hslc : slc l 0 (i : Int) = some (l.take i) := by
        unfold slc; rw [if_pos ⟨by omega, by omega, by omega⟩]; simp
      simp only [if_true, Option.bind_some, p_IsCell hl hw, hslc, p_In hn (l.take i) (by rw [List.length_take]; omega), p_In hn others (by omega), w64_nat (show i ≤ 4611686018427387904 by omega)]
      by_cases hb : (InC s x ∧ x ∉ others) ∧ x ∉ l.take i
      · refine .inl ⟨(), ?_, fun j y hj hy => ?_⟩
        · rw [cellB_t.2 hb.1.1, inB_f.2 hb.1.2, inB_f.2 hb.2]; rfl
        · rcases Nat.lt_or_ge j i with h | h
          · exact hI j y h hy
          · obtain rfl : j = i := by omega
            rw [hx] at hy; cases hy; exact hb
      · refine .inr ⟨.inl false, ?_, rfl, fun hA => hb ⟨hA.1 x (List.mem_of_getElem? hx), nodup_iff_take.1 hA.2.1 i x hx⟩⟩
        cases h3 : cellB s x with
        | false => rfl
        | true =>
          cases h4 : inB (l.take i) x with
          | true => rfl
          | false =>
            cases h5 : inB others x with
            | true => rfl
            | false => exact absurd ⟨⟨cellB_t.1 h3, inB_f.1 h5⟩, inB_f.1 h4⟩ hb) (fun _ hI => by
      refine ⟨.inr (), by rw [F_ref03_areCells_s1, dlt]; simp, fun j x hx => hI j x (List.getElem?_eq_some_iff.1 hx).1 hx⟩) (by omega)
  rw [show ((0 : Int)) = ((0 : Nat) : Int) from rfl, hr]
  cases r with
  | inl b => exact ⟨b, rfl, by rw [hp.1]; simp; exact hp.2⟩
  | inr u =>
    refine ⟨_, rfl, ?_⟩
    rw [decide_eq_true_iff]
    constructor
    · intro h
      refine ⟨fun c hc => ?_, nodup_iff_take.2 fun i x hx => (hp i x hx).2, by omega⟩
      obtain ⟨i, hi⟩ := List.mem_iff_getElem?.1 hc
      exact (hp i c hi).1
    · intro h; have := h.2.2; omega
theorem p_isPanel (hn : 1000000 ≤ n) (p : Panel) (hp : p.Rows.length ≤ 20) : ∃ b, F_ref03_isPanel n p = some b ∧ (b = true ↔ VPn p) := by
  rw [F_ref03_isPanel]
  obtain ⟨r, hr, hpost⟩ := loop_list (step := F_ref03_isPanel_s1 n p) p.Rows (fun i (m : Int) => (m, (i : Int)))
    (fun i m => (∀ j x, j < i → p.Rows[j]? = some x → 0 ≤ x.Low ∧ x.Low ≤ x.High ∧ x.High ≤ 7) ∧ (0 ≤ m) ∧ (m = 0 ↔ ∃ j x, j < i ∧ p.Rows[j]? = some x ∧ x.Low = 0))
    (fun r => match r with | .inl b => b = false ∧ ¬ VPn p | .inr m => (∀ s ∈ p.Rows, 0 ≤ s.Low ∧ s.Low ≤ s.High ∧ s.High ≤ 7) ∧ (m = 0 ↔ ∃ s ∈ p.Rows, s.Low = 0)) (n := n) 8 ⟨by intro j x h; omega, by decide, by constructor <;> intro h; omega; obtain ⟨j, _, h, _⟩ := h; omega⟩ (fun i x m hx hI => by
      have hi := (List.getElem?_eq_some_iff.1 hx).1
      rw [F_ref03_isPanel_s1, dlt, decide_eq_true hi, geti_nat, hx]
      simp only [if_true, Option.bind_some, p_within, w64_nat (show i ≤ 4611686018427387904 by omega)]
      by_cases hb : 0 ≤ x.Low ∧ x.Low ≤ x.High ∧ x.High ≤ 7
      · refine .inl ⟨min m x.Low, ?_, fun j y hj hy => ?_, by omega, ?_⟩
        · rw [decide_eq_true hb.1, decide_eq_true hb.2.1, decide_eq_false (show ¬ 7 < x.High by omega)]; rfl
        · rcases Nat.lt_or_ge j i with h | h
          · exact hI.1 j y h hy
          · obtain rfl : j = i := by omega
            rw [hx] at hy; cases hy; exact hb
        · constructor
          · intro h
            by_cases hm : m = 0
            · obtain ⟨j, y, h1, h2, h3⟩ := hI.2.2.1 hm
              exact ⟨j, y, by omega, h2, h3⟩
            · exact ⟨i, x, by omega, hx, by have := hI.2.1; omega⟩
          · rintro ⟨j, y, h1, h2, h3⟩
            rcases Nat.lt_or_ge j i with h | h
            · have := hI.2.2.2 ⟨j, y, h, h2, h3⟩; omega
            · obtain rfl : j = i := by omega
              rw [hx] at h2; cases h2; have := hI.2.1; omega
      · refine .inr ⟨.inl false, ?_, rfl, fun hA => hb (hA.r x (List.mem_of_getElem? hx))⟩
        by_cases h1 : 0 ≤ x.Low
        · by_cases h2 : x.Low ≤ x.High
          · have h3 : 7 < x.High := by omega
            rw [decide_eq_true h1, decide_eq_true h2, decide_eq_true h3]; rfl
          · rw [decide_eq_true h1, decide_eq_false h2]; rfl
        · rw [decide_eq_false h1]; rfl) (fun m hI => by
      refine ⟨.inr m, by rw [F_ref03_isPanel_s1, dlt]; simp, fun s hs => ?_, hI.2.2.trans ?_⟩
      · obtain ⟨j, hj⟩ := List.mem_iff_getElem?.1 hs
        exact hI.1 j s (List.getElem?_eq_some_iff.1 hj).1 hj
      · constructor
        · rintro ⟨j, y, _, h2, h3⟩; exact ⟨y, List.mem_of_getElem? h2, h3⟩
        · rintro ⟨s, hs, h⟩
          obtain ⟨j, hj⟩ := List.mem_iff_getElem?.1 hs
          exact ⟨j, s, (List.getElem?_eq_some_iff.1 hj).1, hj, h⟩) (by omega)
  rw [show ((8 : Int), (0 : Int)) = ((8 : Int), ((0 : Nat) : Int)) from rfl, hr]
  cases r with
  | inl b => exact ⟨b, rfl, by rw [hpost.1]; simp; exact hpost.2⟩
  | inr m =>
    refine ⟨_, rfl, ?_⟩
    simp only [Bool.and_eq_true, decide_eq_true_iff, beq_iff_eq]
    constructor
    · rintro ⟨⟨h1, h2⟩, h3⟩
      exact ⟨⟨by omega, by omega⟩, hpost.1, hpost.2.1 h3⟩
    · intro h
      exact ⟨⟨by have := h.n.1; omega, by have := h.n.2; omega⟩, hpost.2.2 h.z⟩
theorem p_Check (hn : 1000000 ≤ n) (s : Lap) (hs : Small s) : ∃ v, F_ref03_Check n s = some v ∧ (v = 0 ∨ v = 30) ∧ (v = 0 ↔ VL s) := by
  rw [F_ref03_Check, p_within, p_within]
  simp only [Option.bind_some]
  by_cases hw : 1 ≤ s.Width ∧ s.Width ≤ 8
  · by_cases hl : 1 ≤ s.Length ∧ s.Length ≤ 12
    · rw [decide_eq_true hw.1, decide_eq_true hw.2, decide_eq_true hl.1, decide_eq_true hl.2]
      obtain ⟨b1, e1, q1⟩ := p_areCells hn hl hw s.Faults [] hs.fa (by simp)
      obtain ⟨b2, e2, q2⟩ := p_areCells hn hl hw s.Flaws s.Faults hs.fl hs.fa
      have bad : ∀ {P : Prop}, ¬ VL s → (∃ v, (some 30 : Option Int) = some v ∧ (v = 0 ∨ v = 30) ∧ (v = 0 ↔ VL s)) := fun h => ⟨30, rfl, .inr rfl, by simp; exact h⟩
      rw [e1, e2]
      cases b1 with
      | false => exact bad (P := True) fun h => by have := q1.2 h.fa; cases this
      | true =>
        cases b2 with
        | false => exact bad (P := True) fun h => by have := q2.2 h.fl; cases this
        | true =>
          simp only [Bool.and_self, Bool.not_true, Bool.false_eq_true, if_false, Option.bind_some, Bool.false_or, decide_eq_true_eq]
          by_cases hnp : 5 < (s.Panels.length : Int)
          · rw [if_pos hnp]; exact bad (P := True) fun h => by have := h.np; omega
          · rw [if_neg hnp]
            obtain ⟨r, hr, hp⟩ := loop_list (step := F_ref03_Check_s1 n s) s.Panels (fun i (_ : Unit) => (i : Int)) (fun i _ => ∀ j x, j < i → s.Panels[j]? = some x → VPn x)
              (fun r => match r with | .inl v => v = 30 ∧ ¬ VL s | .inr _ => ∀ p ∈ s.Panels, VPn p) (n := n) () (by intro j x h; omega) (fun i x _ hx hI => by
                have hi := (List.getElem?_eq_some_iff.1 hx).1
                obtain ⟨b, e, q⟩ := p_isPanel hn x (hs.p x (List.mem_of_getElem? hx))
                rw [F_ref03_Check_s1, dlt, decide_eq_true hi, geti_nat, hx]
                simp only [if_true, Option.bind_some, e, w64_nat (show i ≤ 4611686018427387904 by omega)]
                cases b with
                | true =>
                  refine .inl ⟨(), rfl, fun j y hj hy => ?_⟩
                  rcases Nat.lt_or_ge j i with h | h
                  · exact hI j y h hy
                  · obtain rfl : j = i := by omega
                    rw [hx] at hy; cases hy; exact q.1 rfl
                | false => exact .inr ⟨.inl 30, rfl, rfl, fun h => by have := q.2 (h.p x (List.mem_of_getElem? hx)); cases this⟩) (fun _ hI => by
                refine ⟨.inr (), by rw [F_ref03_Check_s1, dlt]; simp, fun p hp => ?_⟩
                obtain ⟨j, hj⟩ := List.mem_iff_getElem?.1 hp
                exact hI j p (List.getElem?_eq_some_iff.1 hj).1 hj) (by have := hs.np; omega)
            rw [show ((0 : Int)) = ((0 : Nat) : Int) from rfl, hr]
            cases r with
            | inl v => exact ⟨v, rfl, .inr hp.1, by rw [hp.1]; simp; exact hp.2⟩
            | inr u => exact ⟨0, rfl, .inl rfl, iff_of_true rfl ⟨hw, hl, q1.1 rfl, q2.1 rfl, by omega, hp⟩⟩
    · refine ⟨30, ?_, .inr rfl, by simp; exact fun h => hl h.l⟩
      rw [decide_eq_true hw.1, decide_eq_true hw.2]
      by_cases h1 : 1 ≤ s.Length
      · rw [decide_eq_true h1, decide_eq_false (show ¬ s.Length ≤ 12 by omega)]; rfl
      · rw [decide_eq_false h1]; rfl
  · refine ⟨30, ?_, .inr rfl, by simp; exact fun h => hw h.w⟩
    by_cases h1 : 1 ≤ s.Width
    · rw [decide_eq_true h1, decide_eq_false (show ¬ s.Width ≤ 8 by omega)]; rfl
    · rw [decide_eq_false h1]; rfl
end
end Go.Proofs.Ytflhjlgimihmgaa
end
section
namespace Go.Proofs.Ytflhjlgimihmgaa
open Go Go.RowKit Go.Dec
theorem mget_ne {m : Mp} (h : Srt m) {k k' : List Int} (hne : k' ≠ k) (v : Int) : mget (mput m k v) k' = mget m k' := by
  by_cases hk : ∃ u, (k', u) ∈ m
  · obtain ⟨u, hu⟩ := hk
    rw [mget_of_mem h hu]
    exact mget_of_mem (srt_mput h) ((mem_mput h).2 (.inr ⟨hu, hne⟩))
  · have h1 : mget m k' = 0 := mget_of_not fun p hp e => hk ⟨p.2, by rw [← e]; exact hp⟩
    rw [h1]
    refine mget_of_not fun p hp e => ?_
    rcases (mem_mput h).1 hp with rfl | ⟨hp, _⟩
    · exact hne e.symm
    · exact hk ⟨p.2, by rw [← e]; exact hp⟩
def In64 (x : Int) : Prop := -9223372036854775808 ≤ x ∧ x ≤ 9223372036854775807
theorem kok2 {a b : Int} (ha : In64 a) (hb : In64 b) : kok 2 [a, b] = some () := kok_ok ⟨rfl, fun y hy => by
  rcases List.mem_cons.1 hy with rfl | hy
  · exact ha
  · rw [List.mem_singleton.1 hy]; exact hb⟩
section
variable {n : Nat}
theorem p_Concat (hn : 1000000 ≤ n) (a b : List Cell) (ha : a.length ≤ 10000) (hb : b.length ≤ 10000) : F_slices_Concat___api_Cell_api_Cell_ n [a, b] = some (a ++ b) := by
  rw [F_slices_Concat___api_Cell_api_Cell_]
  have h1 := (loop_fold (step := F_slices_Concat___api_Cell_api_Cell__s1 n [a, b]) [a, b] (fun i (z : Int) => (z, (i : Int))) (fun z y => z + (y.length : Int)) (fun z => z) (fun i z => 0 ≤ z ∧ z ≤ 10000 * i) (n := n) 0 ⟨by omega, by omega⟩ (fun i x z hx hI => by
    have hi := (List.getElem?_eq_some_iff.1 hx).1
    have hx' : x.length ≤ 10000 := by
      have := List.mem_of_getElem? hx
      simp only [List.mem_cons, List.not_mem_nil, or_false] at this
      rcases this with rfl | rfl <;> assumption
    simp only [List.length_cons, List.length_nil] at hi
    rw [F_slices_Concat___api_Cell_api_Cell__s1, dlt, decide_eq_true (show i < [a, b].length by simpa using hi), geti_nat, hx]
    simp only [if_true, Option.bind_some, w64_nat (show i ≤ 4611686018427387904 by omega)]
    rw [w64_id (by omega) (by omega), decide_eq_false (show ¬ z + (x.length : Int) < 0 by omega)]
    refine ⟨rfl, by omega, ?_⟩
    rw [show ((i + 1 : Nat) : Int) = (i : Int) + 1 by omega]; omega) (fun z hI => by
    rw [F_slices_Concat___api_Cell_api_Cell__s1, dlt]; simp) (by simp; omega)).1
  rw [show ((0 : Int), (0 : Int)) = ((0 : Int), ((0 : Nat) : Int)) from rfl, h1]
  have h2 := (loop_fold (step := F_slices_Concat___api_Cell_api_Cell__s2 n [a, b]) [a, b] (fun i (z : List Cell) => ((i : Int), z)) (fun z y => z ++ y) (fun z => z) (fun i z => z.length ≤ 10000 * i) (n := n) ([] : List Cell) (by simp) (fun i x z hx hI => by
    have hi := (List.getElem?_eq_some_iff.1 hx).1
    have hx' : x.length ≤ 10000 := by
      have := List.mem_of_getElem? hx
      simp only [List.mem_cons, List.not_mem_nil, or_false] at this
      rcases this with rfl | rfl <;> assumption
    simp only [List.length_cons, List.length_nil] at hi
    rw [F_slices_Concat___api_Cell_api_Cell__s2, dlt, decide_eq_true (show i < [a, b].length by simpa using hi), geti_nat, hx]
    simp only [if_true, Option.bind_some, w64_nat (show i ≤ 4611686018427387904 by omega)]
    rw [lim_ok (by rw [List.length_append]; omega)]
    refine ⟨rfl, ?_⟩
    rw [List.length_append]; omega) (fun z hI => by
    rw [F_slices_Concat___api_Cell_api_Cell__s2, dlt]; simp) (by simp; omega)).1
  simp only [List.foldl_cons, List.foldl_nil, Option.bind_some, List.nil_append] at h2 ⊢
  have hg : growck (0 + (a.length : Int) + (b.length : Int)) = some () := by unfold growck; rw [if_pos ⟨by omega, by omega⟩]
  rw [hg]
  simp only [Option.bind_some]
  rw [show ((0 : Int), ([] : List Cell)) = (((0 : Nat) : Int), ([] : List Cell)) from rfl, h2]
  rfl
theorem p_isPanelL (hn : 1000000 ≤ n) (p : Panel) (hp : p.Rows.length ≤ 20) : ∃ b, F_lays_isPanel n p = some b ∧ (b = true ↔ VPn p) := by
  rw [F_lays_isPanel, p_lwithin]
  simp only [Option.bind_some]
  by_cases hlen : 1 ≤ p.Rows.length ∧ p.Rows.length ≤ 4
  · rw [decide_eq_true (show 1 ≤ (p.Rows.length : Int) by omega), decide_eq_true (show (p.Rows.length : Int) ≤ 4 by omega)]
    obtain ⟨r, hr, hpost⟩ := loop_list (step := F_lays_isPanel_s1 n p) p.Rows (fun i (m : Int) => (m, (i : Int)))
      (fun i m => (∀ j x, j < i → p.Rows[j]? = some x → 0 ≤ x.Low ∧ x.Low ≤ x.High ∧ x.High ≤ 7) ∧ (0 ≤ m) ∧ (m = 0 ↔ ∃ j x, j < i ∧ p.Rows[j]? = some x ∧ x.Low = 0))
      (fun r => match r with | .inl b => b = false ∧ ¬ VPn p | .inr m => (∀ s ∈ p.Rows, 0 ≤ s.Low ∧ s.Low ≤ s.High ∧ s.High ≤ 7) ∧ (m = 0 ↔ ∃ s ∈ p.Rows, s.Low = 0)) (n := n) 8 ⟨by intro j x h; omega, by decide, by constructor <;> intro h; omega; obtain ⟨j, _, h, _⟩ := h; omega⟩ (fun i x m hx hI => by
        have hi := (List.getElem?_eq_some_iff.1 hx).1
        rw [F_lays_isPanel_s1, dlt, decide_eq_true hi, geti_nat, hx]
        simp only [if_true, Option.bind_some, p_lwithin, w64_nat (show i ≤ 4611686018427387904 by omega)]
        by_cases hb : 0 ≤ x.Low ∧ x.Low ≤ x.High ∧ x.High ≤ 7
        · refine .inl ⟨min m x.Low, ?_, fun j y hj hy => ?_, by omega, ?_⟩
          · rw [decide_eq_true hb.1, decide_eq_true hb.2.1, decide_eq_false (show ¬ 8 ≤ x.High by omega)]; rfl
          · rcases Nat.lt_or_ge j i with h | h
            · exact hI.1 j y h hy
            · obtain rfl : j = i := by omega
              rw [hx] at hy; cases hy; exact hb
          · constructor
            · intro h
              by_cases hm : m = 0
              · obtain ⟨j, y, h1, h2, h3⟩ := hI.2.2.1 hm
                exact ⟨j, y, by omega, h2, h3⟩
              · exact ⟨i, x, by omega, hx, by have := hI.2.1; omega⟩
            · rintro ⟨j, y, h1, h2, h3⟩
              rcases Nat.lt_or_ge j i with h | h
              · have := hI.2.2.2 ⟨j, y, h, h2, h3⟩; omega
              · obtain rfl : j = i := by omega
                rw [hx] at h2; cases h2; have := hI.2.1; omega
        · refine .inr ⟨.inl false, ?_, rfl, fun hA => hb (hA.r x (List.mem_of_getElem? hx))⟩
          by_cases h1 : 0 ≤ x.Low
          · by_cases h2 : x.Low ≤ x.High
            · have h3 : 8 ≤ x.High := by omega
              rw [decide_eq_true h1, decide_eq_true h2, decide_eq_true h3]; rfl
            · rw [decide_eq_true h1, decide_eq_false h2]; rfl
          · rw [decide_eq_false h1]; rfl) (fun m hI => by
        refine ⟨.inr m, by rw [F_lays_isPanel_s1, dlt]; simp, fun s hs => ?_, hI.2.2.trans ?_⟩
        · obtain ⟨j, hj⟩ := List.mem_iff_getElem?.1 hs
          exact hI.1 j s (List.getElem?_eq_some_iff.1 hj).1 hj
        · constructor
          · rintro ⟨j, y, _, h2, h3⟩; exact ⟨y, List.mem_of_getElem? h2, h3⟩
          · rintro ⟨s, hs, h⟩
            obtain ⟨j, hj⟩ := List.mem_iff_getElem?.1 hs
            exact ⟨j, s, (List.getElem?_eq_some_iff.1 hj).1, hj, h⟩) (by omega)
    rw [show ((8 : Int), (0 : Int)) = ((8 : Int), ((0 : Nat) : Int)) from rfl, hr]
    cases r with
    | inl b => exact ⟨b, rfl, by rw [hpost.1]; simp; exact hpost.2⟩
    | inr m =>
      refine ⟨_, rfl, ?_⟩
      rw [beq_iff_eq]
      exact ⟨fun h3 => ⟨hlen, hpost.1, hpost.2.1 h3⟩, fun h => hpost.2.2 h.z⟩
  · refine ⟨false, ?_, by simp; exact fun h => hlen h.n⟩
    by_cases h1 : 1 ≤ p.Rows.length
    · rw [decide_eq_true (show 1 ≤ (p.Rows.length : Int) by omega), decide_eq_false (show ¬ (p.Rows.length : Int) ≤ 4 by omega)]; rfl
    · rw [decide_eq_false (show ¬ 1 ≤ (p.Rows.length : Int) by omega)]; rfl
theorem p_anyPanel (hn : 1000000 ≤ n) (l : List Panel) (hl : l.length ≤ 20) (hr : ∀ p ∈ l, p.Rows.length ≤ 20) : ∃ b, F_slices_ContainsFunc___api_Panel_api_Panel_ n l (fun a0_ => F_lays_Check_1 n a0_) = some b ∧ (b = false ↔ ∀ p ∈ l, VPn p) := by
  rw [F_slices_ContainsFunc___api_Panel_api_Panel_, F_slices_IndexFunc___api_Panel_api_Panel_]
  obtain ⟨r, hr', hpost⟩ := loop_list (step := F_slices_IndexFunc___api_Panel_api_Panel__s1 n l (fun a0_ => F_lays_Check_1 n a0_)) l (fun i (_ : Unit) => (i : Int)) (fun i _ => ∀ j x, j < i → l[j]? = some x → VPn x)
    (fun r => match r with | .inl v => 0 ≤ v ∧ ¬ ∀ p ∈ l, VPn p | .inr _ => ∀ p ∈ l, VPn p) (n := n) () (by intro j x h; omega) (fun i x _ hx hI => by
      have hi := (List.getElem?_eq_some_iff.1 hx).1
      obtain ⟨b, e, q⟩ := p_isPanelL hn x (hr x (List.mem_of_getElem? hx))
      rw [F_slices_IndexFunc___api_Panel_api_Panel__s1, dlt, decide_eq_true hi, geti_nat, hx]
      simp only [if_true, Option.bind_some, F_lays_Check_1, e, w64_nat (show i ≤ 4611686018427387904 by omega)]
      cases b with
      | true =>
        refine .inl ⟨(), rfl, fun j y hj hy => ?_⟩
        rcases Nat.lt_or_ge j i with h | h
        · exact hI j y h hy
        · obtain rfl : j = i := by omega
          rw [hx] at hy; cases hy; exact q.1 rfl
      | false => exact .inr ⟨.inl (i : Int), rfl, Int.natCast_nonneg _, fun h => by have := q.2 (h x (List.mem_of_getElem? hx)); cases this⟩) (fun _ hI => by
      refine ⟨.inr (), by rw [F_slices_IndexFunc___api_Panel_api_Panel__s1, dlt]; simp, fun p hp => ?_⟩
      obtain ⟨j, hj⟩ := List.mem_iff_getElem?.1 hp
      exact hI j p (List.getElem?_eq_some_iff.1 hj).1 hj) (by omega)
  rw [show ((0 : Int)) = ((0 : Nat) : Int) from rfl, hr']
  cases r with
  | inl v => exact ⟨_, rfl, iff_of_false (by rw [show ((0 : Nat) : Int) = 0 from rfl, decide_eq_true hpost.1]; decide) hpost.2⟩
  | inr u => exact ⟨_, rfl, iff_of_true (by decide) hpost⟩
theorem are_app {s : Lap} {a b : List Cell} : (AreC s a [] ∧ AreC s b a) ↔ (((∀ c ∈ a ++ b, InC s c) ∧ (a ++ b).Nodup) ∧ a.length ≤ 20 ∧ b.length ≤ 20) := by
  constructor
  · rintro ⟨⟨h1, h2, h3⟩, h4, h5, h6⟩
    refine ⟨⟨fun c hc => ?_, List.nodup_append.2 ⟨h2, h5, fun x hx y hy e => (h4 y hy).2 (e ▸ hx)⟩⟩, h3, h6⟩
    rcases List.mem_append.1 hc with h | h
    · exact (h1 c h).1
    · exact (h4 c h).1
  · rintro ⟨⟨h1, h2⟩, h3, h4⟩
    obtain ⟨k1, k2, k3⟩ := List.nodup_append.1 h2
    exact ⟨⟨fun c hc => ⟨h1 c (List.mem_append_left _ hc), by simp⟩, k1, h3⟩, fun c hc => ⟨h1 c (List.mem_append_right _ hc), fun h => k3 c h c hc rfl⟩, k2, h4⟩
theorem p_known (hn : 1000000 ≤ n) {s : Lap} (hl : 1 ≤ s.Length ∧ s.Length ≤ 12) (hw : 1 ≤ s.Width ∧ s.Width ≤ 8) (l : List Cell) (hlen : l.length ≤ 100) (h64 : ∀ c ∈ l, In64 c.Row ∧ In64 c.Col) :
    ∃ r, loopO n (F_lays_Check_s1 n s l) (0, ([] : Mp)) = some r ∧ (match r with | .inl v => v = 30 ∧ ¬ ((∀ c ∈ l, InC s c) ∧ l.Nodup) | .inr _ => (∀ c ∈ l, InC s c) ∧ l.Nodup) := by
  refine loop_list (step := F_lays_Check_s1 n s l) l (fun i (m : Mp) => ((i : Int), m)) (fun i m => Srt m ∧ (∀ j x, j < i → l[j]? = some x → InC s x ∧ x ∉ l.take j) ∧ ∀ c : Cell, mget m [c.Row, c.Col] = if inB (l.take i) c = true then 1 else 0)
    (fun r => match r with | .inl v => v = 30 ∧ ¬ ((∀ c ∈ l, InC s c) ∧ l.Nodup) | .inr _ => (∀ c ∈ l, InC s c) ∧ l.Nodup) (n := n) [] ⟨List.Pairwise.nil, by intro j x h; omega, fun c => by simp [inB, mget_nil]⟩ (fun i x m hx hI => ?_) (fun m hI => ?_) (by omega)
  · have hi := (List.getElem?_eq_some_iff.1 hx).1
    obtain ⟨hS, hall, hg⟩ := hI
    have hk := h64 x (List.mem_of_getElem? hx)
    rw [F_lays_Check_s1, dlt, decide_eq_true hi, geti_nat, hx]
    have hg0 := hg x
    have hS1 := srt_mput (k := [x.Row, x.Col]) (v := mget m [x.Row, x.Col]) hS
    have hw1 : w64 (mget m [x.Row, x.Col] + 1) = mget m [x.Row, x.Col] + 1 := w64_id (by rw [hg0]; split <;> omega) (by rw [hg0]; split <;> omega)
    simp only [if_true, Option.bind_some, kok2 hk.1 hk.2, hw1, mget_mput hS1, p_lwithin, w64_nat (show i ≤ 4611686018427387904 by omega), w64_id (show -9223372036854775808 ≤ s.Length - 1 by omega) (by omega), w64_id (show -9223372036854775808 ≤ s.Width - 1 by omega) (by omega)]
    by_cases hb : InC s x ∧ x ∉ l.take i
    · refine .inl ⟨mput (mput m [x.Row, x.Col] (mget m [x.Row, x.Col])) [x.Row, x.Col] (mget m [x.Row, x.Col] + 1), ?_, srt_mput hS1, fun j y hj hy => ?_, fun c => ?_⟩
      · rw [hg0, inB_f.2 hb.2]
        obtain ⟨⟨h1, h2⟩, h3, h4⟩ := hb.1
        rw [decide_eq_true h1, decide_eq_true h2, decide_eq_true h3, decide_eq_true h4]; rfl
      · rcases Nat.lt_or_ge j i with h | h
        · exact hall j y h hy
        · obtain rfl : j = i := by omega
          rw [hx] at hy; cases hy; exact hb
      · have htk : l.take (i + 1) = l.take i ++ [x] := by rw [List.take_add_one, hx]; rfl
        by_cases hc : c = x
        · subst hc
          rw [mget_mput hS1, hg c, inB_f.2 hb.2, htk, inB_t.2 (by simp)]; rfl
        · have hne : [c.Row, c.Col] ≠ [x.Row, x.Col] := fun e => hc (cell_ext (by simpa using (List.cons.inj e).1) (by simpa using (List.cons.inj (List.cons.inj e).2).1))
          rw [mget_ne hS1 hne, mget_ne hS hne, hg c]
          have : inB (l.take (i + 1)) c = inB (l.take i) c := by
            rw [Bool.eq_iff_iff, inB_t, inB_t, htk, List.mem_append, List.mem_singleton]
            exact ⟨fun h => h.resolve_right hc, .inl⟩
          rw [this]
    · refine .inr ⟨.inl 30, ?_, rfl, fun hA => hb ⟨hA.1 x (List.mem_of_getElem? hx), nodup_iff_take.1 hA.2 i x hx⟩⟩
      rw [hg0]
      cases h4 : inB (l.take i) x with
      | true => rfl
      | false =>
        have hnot : ¬ InC s x := fun h => hb ⟨h, inB_f.1 h4⟩
        have hcb : cellB s x = false := by
          cases h5 : cellB s x with
          | false => rfl
          | true => exact absurd (cellB_t.1 h5) hnot
        unfold cellB at hcb
        cases h6 : (decide (0 ≤ x.Row) && decide (x.Row ≤ s.Length - 1)) with
        | false => rfl
        | true =>
          rw [h6] at hcb
          simp only [Bool.true_and] at hcb
          rw [hcb]; rfl
  · refine ⟨.inr (), by rw [F_lays_Check_s1, dlt]; simp, fun c hc => ?_, nodup_iff_take.2 fun i x hx => (hI.2.1 i x (List.getElem?_eq_some_iff.1 hx).1 hx).2⟩
    obtain ⟨i, hi⟩ := List.mem_iff_getElem?.1 hc
    exact (hI.2.1 i c (List.getElem?_eq_some_iff.1 hi).1 hi).1
theorem p_LCheck (hn : 1000000 ≤ n) (s : Lap) (hs : Small s) (h64 : ∀ c ∈ s.Faults ++ s.Flaws, In64 c.Row ∧ In64 c.Col) : ∃ v, F_lays_Check n s = some v ∧ (v = 0 ∨ v = 30) ∧ (v = 0 ↔ VL s) := by
  have bad : ¬ VL s → (∃ v, (some 30 : Option Int) = some v ∧ (v = 0 ∨ v = 30) ∧ (v = 0 ↔ VL s)) := fun h => ⟨30, rfl, .inr rfl, by simp; exact h⟩
  rw [F_lays_Check, p_lwithin, p_lwithin]
  simp only [Option.bind_some]
  by_cases hw : 1 ≤ s.Width ∧ s.Width ≤ 8
  · by_cases hl : 1 ≤ s.Length ∧ s.Length ≤ 12
    · rw [decide_eq_true hw.1, decide_eq_true hw.2, decide_eq_true hl.1, decide_eq_true hl.2]
      simp only [Bool.and_self, Bool.not_true, Bool.false_eq_true, if_false, Option.bind_some, Bool.false_or]
      by_cases h1 : s.Faults.length ≤ 20
      · by_cases h2 : s.Flaws.length ≤ 20
        · by_cases h3 : s.Panels.length ≤ 5
          · rw [decide_eq_false (show ¬ 20 < (s.Faults.length : Int) by omega), decide_eq_false (show ¬ 20 < (s.Flaws.length : Int) by omega), decide_eq_false (show ¬ 5 < (s.Panels.length : Int) by omega)]
            simp only [Bool.false_eq_true, if_false, Bool.or_self]
            rw [p_Concat hn _ _ (by omega) (by omega)]
            simp only [Option.bind_some]
            obtain ⟨r, hr, hp⟩ := p_known hn hl hw (s.Faults ++ s.Flaws) (by rw [List.length_append]; omega) h64
            rw [hr]
            cases r with
            | inl v =>
              simp only at hp
              simp only [Option.bind_some]
              rw [hp.1]
              exact bad fun h => hp.2 (are_app.1 ⟨h.fa, h.fl⟩).1
            | inr u =>
              simp only at hp
              simp only [Option.bind_some]
              obtain ⟨b, e, q⟩ := p_anyPanel hn s.Panels (by omega) hs.p
              rw [e]
              simp only [Option.bind_some]
              cases b with
              | true => exact bad fun h => by have := q.2 h.p; cases this
              | false =>
                have hA := are_app.2 ⟨hp, h1, h2⟩
                exact ⟨0, rfl, .inl rfl, iff_of_true rfl ⟨hw, hl, hA.1, hA.2, h3, q.1 rfl⟩⟩
          · rw [decide_eq_true (show 5 < (s.Panels.length : Int) by omega), Bool.or_true, if_pos rfl]
            exact bad fun h => h3 h.np
        · rw [decide_eq_true (show 20 < (s.Flaws.length : Int) by omega), Bool.or_true, Bool.true_or, if_pos rfl]
          exact bad fun h => h2 h.fl.2.2
      · rw [decide_eq_true (show 20 < (s.Faults.length : Int) by omega), Bool.true_or, Bool.true_or, if_pos rfl]
        exact bad fun h => h1 h.fa.2.2
    · refine ⟨30, ?_, .inr rfl, by simp; exact fun h => hl h.l⟩
      rw [decide_eq_true hw.1, decide_eq_true hw.2]
      by_cases h1 : 1 ≤ s.Length
      · rw [decide_eq_true h1, decide_eq_false (show ¬ s.Length ≤ 12 by omega)]; rfl
      · rw [decide_eq_false h1]; rfl
  · refine ⟨30, ?_, .inr rfl, by simp; exact fun h => hw h.w⟩
    by_cases h1 : 1 ≤ s.Width
    · rw [decide_eq_true h1, decide_eq_false (show ¬ s.Width ≤ 8 by omega)]; rfl
    · rw [decide_eq_false h1]; rfl
theorem VL.small {s : Lap} (h : VL s) : Small s := ⟨by have := h.fa.2.2; omega, by have := h.fl.2.2; omega, by have := h.np; omega, fun p hp => by have := (h.p p hp).n; omega⟩
theorem InC.in64 {s : Lap} (h : VL s) {c : Cell} (hc : InC s c) : In64 c.Row ∧ In64 c.Col := by
  have hl := h.l; have hw := h.w
  obtain ⟨h1, h2⟩ := hc
  exact ⟨⟨by omega, by omega⟩, ⟨by omega, by omega⟩⟩
theorem VL.in64 {s : Lap} (h : VL s) : ∀ c ∈ s.Faults ++ s.Flaws, In64 c.Row ∧ In64 c.Col := fun c hc => by
  rcases List.mem_append.1 hc with hc | hc
  · exact (h.fa.1 c hc).1.in64 h
  · exact (h.fl.1 c hc).1.in64 h
theorem p_LCheck0 (hn : 1000000 ≤ n) {s : Lap} (h : VL s) : F_lays_Check n s = some 0 := by
  obtain ⟨v, e, _, q⟩ := p_LCheck hn s h.small h.in64
  rw [e, q.2 h]
theorem p_Check0 (hn : 1000000 ≤ n) {s : Lap} (h : VL s) : F_ref03_Check n s = some 0 := by
  obtain ⟨v, e, _, q⟩ := p_Check hn s h.small
  rw [e, q.2 h]
/-- what a statement examines -/
structure VE (s : Lap) : Prop where
  v : VL s
  w : s.Width ≤ 5
  l : s.Length ≤ 6
  np : s.Panels.length ≤ 3
  nf : s.Flaws.length ≤ 3
theorem p_Far (hn : 1000000 ≤ n) (s : Lap) (hlp : s.Panels.length ≤ 9223372036854775807) : ∃ b, F_law03_Far n s = some b ∧ (b = false → Small s ∧ (VL s → VE s)) ∧ (VE s → b = false) := by
  rw [F_law03_Far]
  by_cases h1 : s.Faults.length ≤ 40
  · by_cases h2 : s.Flaws.length ≤ 40
    · by_cases h3 : s.Panels.length ≤ 20
      · rw [decide_eq_false (show ¬ 40 < (s.Faults.length : Int) by omega), decide_eq_false (show ¬ 40 < (s.Flaws.length : Int) by omega), decide_eq_false (show ¬ 20 < (s.Panels.length : Int) by omega)]
        simp only [Bool.or_self, Bool.false_eq_true, if_false]
        obtain ⟨r, hr, hp⟩ := loop_list (step := F_law03_Far_s1 n s) s.Panels (fun i (_ : Unit) => (i : Int)) (fun i _ => ∀ j x, j < i → s.Panels[j]? = some x → x.Rows.length ≤ 20)
          (fun r => match r with | .inl v => v = true ∧ ¬ ∀ p ∈ s.Panels, p.Rows.length ≤ 20 | .inr _ => ∀ p ∈ s.Panels, p.Rows.length ≤ 20) (n := n) () (by intro j x h; omega) (fun i x _ hx hI => by
            have hi := (List.getElem?_eq_some_iff.1 hx).1
            rw [F_law03_Far_s1, dlt, decide_eq_true hi, geti_nat, hx]
            simp only [if_true, Option.bind_some, w64_nat (show i ≤ 4611686018427387904 by omega)]
            by_cases hb : x.Rows.length ≤ 20
            · rw [decide_eq_false (show ¬ 20 < (x.Rows.length : Int) by omega)]
              refine .inl ⟨(), rfl, fun j y hj hy => ?_⟩
              rcases Nat.lt_or_ge j i with h | h
              · exact hI j y h hy
              · obtain rfl : j = i := by omega
                rw [hx] at hy; cases hy; exact hb
            · rw [decide_eq_true (show 20 < (x.Rows.length : Int) by omega)]
              exact .inr ⟨.inl true, rfl, rfl, fun h => hb (h x (List.mem_of_getElem? hx))⟩) (fun _ hI => by
            refine ⟨.inr (), by rw [F_law03_Far_s1, dlt]; simp, fun p hp => ?_⟩
            obtain ⟨j, hj⟩ := List.mem_iff_getElem?.1 hp
            exact hI j p (List.getElem?_eq_some_iff.1 hj).1 hj) (by omega)
        rw [show ((0 : Int)) = ((0 : Nat) : Int) from rfl, hr]
        cases r with
        | inl v =>
          refine ⟨v, rfl, fun h => ?_, fun h => ?_⟩
          · rw [hp.1] at h; cases h
          · exact absurd (fun p hp => h.v.small.p p hp) hp.2
        | inr u =>
          have hS : Small s := ⟨h1, h2, h3, hp⟩
          obtain ⟨v, e, hv, q⟩ := p_Check hn s hS
          refine ⟨(v == 0) && ((((decide (5 < s.Width)) || (decide (6 < s.Length))) || (decide (3 < (s.Panels.length : Int)))) || (decide (3 < (s.Flaws.length : Int)))), by rw [e]; rfl, fun h => ⟨hS, fun hV => ?_⟩, fun h => ?_⟩
          · rw [q.2 hV] at h
            simp only [beq_self_eq_true, Bool.true_and, Bool.or_eq_false_iff, decide_eq_false_iff_not] at h
            obtain ⟨⟨⟨k1, k2⟩, k3⟩, k4⟩ := h
            exact ⟨hV, by omega, by omega, by omega, by omega⟩
          · rw [q.2 h.v]
            have := h.w; have := h.l; have := h.np; have := h.nf
            rw [decide_eq_false (show ¬ 5 < s.Width by omega), decide_eq_false (show ¬ 6 < s.Length by omega), decide_eq_false (show ¬ 3 < (s.Panels.length : Int) by omega), decide_eq_false (show ¬ 3 < (s.Flaws.length : Int) by omega)]
            rfl
      · refine ⟨true, ?_, by simp, fun h => by have := h.np; omega⟩
        rw [decide_eq_true (show 20 < (s.Panels.length : Int) by omega), Bool.or_true, if_pos rfl]
    · refine ⟨true, ?_, by simp, fun h => by have := h.nf; omega⟩
      rw [decide_eq_true (show 40 < (s.Flaws.length : Int) by omega), Bool.or_true, Bool.true_or, if_pos rfl]
  · refine ⟨true, ?_, by simp, fun h => by have := h.v.small.fa; omega⟩
    rw [decide_eq_true (show 40 < (s.Faults.length : Int) by omega), Bool.true_or, Bool.true_or, if_pos rfl]
theorem p_Copy (hn : 1000000 ≤ n) (s : Lap) (hs : Small s) : F_ref03_Copy n s = some s := by
  rw [F_ref03_Copy]
  have h1 := hs.fa; have h2 := hs.fl; have h3 := hs.np
  simp only [List.nil_append, lim_ok (show s.Faults.length ≤ 4294967296 by omega), lim_ok (show s.Flaws.length ≤ 4294967296 by omega), Option.bind_some]
  have h := (loop_fold (step := F_ref03_Copy_s1 n s) s.Panels (fun i (z : List Panel) => ((i : Int), z)) (fun z p => z ++ [p]) (fun z => z) (fun i z => z.length = i) (n := n) ([] : List Panel) rfl (fun i x z hx hI => by
    have hi := (List.getElem?_eq_some_iff.1 hx).1
    have hx' := hs.p x (List.mem_of_getElem? hx)
    rw [F_ref03_Copy_s1, dlt, decide_eq_true hi, geti_nat, hx]
    simp only [if_true, Option.bind_some, List.nil_append, lim_ok (show x.Rows.length ≤ 4294967296 by omega), w64_nat (show i ≤ 4611686018427387904 by omega)]
    rw [lim_ok (by rw [List.length_append, hI]; simp; omega)]
    exact ⟨rfl, by simp [hI]⟩) (fun z hI => by rw [F_ref03_Copy_s1, dlt]; simp) (by omega)).1
  rw [show ((0 : Int), ([] : List Panel)) = (((0 : Nat) : Int), ([] : List Panel)) from rfl, h]
  have e : s.Panels.foldl (fun z p => z ++ [p]) [] = s.Panels := by
    have := foldl_append_map (fun p : Panel => p) s.Panels []
    simpa using this
  simp only [Option.bind_some]
  rw [e]
end
end Go.Proofs.Ytflhjlgimihmgaa
end
section
namespace Go.Proofs.Ytflhjlgimihmgaa
open Go Go.RowKit Go.Dec
theorem wrap16 {a : Nat} (h : a < 65536) : IntKind.u16.wrap (a : Int) = a := by
  have : IntKind.u16.wrap (a : Int) = (a : Int) % 65536 := rfl
  rw [this]; omega
theorem band_nat {a b : Nat} (ha : a < 65536) (hb : b < 65536) : band .u16 (a : Int) (b : Int) = ((a &&& b : Nat) : Int) := by
  have e : ∀ x : Nat, x < 65536 → (BitVec.ofInt IntKind.u16.bits (x : Int)).toNat = x := fun x hx => by
    show (BitVec.ofInt 16 (x : Int)).toNat = x
    rw [BitVec.toNat_ofInt]; omega
  unfold band
  rw [BitVec.toNat_and, e a ha, e b hb]
  exact wrap16 (Nat.lt_of_le_of_lt Nat.and_le_left ha)
theorem bor_nat {a b : Nat} (ha : a < 65536) (hb : b < 65536) : bor .u16 (a : Int) (b : Int) = ((a ||| b : Nat) : Int) := by
  have e : ∀ x : Nat, x < 65536 → (BitVec.ofInt IntKind.u16.bits (x : Int)).toNat = x := fun x hx => by
    show (BitVec.ofInt 16 (x : Int)).toNat = x
    rw [BitVec.toNat_ofInt]; omega
  unfold bor
  rw [BitVec.toNat_or, e a ha, e b hb]
  exact wrap16 (Nat.or_lt_two_pow (n := 16) ha hb)
theorem bshl1 : ∀ k, k < 9 → bshl .u16 1 (k : Nat) = ((2 ^ k : Nat) : Int) := by decide
/-- the columns from l to h -/
def cols (l h : Nat) : Nat := 2 ^ (h + 1) - 2 ^ l
theorem cols_eq : ∀ h, h < 8 → ∀ l, l < 9 → l ≤ h → IntKind.u16.wrap (((2 ^ (h + 1) : Nat) : Int) - ((2 ^ l : Nat) : Int)) = (cols l h : Nat) := by decide
theorem cols_bit' : ∀ h, h < 8 → ∀ l, l < 9 → l ≤ h → ∀ c, c < 8 → (cols l h).testBit c = (decide (l ≤ c) && decide (c ≤ h)) := by decide
theorem cols_lt : ∀ h, h < 8 → ∀ l, l < 9 → cols l h < 256 := by decide
theorem bit_hi {a c : Nat} (ha : a < 256) (hc : 8 ≤ c) : a.testBit c = false := Nat.testBit_lt_two_pow (Nat.lt_of_lt_of_le ha (Nat.pow_le_pow_right (n := 2) (by decide) (show 8 ≤ c from hc)))
theorem cols_bit {h l c : Nat} (hh : h < 8) (hl : l ≤ h) : (cols l h).testBit c = (decide (l ≤ c) && decide (c ≤ h)) := by
  rcases Nat.lt_or_ge c 8 with hc | hc
  · exact cols_bit' h hh l (by omega) hl c hc
  · rw [bit_hi (cols_lt h hh l (by omega)) hc, decide_eq_false (show ¬ c ≤ h by omega), Bool.and_false]
theorem bit_one : ∀ k, k < 8 → ∀ c, c < 8 → (2 ^ k : Nat).testBit c = decide (c = k) := by decide
structure TK (tk : List Int) : Prop where
  len : tk.length = 12
  v : ∀ x ∈ tk, ∃ a : Nat, x = a ∧ a < 256
def hasB (tk : List Int) (r c : Nat) : Bool := match tk[r]? with | some x => x.toNat.testBit c | none => false
theorem TK.at {tk : List Int} (h : TK tk) {r : Nat} (hr : r < 12) : ∃ a : Nat, tk[r]? = some (a : Int) ∧ a < 256 ∧ ∀ c, hasB tk r c = a.testBit c := by
  have hlt : r < tk.length := by rw [h.len]; exact hr
  obtain ⟨a, ha, hb⟩ := h.v _ (List.getElem_mem hlt)
  refine ⟨a, by rw [List.getElem?_eq_getElem hlt, ha], hb, fun c => ?_⟩
  unfold hasB
  rw [List.getElem?_eq_getElem hlt, ha]; rfl
theorem TK.set {tk : List Int} (h : TK tk) {r : Nat} {b : Nat} (hb : b < 256) : TK (setx tk (r : Int) (b : Int)) := by
  refine ⟨by rw [setx_len]; exact h.len, fun x hx => ?_⟩
  rcases List.mem_or_eq_of_mem_set hx with h1 | h1
  · exact h.v x h1
  · exact ⟨b, h1, hb⟩
theorem hasB_set {tk : List Int} (h : TK tk) {r : Nat} (hr : r < 12) {b : Nat} (r' c : Nat) : hasB (setx tk (r : Int) (b : Int)) r' c = if r' = r then b.testBit c else hasB tk r' c := by
  unfold hasB setx
  rw [Int.toNat_natCast, List.getElem?_set]
  by_cases e : r = r'
  · subst e
    rw [if_pos rfl, if_pos (by rw [h.len]; exact hr), if_pos rfl]; rfl
  · rw [if_neg e, if_neg (fun h => e h.symm)]
section
variable {n : Nat}
theorem p_cellsOf1 (hn : 1000000 ≤ n) (l : List Cell) (hl : l.length ≤ 100) (hc : ∀ c ∈ l, (0 ≤ c.Row ∧ c.Row < 12) ∧ 0 ≤ c.Col ∧ c.Col < 8) (tk : List Int) (hT : TK tk) :
    ∃ tk', loopO n (F_lays_cellsOf_s2 n l) (0, tk) = some tk' ∧ TK tk' ∧ ∀ r c, hasB tk' r c = true ↔ hasB tk r c = true ∨ ∃ x ∈ l, x.Row = (r : Nat) ∧ x.Col = (c : Nat) := by
  refine loop_list (step := F_lays_cellsOf_s2 n l) l (fun i (z : List Int) => ((i : Int), z)) (fun i z => TK z ∧ ∀ r c, hasB z r c = true ↔ hasB tk r c = true ∨ ∃ x ∈ l.take i, x.Row = (r : Nat) ∧ x.Col = (c : Nat))
    (fun z => TK z ∧ ∀ r c, hasB z r c = true ↔ hasB tk r c = true ∨ ∃ x ∈ l, x.Row = (r : Nat) ∧ x.Col = (c : Nat)) (n := n) tk ⟨hT, fun r c => by simp⟩ (fun i x z hx hI => .inl ?_) (fun z hI => ?_) (by omega)
  · have hi := (List.getElem?_eq_some_iff.1 hx).1
    obtain ⟨⟨h1, h2⟩, h3, h4⟩ := hc x (List.mem_of_getElem? hx)
    obtain ⟨R, hR⟩ : ∃ R : Nat, x.Row = R := ⟨x.Row.toNat, by omega⟩
    obtain ⟨C, hC⟩ : ∃ C : Nat, x.Col = C := ⟨x.Col.toNat, by omega⟩
    obtain ⟨a, ha, hb, hbit⟩ := hI.1.at (r := R) (by omega)
    have hn0 : nneg (C : Int) = some () := by unfold nneg; rw [if_neg (by omega)]
    have hlt : a ||| 2 ^ C < 256 := Nat.or_lt_two_pow (n := 8) hb (Nat.pow_lt_pow_right (by decide) (show C < 8 by omega))
    refine ⟨setx z (R : Int) ((a ||| 2 ^ C : Nat) : Int), ?_, hI.1.set hlt, fun r c => ?_⟩
    · rw [F_lays_cellsOf_s2, dlt, decide_eq_true hi, geti_nat, hx]
      simp only [if_true, Option.bind_some, hR, hC, geti_nat, ha, hn0, w64_nat (show i ≤ 4611686018427387904 by omega)]
      rw [bshl1 C (by omega), bor_nat (by omega) (Nat.lt_of_lt_of_le (Nat.pow_lt_pow_right (by decide) (show C < 8 by omega)) (by decide))]
    · have htk : l.take (i + 1) = l.take i ++ [x] := by rw [List.take_add_one, hx]; rfl
      rw [hasB_set hI.1 (by omega), htk]
      by_cases e : r = R
      · subst e
        rw [if_pos rfl, Nat.testBit_or, Bool.or_eq_true, ← hbit, hI.2]
        have hcc : (2 ^ C).testBit c = true ↔ c = C := by
          rcases Nat.lt_or_ge c 8 with h | h
          · rw [bit_one C (by omega) c h]; simp
          · rw [bit_hi (Nat.pow_lt_pow_right (by decide) (show C < 8 by omega)) h]; simp; omega
        rw [hcc]
        constructor
        · rintro ((h | ⟨y, hy, h⟩) | h)
          · exact .inl h
          · exact .inr ⟨y, List.mem_append_left _ hy, h⟩
          · exact .inr ⟨x, by simp, hR, by rw [hC, h]⟩
        · rintro (h | ⟨y, hy, h⟩)
          · exact .inl (.inl h)
          · rcases List.mem_append.1 hy with hy | hy
            · exact .inl (.inr ⟨y, hy, h⟩)
            · rw [List.mem_singleton.1 hy] at h
              exact .inr (by omega)
      · rw [if_neg e, hI.2]
        constructor
        · rintro (h | ⟨y, hy, h⟩)
          · exact .inl h
          · exact .inr ⟨y, List.mem_append_left _ hy, h⟩
        · rintro (h | ⟨y, hy, h⟩)
          · exact .inl h
          · rcases List.mem_append.1 hy with hy | hy
            · exact .inr ⟨y, hy, h⟩
            · rw [List.mem_singleton.1 hy] at h
              exact absurd (show r = R by omega) e
  · exact ⟨z, by rw [F_lays_cellsOf_s2, dlt]; simp, hI.1, fun r c => by rw [hI.2, List.take_length]⟩
theorem TK.zero : TK [0, 0, 0, 0, 0, 0, 0, 0, 0, 0, 0, 0] := ⟨rfl, fun x hx => ⟨0, by simpa using hx, by decide⟩⟩
theorem hasB_zero (r c : Nat) : hasB [0, 0, 0, 0, 0, 0, 0, 0, 0, 0, 0, 0] r c = false := by
  unfold hasB
  cases h : ([0, 0, 0, 0, 0, 0, 0, 0, 0, 0, 0, 0] : List Int)[r]? with
  | none => rfl
  | some x =>
    have : x = 0 := by have := List.mem_of_getElem? h; simpa using this
    subst this; simp
theorem p_cellsOf (hn : 1000000 ≤ n) (ls : List (List Cell)) (hls : ls.length ≤ 2) (hl : ∀ l ∈ ls, l.length ≤ 100) (hc : ∀ l ∈ ls, ∀ c ∈ l, (0 ≤ c.Row ∧ c.Row < 12) ∧ 0 ≤ c.Col ∧ c.Col < 8) :
    ∃ tk, F_lays_cellsOf n ls = some tk ∧ lenck 12 tk = some () ∧ TK tk ∧ ∀ r c, hasB tk r c = true ↔ ∃ l ∈ ls, ∃ x ∈ l, x.Row = (r : Nat) ∧ x.Col = (c : Nat) := by
  rw [F_lays_cellsOf]
  obtain ⟨tk, h, hT, hh⟩ := loop_list (step := F_lays_cellsOf_s1 n ls) ls (fun i (z : List Int) => ((i : Int), z)) (fun i z => TK z ∧ ∀ r c, hasB z r c = true ↔ ∃ l ∈ ls.take i, ∃ x ∈ l, x.Row = (r : Nat) ∧ x.Col = (c : Nat))
    (fun z => TK z ∧ ∀ r c, hasB z r c = true ↔ ∃ l ∈ ls, ∃ x ∈ l, x.Row = (r : Nat) ∧ x.Col = (c : Nat)) (n := n) [0, 0, 0, 0, 0, 0, 0, 0, 0, 0, 0, 0] ⟨TK.zero, fun r c => by rw [hasB_zero]; simp⟩ (fun i x z hx hI => .inl (by
      have hi := (List.getElem?_eq_some_iff.1 hx).1
      have hm := List.mem_of_getElem? hx
      obtain ⟨z', e, hT', hh'⟩ := p_cellsOf1 hn x (hl x hm) (hc x hm) z hI.1
      refine ⟨z', ?_, hT', fun r c => ?_⟩
      · rw [F_lays_cellsOf_s1, dlt, decide_eq_true hi, geti_nat, hx]
        simp only [if_true, Option.bind_some, e, w64_nat (show i ≤ 4611686018427387904 by omega)]
      · have htk : ls.take (i + 1) = ls.take i ++ [x] := by rw [List.take_add_one, hx]; rfl
        rw [hh', hI.2, htk]
        constructor
        · rintro (⟨l, hl', h⟩ | h)
          · exact ⟨l, List.mem_append_left _ hl', h⟩
          · exact ⟨x, by simp, h⟩
        · rintro ⟨l, hl', h⟩
          rcases List.mem_append.1 hl' with hl' | hl'
          · exact .inl ⟨l, hl', h⟩
          · rw [List.mem_singleton.1 hl'] at h; exact .inr h)) (fun z hI => ⟨z, by rw [F_lays_cellsOf_s1, dlt]; simp, hI.1, fun r c => by rw [hI.2, List.take_length]⟩) (by omega)
  rw [show ((0 : Int), ([0, 0, 0, 0, 0, 0, 0, 0, 0, 0, 0, 0] : List Int)) = (((0 : Nat) : Int), [0, 0, 0, 0, 0, 0, 0, 0, 0, 0, 0, 0]) from rfl, h]
  exact ⟨tk, rfl, by unfold lenck; rw [if_pos hT.len], hT, hh⟩
def wide (p : Panel) : Int := p.Rows.foldl (fun w s => max w s.High) 0
def rowsT (p : Panel) (t : Int) : List Span := if t = 0 then p.Rows else p.Rows.reverse.map fun s => ⟨wide p - s.High, wide p - s.Low⟩
theorem wide_foldl (l : List Span) : ∀ w : Int, (w ≤ l.foldl (fun w s => max w s.High) w) ∧ (∀ s ∈ l, s.High ≤ l.foldl (fun w s => max w s.High) w) ∧ (l.foldl (fun w s => max w s.High) w = w ∨ ∃ s ∈ l, s.High = l.foldl (fun w s => max w s.High) w) := by
  induction l with
  | nil => intro w; simp
  | cons a l ih =>
    intro w
    rw [List.foldl_cons]
    obtain ⟨h1, h2, h3⟩ := ih (max w a.High)
    refine ⟨by omega, fun s hs => ?_, ?_⟩
    · rcases List.mem_cons.1 hs with rfl | hs
      · omega
      · exact h2 s hs
    · rcases h3 with h | ⟨s, hs, h⟩
      · rcases Int.le_total w a.High with hw | hw
        · exact .inr ⟨a, by simp, by omega⟩
        · exact .inl (by omega)
      · exact .inr ⟨s, List.mem_cons_of_mem _ hs, h⟩
theorem VPn.wide {p : Panel} (h : VPn p) : (0 ≤ wide p ∧ wide p ≤ 7) ∧ (∀ s ∈ p.Rows, s.High ≤ wide p) ∧ ∃ s ∈ p.Rows, s.High = wide p := by
  obtain ⟨h1, h2, h3⟩ := wide_foldl p.Rows 0
  refine ⟨⟨h1, ?_⟩, h2, ?_⟩
  · rcases h3 with e | ⟨s, hs, e⟩
    · show p.Rows.foldl (fun w s => max w s.High) 0 ≤ 7; omega
    · have := h.r s hs; show p.Rows.foldl (fun w s => max w s.High) 0 ≤ 7; omega
  · rcases h3 with e | h3
    · obtain ⟨s, hs, _⟩ := h.z
      refine ⟨s, hs, ?_⟩
      have h5 := h2 s hs
      have := h.r s hs
      show s.High = p.Rows.foldl (fun w s => max w s.High) 0
      omega
    · exact h3
theorem VPn.turn {p : Panel} (h : VPn p) (t : Int) : VPn ⟨rowsT p t⟩ := by
  unfold rowsT
  split
  · exact h
  · obtain ⟨⟨w0, w7⟩, hw, s1, hs1, e1⟩ := h.wide
    refine ⟨by simpa using h.n, fun s hs => ?_, ⟨_, List.mem_map.2 ⟨s1, List.mem_reverse.2 hs1, rfl⟩, by simp only; omega⟩⟩
    obtain ⟨s', hs', rfl⟩ := List.mem_map.1 hs
    have hs' := List.mem_reverse.1 hs'
    have := h.r s' hs'
    have := hw s' hs'
    exact ⟨by simp only; omega, by simp only; omega, by simp only; omega⟩
theorem back_run {σ ρ : Type} {l : List Span} {cs : σ → Int × Span → Option (σ ⊕ ρ)} (g : σ → Span → σ) (I : Nat → σ → Prop) (hl : l.length ≤ 1000) (h : ∀ i x s, l[i]? = some x → I (i + 1) s → cs s ((i : Int), x) = some (.inl (g s x)) ∧ I i (g s x)) :
    ∀ (k : Nat) (s : σ) (n : Nat), k ≤ l.length → I k s → k < n → loopO n (I_slices_Backward___api_Span_api_Span__1_s l cs) ((k : Int) - 1, s) = some (.inl ((l.take k).reverse.foldl g s)) := by
  intro k
  induction k with
  | zero =>
    intro s n _ _ hn
    refine loop_done ?_ hn
    rw [I_slices_Backward___api_Span_api_Span__1_s, if_neg (by simp)]; simp
  | succ k ih =>
    intro s n hk hI hn
    obtain ⟨m, rfl⟩ : ∃ k, n = k + 1 := ⟨n - 1, by omega⟩
    have hlt : k < l.length := by omega
    obtain ⟨h1, h2⟩ := h k l[k] s (List.getElem?_eq_getElem hlt) hI
    have e0 : ((k + 1 : Nat) : Int) - 1 = (k : Int) := by omega
    rw [loopO_succ, e0, I_slices_Backward___api_Span_api_Span__1_s, if_pos (by simp), geti_nat, List.getElem?_eq_getElem hlt]
    simp only [Option.bind_some, h1]
    rw [w64_id (by omega) (by omega), ih _ m (by omega) h2 (by omega), List.take_succ_eq_append_getElem hlt]
    simp only [List.reverse_append, List.reverse_cons, List.reverse_nil, List.nil_append, List.cons_append, List.foldl_cons]
theorem p_rows (hn : 1000000 ≤ n) {p : Panel} (h : VPn p) (t : Int) : F_lays_rows n p t = some (rowsT p t) := by
  rw [F_lays_rows, rowsT]
  by_cases ht : t = 0
  · rw [if_pos (by simpa using ht), if_pos ht]
  · rw [if_neg (by simpa using ht), if_neg ht]
    have hl := h.n
    have h1 := (loop_fold (step := F_lays_rows_s1 n p) p.Rows (fun i (z : Int) => ((i : Int), z)) (fun z s => max z s.High) (fun z => z) (fun _ _ => True) (n := n) 0 trivial (fun i x z hx _ => by
      have hi := (List.getElem?_eq_some_iff.1 hx).1
      refine ⟨?_, trivial⟩
      rw [F_lays_rows_s1, dlt, decide_eq_true hi, geti_nat, hx]
      simp only [if_true, Option.bind_some, w64_nat (show i ≤ 4611686018427387904 by omega)]) (fun z _ => by rw [F_lays_rows_s1, dlt]; simp) (by omega)).1
    rw [show ((0 : Int), (0 : Int)) = (((0 : Nat) : Int), (0 : Int)) from rfl, h1]
    simp only [Option.bind_some, F_slices_Backward___api_Span_api_Span_, I_slices_Backward___api_Span_api_Span__1]
    obtain ⟨⟨w0, w7⟩, hw, _⟩ := h.wide
    have h2 := back_run (l := p.Rows) (cs := F_lays_rows_s2 n (wide p)) (fun z s => z ++ [(⟨wide p - s.High, wide p - s.Low⟩ : Span)]) (fun k z => z.length + k = p.Rows.length) (by omega) (fun i x z hx hI => by
      have hx' := h.r x (List.mem_of_getElem? hx)
      have := hw x (List.mem_of_getElem? hx)
      rw [F_lays_rows_s2]
      dsimp only
      rw [w64_id (by omega) (by omega), w64_id (by omega) (by omega), lim_ok (by rw [List.length_append]; simp; omega)]
      exact ⟨rfl, by rw [List.length_append]; simp; omega⟩) p.Rows.length [] n (Nat.le_refl _) (by simp) (by omega)
    rw [w64_id (by omega) (by omega)]
    rw [show p.Rows.foldl (fun z s => max z s.High) 0 = wide p from rfl, h2, List.take_length]
    simp only [Option.bind_some]
    rw [foldl_append_map (fun s : Span => (⟨wide p - s.High, wide p - s.Low⟩ : Span))]
    simp
def cov (rs : List Span) (pl : Place) (r c : Int) : Prop := ∃ (k : Nat) (s : Span), rs[k]? = some s ∧ r = pl.Row + k ∧ pl.Col + s.Low ≤ c ∧ c ≤ pl.Col + s.High
def badT (tk : List Int) (r c : Int) : Prop := 0 ≤ r ∧ 0 ≤ c ∧ hasB tk r.toNat c.toNat = true
def PlOK (pl : Place) : Prop := 0 ≤ pl.Row ∧ 0 ≤ pl.Col ∧ (pl.Turned = 0 ∨ pl.Turned = 1)
def Fits (W n : Int) (bad : Int → Int → Prop) (rs : List Span) (pl : Place) : Prop := ∀ r c, cov rs pl r c → r < n ∧ c < W ∧ ¬ bad r c
theorem p_put (hn : 1000000 ≤ n) {c : Lap} (hv : VL c) {m : Int} (hm : 0 ≤ m ∧ m ≤ 12) {tk : List Int} (hT : TK tk) (lay : List Place) (hlay : lay.length ≤ 100) {i : Nat} {p : Panel} (hp : c.Panels[i]? = some p) {pl : Place} (hpl : PlOK pl) (hpb : pl.Row ≤ 12 ∧ pl.Col ≤ 12) :
    ∃ y, F_lays_cloth_put n c m tk lay (i : Int) pl = some y ∧ ((y.1 = true ∧ Fits c.Width m (badT tk) (rowsT p pl.Turned) pl ∧ TK y.2.1 ∧ y.2.2 = lay ++ [pl] ∧ ∀ r c, badT y.2.1 r c ↔ badT tk r c ∨ cov (rowsT p pl.Turned) pl r c) ∨ (y.1 = false ∧ ¬ Fits c.Width m (badT tk) (rowsT p pl.Turned) pl)) := by
  have hvp := hv.p p (List.mem_of_getElem? hp)
  have hR := hvp.turn pl.Turned
  obtain ⟨hr0, hc0, _⟩ := hpl
  have hW := hv.w
  rw [F_lays_cloth_put, geti_nat, hp]
  simp only [Option.bind_some, p_rows hn hvp]
  generalize hrs : rowsT p pl.Turned = rs at hR
  obtain ⟨hRn, hRr, hRz⟩ := hR
  simp only at hRn hRr hRz
  obtain ⟨R, hRow⟩ : ∃ R : Nat, pl.Row = R := ⟨pl.Row.toNat, by omega⟩
  obtain ⟨C, hCol⟩ : ∃ C : Nat, pl.Col = C := ⟨pl.Col.toNat, by omega⟩
  obtain ⟨r, hr, hpost⟩ := loop_list (step := F_lays_cloth_put_s1 n c m tk lay pl rs) rs (fun i (z : List Int) => ((i : Int), z))
    (fun i z => TK z ∧ (∀ a b : Nat, hasB z a b = true ↔ hasB tk a b = true ∨ ∃ (k : Nat) (s : Span), k < i ∧ rs[k]? = some s ∧ a = R + k ∧ C + s.Low ≤ b ∧ b ≤ C + s.High) ∧ ∀ (k : Nat) (s : Span), k < i → rs[k]? = some s → ∀ x : Int, pl.Col + s.Low ≤ x → x ≤ pl.Col + s.High → pl.Row + k < m ∧ x < c.Width ∧ ¬ badT tk (pl.Row + k) x)
    (fun r => match r with | .inl y => y = (false, tk, lay) ∧ ¬ Fits c.Width m (badT tk) rs pl | .inr z => TK z ∧ (∀ a b : Nat, hasB z a b = true ↔ hasB tk a b = true ∨ ∃ (k : Nat) (s : Span), rs[k]? = some s ∧ a = R + k ∧ C + s.Low ≤ b ∧ b ≤ C + s.High) ∧ Fits c.Width m (badT tk) rs pl) (n := n) tk
    ⟨hT, fun a b => ⟨.inl, fun h => h.resolve_right fun ⟨k, s, h1, _⟩ => by omega⟩, fun k s h => by omega⟩ (fun i x z hx hI => by
      have hi := (List.getElem?_eq_some_iff.1 hx).1
      obtain ⟨x0, x1, x2⟩ := hRr x (List.mem_of_getElem? hx)
      obtain ⟨hTz, hz, hfit⟩ := hI
      obtain ⟨L, hL⟩ : ∃ L : Nat, x.Low = L := ⟨x.Low.toNat, by omega⟩
      obtain ⟨U, hU⟩ : ∃ U : Nat, x.High = U := ⟨x.High.toNat, by omega⟩
      have covx : ∀ b : Int, pl.Col + x.Low ≤ b → b ≤ pl.Col + x.High → cov rs pl (pl.Row + i) b := fun b h1 h2 => ⟨i, x, hx, rfl, h1, h2⟩
      rw [F_lays_cloth_put_s1, dlt, decide_eq_true hi, geti_nat, hx]
      simp only [if_true, Option.bind_some, w64_nat (show i ≤ 4611686018427387904 by omega)]
      rw [w64_id (show -9223372036854775808 ≤ pl.Row + (i : Int) by omega) (by omega), w64_id (show -9223372036854775808 ≤ pl.Col + x.High by omega) (by omega)]
      by_cases ho : m ≤ pl.Row + i ∨ c.Width ≤ pl.Col + x.High
      · refine .inr ⟨.inl (false, tk, lay), ?_, rfl, fun hF => ?_⟩
        · rcases ho with h | h
          · rw [decide_eq_true h]; rfl
          · rw [decide_eq_true h, Bool.or_true]; rfl
        · have := hF _ _ (covx (pl.Col + x.High) (by omega) (by omega)); omega
      · rw [decide_eq_false (show ¬ m ≤ pl.Row + i by omega), decide_eq_false (show ¬ c.Width ≤ pl.Col + x.High by omega)]
        simp only [Bool.or_self, Bool.false_eq_true, if_false]
        rw [w64_id (show -9223372036854775808 ≤ pl.Col + x.High + 1 by omega) (by omega), w64_id (show -9223372036854775808 ≤ pl.Col + x.Low by omega) (by omega)]
        have e1 : pl.Col + x.High + 1 = ((C + U + 1 : Nat) : Int) := by omega
        have e2 : pl.Col + x.Low = ((C + L : Nat) : Int) := by omega
        have e3 : pl.Row + (i : Int) = ((R + i : Nat) : Int) := by omega
        have n1 : nneg (pl.Col + x.High + 1) = some () := by unfold nneg; rw [if_neg (by omega)]
        have n2 : nneg (pl.Col + x.Low) = some () := by unfold nneg; rw [if_neg (by omega)]
        obtain ⟨a, ha, hab, hbit⟩ := hTz.at (r := R + i) (by omega)
        have hCU : C + U < 8 := by omega
        have hwr : IntKind.u16.wrap (bshl .u16 1 (pl.Col + x.High + 1) - bshl .u16 1 (pl.Col + x.Low)) = (cols (C + L) (C + U) : Nat) := by
          rw [e1, e2, bshl1 _ (by omega), bshl1 _ (by omega)]
          exact cols_eq (C + U) hCU (C + L) (by omega) (by omega)
        have hcl := cols_lt (C + U) hCU (C + L) (by omega)
        rw [n1, n2, hwr]
        simp only [Option.bind_some]
        rw [e3, geti_nat, ha]
        simp only [Option.bind_some]
        rw [band_nat (by omega) (by omega), bor_nat (by omega) (by omega)]
        have hzi : ∀ b : Nat, hasB z (R + i) b = hasB tk (R + i) b := fun b => by
          rw [Bool.eq_iff_iff, hz]
          exact ⟨fun h => h.resolve_right fun ⟨k, s, h1, h2, h3, _⟩ => by omega, .inl⟩
        by_cases hov : a &&& cols (C + L) (C + U) = 0
        · rw [hov]
          refine .inl ⟨setx z ((R + i : Nat) : Int) ((a ||| cols (C + L) (C + U) : Nat) : Int), rfl, hTz.set (Nat.or_lt_two_pow (n := 8) hab hcl), fun a' b => ?_, fun k s hk hs b h1 h2 => ?_⟩
          · rw [hasB_set hTz (by omega)]
            by_cases e : a' = R + i
            · subst e
              rw [if_pos rfl, Nat.testBit_or, ← hbit, Bool.or_eq_true, hz, cols_bit hCU (by omega), Bool.and_eq_true, decide_eq_true_iff, decide_eq_true_iff]
              constructor
              · rintro ((h | ⟨k, s, h1, h2, h3, h4⟩) | h)
                · exact .inl h
                · exact .inr ⟨k, s, by omega, h2, h3, h4⟩
                · exact .inr ⟨i, x, by omega, hx, rfl, by omega, by omega⟩
              · rintro (h | ⟨k, s, h1, h2, h3, h4, h5⟩)
                · exact .inl (.inl h)
                · obtain rfl : k = i := by omega
                  rw [hx] at h2; cases h2
                  exact .inr (by omega)
            · rw [if_neg e, hz]
              constructor
              · rintro (h | ⟨k, s, h1, h2, h3, h4⟩)
                · exact .inl h
                · exact .inr ⟨k, s, by omega, h2, h3, h4⟩
              · rintro (h | ⟨k, s, h1, h2, h3, h4, h5⟩)
                · exact .inl h
                · exact .inr ⟨k, s, by omega, h2, h3, h4, h5⟩
          · rcases Nat.lt_or_ge k i with hki | hki
            · exact hfit k s hki hs b h1 h2
            · obtain rfl : k = i := by omega
              rw [hx] at hs; cases hs
              refine ⟨by omega, by omega, fun hbad => ?_⟩
              have hb := hbad.2.2
              rw [show (pl.Row + (k : Int)).toNat = R + k by omega, ← hzi, hbit] at hb
              have hand : (a &&& cols (C + L) (C + U)).testBit b.toNat = true := by
                rw [Nat.testBit_and, hb, cols_bit hCU (by omega), decide_eq_true (show C + L ≤ b.toNat by omega), decide_eq_true (show b.toNat ≤ C + U by omega)]; rfl
              rw [hov] at hand; simp at hand
        · refine .inr ⟨.inl (false, tk, lay), ?_, rfl, fun hF => ?_⟩
          · rw [if_pos (by simpa using hov)]
          · obtain ⟨b, hb⟩ := Nat.exists_testBit_of_ne_zero hov
            rw [Nat.testBit_and, Bool.and_eq_true, cols_bit hCU (by omega), Bool.and_eq_true, decide_eq_true_iff, decide_eq_true_iff] at hb
            have h5 := (hF _ _ (covx (b : Int) (by omega) (by omega))).2.2
            exact h5 ⟨by omega, by omega, by rw [show (pl.Row + (i : Int)).toNat = R + i by omega, ← hzi, hbit]; exact hb.1⟩) (fun z hI => by
      refine ⟨.inr z, by rw [F_lays_cloth_put_s1, dlt]; simp, hI.1, fun a b => ?_, ?_⟩
      · rw [hI.2.1]
        constructor
        · rintro (h | ⟨k, s, _, h⟩)
          · exact .inl h
          · exact .inr ⟨k, s, h⟩
        · rintro (h | ⟨k, s, h1, h2⟩)
          · exact .inl h
          · exact .inr ⟨k, s, (List.getElem?_eq_some_iff.1 h1).1, h1, h2⟩
      · rintro r x ⟨k, s, h1, rfl, h2, h3⟩
        exact hI.2.2 k s (List.getElem?_eq_some_iff.1 h1).1 h1 x h2 h3) (by omega)
  rw [show ((0 : Int), tk) = (((0 : Nat) : Int), tk) from rfl, hr]
  cases r with
  | inl y => exact ⟨y, rfl, .inr ⟨by rw [hpost.1], hpost.2⟩⟩
  | inr z =>
    obtain ⟨h1, h2, h3⟩ := hpost
    refine ⟨(true, z, lay ++ [pl]), by simp only [Option.bind_some]; rw [lim_ok (by rw [List.length_append]; simp; omega)]; rfl, .inl ⟨rfl, h3, h1, rfl, fun r x => ?_⟩⟩
    constructor
    · rintro ⟨k1, k2, k3⟩
      rcases (h2 _ _).1 k3 with h | ⟨k, s, g1, g2, g3, g4⟩
      · exact .inl ⟨k1, k2, h⟩
      · exact .inr ⟨k, s, g1, by omega, by omega, by omega⟩
    · rintro (⟨k1, k2, k3⟩ | ⟨k, s, g1, g2, g3, g4⟩)
      · exact ⟨k1, k2, (h2 _ _).2 (.inl k3)⟩
      · have := hRr s (List.mem_of_getElem? g1)
        exact ⟨by omega, by omega, (h2 _ _).2 (.inr ⟨k, s, g1, by omega, by omega, by omega⟩)⟩
end
end Go.Proofs.Ytflhjlgimihmgaa
end
