/-
  A part of the proof of MiMirror: the texts MiGenK0, MiGenK1.
-/
import Derived.Test.YtflhjlgimihmgaaJMiMirror2
section
set_option maxRecDepth 100000
set_option maxHeartbeats 40000000
namespace Go.Proofs.Ytflhjlgimihmgaa
open Go Go.RowKit Go.Dec
set_option linter.unusedVariables false
-- 70 ferrule/ferruleref01.Within
def F_ref01_Within (n : Nat) (n_ : Int) (low : Int) (high : Int) : Option Bool :=
 some ((decide (low ≤ n_)) && (decide (n_ ≤ high)))
theorem c_ref01_Within (n : Nat) (H : Hp) (n_ : Int) (low : Int) (high : Int) (y : Bool) (hF : F_ref01_Within n n_ low high = some y) : SC Try.prog 70 [.int .i64 n_, .int .i64 low, .int .i64 high] (.bool y) H := by
 rw [F_ref01_Within] at hF
 refine SC.of (N := 15) Try.func70 rfl rfl rfl fun w => ?_
 refine JC.seq (JC.region (by rfl) ?_)
 intro hQ
 refine JL.assign .none rfl ?_
 refine JL.done hQ (JQ.go (JC.seq (JC.region (by rfl) ?_)))
 intro hQ
 refine JL.move .none rfl ?_
 refine JL.move .none rfl ?_
 refine JL.bin rfl rfl rfl .none rfl ?_
 refine JL.move .none rfl ?_
 refine JL.cut 4 (fun f => f 14 = .bool ((decide (low ≤ n_)) && (decide (n_ ≤ high)))) ?_ ?_
 ·intro hJ1
  rcases bcases (decide (low ≤ n_)) with hc2 | hc2
  ·skip
   refine JL.move (.some rfl rfl rfl hc2) rfl ?_
   refine JL.move (.some rfl rfl rfl hc2) rfl ?_
   refine JL.bin rfl rfl rfl (.some rfl rfl rfl hc2) rfl ?_
   refine JL.pick_t (b := decide (low ≤ n_)) rfl hc2 .none rfl ?_
   exact hJ1 _ (and_t hc2 rfl)
  ·skip
   refine JL.skip (.bool rfl rfl rfl hc2) rfl ?_
   refine JL.skip (.bool rfl rfl rfl hc2) rfl ?_
   refine JL.skip (.bool rfl rfl rfl hc2) rfl ?_
   refine JL.pick_f (b := decide (low ≤ n_)) rfl hc2 .none rfl ?_
   exact hJ1 _ (and_f hc2 rfl)
 ·rintro f hf14
  refine (JL.norm (i := 14) hf14 ?_)
  refine JL.assign .none rfl ?_
  refine JL.done hQ (JQ.go (JC.ret ?_))
  obtain rfl := Option.some.inj hF
  exact JQ.outS rfl (.tmp .nil) rfl
-- 51 ferrule/ferruleref03.within
def F_ref03_within (n : Nat) (n_ : Int) (low : Int) (high : Int) : Option Bool :=
 (F_ref01_Within n n_ low high).bind fun y1 => some y1
theorem c_ref03_within (n : Nat) (H : Hp) (n_ : Int) (low : Int) (high : Int) (y : Bool) (hF : F_ref03_within n n_ low high = some y) : SC Try.prog 51 [.int .i64 n_, .int .i64 low, .int .i64 high] (.bool y) H := by
 rw [F_ref03_within] at hF
 refine SC.of (N := 11) Try.func51 rfl rfl rfl fun w => ?_
 refine JC.seq (JC.region (by rfl) ?_)
 intro hQ
 refine JL.assign .none rfl ?_
 refine JL.done hQ (JQ.go (JC.seq (JC.region (by rfl) ?_)))
 intro hQ
 refine JL.move .none rfl ?_
 refine JL.move .none rfl ?_
 refine JL.move .none rfl ?_
 obtain ⟨y1, hy1, hF⟩ := bind_some hF
 refine JL.callS (c_ref01_Within n H n_ low high y1 hy1) rfl en_70 .none rfl ?_
 refine JL.assign .none rfl ?_
 refine JL.done hQ (JQ.go (JC.ret ?_))
 obtain rfl := Option.some.inj hF
 exact JQ.outS rfl (.tmp .nil) rfl
-- 52 ferrule/ferruleref03.IsCell
def F_ref03_IsCell (n : Nat) (s : Lap) (c : Cell) : Option Bool :=
 (F_ref03_within n c.Row 0 (w64 (s.Length - 1))).bind fun y3 => (if y3 = true then ((F_ref03_within n c.Col 0 (w64 (s.Width - 1))).bind fun y8 => some y8) else (some false) : Option Bool).bind fun p5 => some p5
theorem c_ref03_IsCell (n : Nat) (H : Hp) (s : Lap) (s_v2 : Value) (hs_2 : SL H 2 R_Cell s_v2 s.Faults) (s_v3 : Value) (hs_3 : SL H 2 R_Cell s_v3 s.Flaws) (s_v4 : Value) (hs_4 : SL H 1 R_Panel s_v4 s.Panels) (c : Cell) (y : Bool) (hF : F_ref03_IsCell n s c = some y) : SC Try.prog 52 [.agg [.int .i64 s.Width, .int .i64 s.Length, s_v2, s_v3, s_v4].toArray, .agg [.int .i64 c.Row, .int .i64 c.Col].toArray] (.bool y) H := by
 rw [F_ref03_IsCell] at hF
 refine SC.of (N := 19) Try.func52 rfl rfl rfl fun w => ?_
 refine JC.seq (JC.region (by rfl) ?_)
 intro hQ
 refine JL.box (cs := [.int .i64 s.Width, .int .i64 s.Length, s_v2, s_v3, s_v4]) rfl .none rfl ?_
 intro b1
 refine JL.box (cs := [.int .i64 c.Row, .int .i64 c.Col]) rfl .none rfl ?_
 intro b2
 refine JL.assign .none rfl ?_
 refine JL.done hQ (JQ.go (JC.seq (JC.region (by rfl) ?_)))
 intro hQ
 refine JL.fieldAddr fo_27_0 rfl .none rfl ?_
 refine JL.loadOwn 0 az_3 rfl rfl rfl .none rfl ?_
 refine JL.fieldAddr fo_25_1 rfl .none rfl ?_
 refine JL.loadOwn 1 az_3 rfl rfl rfl .none rfl ?_
 refine JL.bin rfl rfl rfl .none rfl ?_
 obtain ⟨y3, hy3, hF⟩ := bind_some hF
 refine JL.callS (c_ref03_within n H c.Row 0 (w64 (s.Length - 1)) y3 hy3) rfl en_51 .none rfl ?_
 refine JL.move .none rfl ?_
 obtain ⟨p5, hp5, hF⟩ := bind_some hF
 refine JL.cut 7 (fun f => f 18 = .bool p5) ?_ ?_
 ·intro hJ6
  rcases ite_some hp5 with ⟨hc7, hF⟩ | ⟨hc7, hF⟩
  ·skip
   refine JL.fieldAddr fo_27_1 rfl (.some rfl rfl rfl hc7) rfl ?_
   refine JL.loadOwn 0 az_3 rfl rfl rfl (.some rfl rfl rfl hc7) rfl ?_
   refine JL.fieldAddr fo_25_0 rfl (.some rfl rfl rfl hc7) rfl ?_
   refine JL.loadOwn 1 az_3 rfl rfl rfl (.some rfl rfl rfl hc7) rfl ?_
   refine JL.bin rfl rfl rfl (.some rfl rfl rfl hc7) rfl ?_
   obtain ⟨y8, hy8, hF⟩ := bind_some hF
   refine JL.callS (c_ref03_within n H c.Col 0 (w64 (s.Width - 1)) y8 hy8) rfl en_51 (.some rfl rfl rfl hc7) rfl ?_
   refine JL.pick_t (b := y3) rfl hc7 .none rfl ?_
   obtain rfl := Option.some.inj hF
   exact hJ6 _ (rfl)
  ·skip
   refine JL.skip (.bool rfl rfl rfl hc7) rfl ?_
   refine JL.skip (.bool rfl rfl rfl hc7) rfl ?_
   refine JL.skip (.bool rfl rfl rfl hc7) rfl ?_
   refine JL.skip (.bool rfl rfl rfl hc7) rfl ?_
   refine JL.skip (.bool rfl rfl rfl hc7) rfl ?_
   refine JL.skip (.bool rfl rfl rfl hc7) rfl ?_
   refine JL.pick_f (b := y3) rfl hc7 .none rfl ?_
   obtain rfl := Option.some.inj hF
   exact hJ6 _ (rfl)
 ·rintro f hf18
  refine (JL.norm (i := 18) hf18 ?_)
  refine JL.assign .none rfl ?_
  refine JL.done hQ (JQ.go (JC.ret ?_))
  obtain rfl := Option.some.inj hF
  exact JQ.outS rfl (.tmp .nil) rfl
-- 53 ferrule/ferruleref03.In
def F_ref03_In_s1 (n : Nat) (l : List Cell) (c : Cell) : Int → Option (Int ⊕ (Bool ⊕ Unit))
 | i_76 => if decide (i_76 < (l.length : Int)) = true then ((geti l i_76).bind fun y86 => if ((y86.Row == c.Row) && (y86.Col == c.Col)) = true then (some (Sum.inr (Sum.inl true))) else (some (Sum.inl (w64 (i_76 + 1))))) else (some (Sum.inr (Sum.inr ())))
def F_ref03_In (n : Nat) (l : List Cell) (c : Cell) : Option Bool :=
 (loopO n (F_ref03_In_s1 n l c) 0).bind fun r47 => match r47 with | .inl o => some o | .inr _ => some false
theorem c_ref03_In (n : Nat) (H : Hp) (l : List Cell) (l_v0 : Value) (hl_0 : SL H 2 R_Cell l_v0 l) (c : Cell) (y : Bool) (hF : F_ref03_In n l c = some y) : SC Try.prog 53 [l_v0, .agg [.int .i64 c.Row, .int .i64 c.Col].toArray] (.bool y) H := by
 rw [F_ref03_In] at hF
 refine SC.of (N := 18) Try.func53 rfl rfl rfl fun w => ?_
 refine JC.seq (JC.region (by rfl) ?_)
 intro hQ
 refine JL.box (cs := [.int .i64 c.Row, .int .i64 c.Col]) rfl .none rfl ?_
 intro b1
 refine JL.assign .none rfl ?_
 refine JL.done hQ (JQ.go (JC.seq (JC.seq (JC.region (by rfl) ?_))))
 intro hQ
 refine JL.assign .none rfl ?_
 refine JL.done hQ (JQ.go ?_)
 obtain ⟨r47, hlr47, hKr47⟩ := bind_some hF
 refine JC.join (fun (_ : Unit) H46 f bs gs => bs = [] ∧ gs = [] ∧ HSub H H46 ∧ Sum.inr () = r47) ?_ ?_
 ·skip
  refine JC.block (JC.loop hlr47 (fun (i_76 : Int) H77 f bs gs => f 0 = l_v0 ∧ f 3 = .pointer (some ⟨b1, 0, none⟩) ∧ f 5 = .int .i64 i_76 ∧ bs = [(b1, .cells [.int .i64 c.Row, .int .i64 c.Col].toArray 27)] ∧ gs = [] ∧ HSub H H77) ⟨rfl, rfl, rfl, rfl, rfl, (HSub.refl _)⟩ ?_)
  rintro i_76 x79 H77 f bs gs ⟨hf0, hf3, hf5, rfl, rfl, hs77⟩ hF hr78
  rw [F_ref03_In_s1] at hF
  refine (JC.norm (i := 0) hf0 (JC.norm (i := 3) hf3 (JC.norm (i := 5) hf5 ?_)))
  refine JC.seq (JC.seq (JC.region (by rfl) ?_))
  intro hQ
  refine JL.move .none rfl ?_
  refine JL.move .none rfl ?_
  refine JL.lenSL (R := R_Cell) ul_22 (SL.mono R_Cell_mono hs77 hl_0) .none rfl ?_
  refine JL.bin rfl rfl rfl .none rfl ?_
  refine JL.done hQ (JQ.go ?_)
  rcases ite_some hF with ⟨hc80, hF⟩ | ⟨hc80, hF⟩
  ·refine JC.cond_t (b := decide (i_76 < (l.length : Int))) rfl hc80 ?_
   refine JC.skip (JQ.go (JC.seq (JC.block (JC.seq (JC.draw (by rfl) mo_ (by kernel_rfl) ?_)))))
   intro hQ
   refine JL.move .none rfl ?_
   refine JL.move .none rfl ?_
   obtain ⟨y86, hy86, hF⟩ := bind_some hF
   refine JL.indexSL (R := R_Cell) sl_22 (SL.mono R_Cell_mono hs77 hl_0) rfl hy86 .none rfl ?_
   rintro b87 o88 cs89 hc90 - rfl
   refine JL.loadH 0 az_27 rfl hc90 rfl .none rfl ?_
   refine JL.loadOwn 0 az_27 rfl rfl rfl .none rfl ?_
   refine JL.eqAgg eqg_27 rfl rfl (fun w => eqa_27 y86.Row y86.Col c.Row c.Col w) .none rfl ?_
   refine JL.doneQ hQ ?_
   refine JQ.go ?_
   rcases ite_some hF with ⟨hc91, hF⟩ | ⟨hc91, hF⟩
   ·refine JC.cond_t (b := ((y86.Row == c.Row) && (y86.Col == c.Col))) rfl hc91 ?_
    refine JC.seq (JC.region (by rfl) ?_)
    intro hQ
    refine JL.assign .none rfl ?_
    refine JL.done hQ (JQ.go (JC.fresh (fun f => f 4 = .bool true) rfl ?_))
    rintro f hf4
    refine (JC.norm (i := 4) hf4 ?_)
    refine JC.ret (JQ.ret_block (JQ.ret_then (JQ.ret_then (JQ.ret_block (JQ.ret_join (JQ.ret_then ?_))))))
    obtain rfl := Option.some.inj hF
    have ehr78 := hr78 _ rfl
    subst ehr78
    have hF := hKr47
    try dsimp only at hF
    obtain rfl := Option.some.inj hF
    exact JQ.outS rfl (.tmp .nil) rfl
   ·refine JC.cond_f (b := ((y86.Row == c.Row) && (y86.Col == c.Col))) rfl hc91 ?_
    refine JC.skip (JQ.normal_block (JQ.go (JC.region (by rfl) ?_)))
    intro hQ
    refine JL.move .none rfl ?_
    refine JL.bin rfl rfl rfl .none rfl ?_
    refine JL.assign .none rfl ?_
    refine JL.done hQ ?_
    obtain rfl := Option.some.inj hF
    exact JQ.next rfl ⟨rfl, rfl, rfl, rfl, rfl, hs77⟩
  ·refine JC.cond_f (b := decide (i_76 < (l.length : Int))) rfl hc80 ?_
   refine JC.exit (JQ.exit_then (JQ.exit_then (JQ.exit_block ?_)))
   obtain rfl := Option.some.inj hF
   have ehr78 := hr78 _ rfl
   subst ehr78
   refine JQ.mask [false] [] ?_
   exact JQ.join () ⟨rfl, rfl, hs77, rfl⟩
 ·rintro _ H46 f bs gs ⟨rfl, rfl, hs46, rfl⟩
  have hF := hKr47
  try dsimp only at hF
  refine JQ.go (JC.seq (JC.region (by rfl) ?_))
  intro hQ
  refine JL.assign .none rfl ?_
  refine JL.done hQ (JQ.go (JC.ret ?_))
  obtain rfl := Option.some.inj hF
  exact JQ.outS rfl (.tmp .nil) rfl
-- 63 ferrule/ferruleref03.areCells
def F_ref03_areCells_s1 (n : Nat) (s : Lap) (l : List Cell) (others : List Cell) : Int → Option (Int ⊕ (Bool ⊕ Unit))
 | i_446 => if decide (i_446 < (l.length : Int)) = true then ((geti l i_446).bind fun y493 => (F_ref03_IsCell n s y493).bind fun y498 => (if (!y498) = true then (some true) else ((slc l 0 i_446).bind fun y511 => (geti l i_446).bind fun y514 => (F_ref03_In n y511 y514).bind fun y519 => some y519) : Option Bool).bind fun p508 => (if p508 = true then (some true) else ((geti l i_446).bind fun y529 => (F_ref03_In n others y529).bind fun y534 => some y534) : Option Bool).bind fun p526 => if p526 = true then (some (Sum.inr (Sum.inl false))) else (some (Sum.inl (w64 (i_446 + 1))))) else (some (Sum.inr (Sum.inr ())))
def F_ref03_areCells (n : Nat) (s : Lap) (l : List Cell) (others : List Cell) : Option Bool :=
 (loopO n (F_ref03_areCells_s1 n s l others) 0).bind fun r269 => match r269 with | .inl o => some o | .inr _ => some (decide ((l.length : Int) ≤ 20))
theorem c_ref03_areCells (n : Nat) (H : Hp) (s : Lap) (s_v2 : Value) (hs_2 : SL H 2 R_Cell s_v2 s.Faults) (s_v3 : Value) (hs_3 : SL H 2 R_Cell s_v3 s.Flaws) (s_v4 : Value) (hs_4 : SL H 1 R_Panel s_v4 s.Panels) (l : List Cell) (l_v0 : Value) (hl_0 : SL H 2 R_Cell l_v0 l) (others : List Cell) (others_v0 : Value) (hothers_0 : SL H 2 R_Cell others_v0 others) (y : Bool) (hF : F_ref03_areCells n s l others = some y) : SC Try.prog 63 [.agg [.int .i64 s.Width, .int .i64 s.Length, s_v2, s_v3, s_v4].toArray, l_v0, others_v0] (.bool y) H := by
 rw [F_ref03_areCells] at hF
 refine SC.of (N := 42) Try.func63 rfl rfl rfl fun w => ?_
 refine JC.seq (JC.region (by rfl) ?_)
 intro hQ
 refine JL.box (cs := [.int .i64 s.Width, .int .i64 s.Length, s_v2, s_v3, s_v4]) rfl .none rfl ?_
 intro b1
 refine JL.assign .none rfl ?_
 refine JL.done hQ (JQ.go (JC.seq (JC.seq (JC.region (by rfl) ?_))))
 intro hQ
 refine JL.assign .none rfl ?_
 refine JL.done hQ (JQ.go ?_)
 obtain ⟨r269, hlr269, hKr269⟩ := bind_some hF
 refine JC.join (fun (_ : Unit) H268 f bs gs => f 1 = l_v0 ∧ bs = [] ∧ gs = [] ∧ HSub H H268 ∧ Sum.inr () = r269) ?_ ?_
 ·skip
  refine JC.block (JC.loop hlr269 (fun (i_446 : Int) H447 f bs gs => f 1 = l_v0 ∧ f 2 = others_v0 ∧ f 3 = .pointer (some ⟨b1, 0, none⟩) ∧ f 7 = .int .i64 i_446 ∧ bs = [(b1, .cells [.int .i64 s.Width, .int .i64 s.Length, s_v2, s_v3, s_v4].toArray 25)] ∧ gs = [] ∧ HSub H H447) ⟨rfl, rfl, rfl, rfl, rfl, rfl, (HSub.refl _)⟩ ?_)
  rintro i_446 x449 H447 f bs gs ⟨hf1, hf2, hf3, hf7, rfl, rfl, hs447⟩ hF hr448
  rw [F_ref03_areCells_s1] at hF
  refine (JC.norm (i := 1) hf1 (JC.norm (i := 2) hf2 (JC.norm (i := 3) hf3 (JC.norm (i := 7) hf7 ?_))))
  refine JC.seq (JC.seq (JC.region (by rfl) ?_))
  intro hQ
  refine JL.move .none rfl ?_
  refine JL.move .none rfl ?_
  refine JL.lenSL (R := R_Cell) ul_22 (SL.mono R_Cell_mono hs447 hl_0) .none rfl ?_
  refine JL.bin rfl rfl rfl .none rfl ?_
  refine JL.done hQ (JQ.go ?_)
  rcases ite_some hF with ⟨hc450, hF⟩ | ⟨hc450, hF⟩
  ·refine JC.cond_t (b := decide (i_446 < (l.length : Int))) rfl hc450 ?_
   refine JC.skip (JQ.go (JC.seq (JC.block (JC.seq (JC.draw (by rfl) mo_ (by kernel_rfl) ?_)))))
   intro hQ
   refine JL.loadOwn 0 az_25 rfl rfl rfl .none rfl ?_
   refine JL.move .none rfl ?_
   refine JL.move .none rfl ?_
   obtain ⟨y493, hy493, hF⟩ := bind_some hF
   refine JL.indexSL (R := R_Cell) sl_22 (SL.mono R_Cell_mono hs447 hl_0) rfl hy493 .none rfl ?_
   rintro b494 o495 cs496 hc497 - rfl
   refine JL.loadH 0 az_27 rfl hc497 rfl .none rfl ?_
   obtain ⟨y498, hy498, hF⟩ := bind_some hF
   refine JL.callS (c_ref03_IsCell n H447 s s_v2 (SL.mono R_Cell_mono hs447 hs_2) s_v3 (SL.mono R_Cell_mono hs447 hs_3) s_v4 (SL.mono R_Panel_mono hs447 hs_4) y493 y498 hy498) rfl en_52 .none rfl ?_
   refine JL.not rfl .none rfl ?_
   refine JL.move .none rfl ?_
   obtain ⟨p508, hp508, hF⟩ := bind_some hF
   refine JL.cut 9 (fun f => f 1 = l_v0 ∧ f 2 = others_v0 ∧ f 3 = .pointer (some ⟨b1, 0, none⟩) ∧ f 7 = .int .i64 i_446 ∧ f 30 = .bool p508) ?_ ?_
   ·intro hJ509
    rcases ite_some hp508 with ⟨hc510, hF⟩ | ⟨hc510, hF⟩
    ·skip
     refine JL.skip (.bool rfl rfl rfl hc510) rfl ?_
     refine JL.skip (.bool rfl rfl rfl hc510) rfl ?_
     refine JL.skip (.bool rfl rfl rfl hc510) rfl ?_
     refine JL.skip (.bool rfl rfl rfl hc510) rfl ?_
     refine JL.skip (.bool rfl rfl rfl hc510) rfl ?_
     refine JL.skip (.bool rfl rfl rfl hc510) rfl ?_
     refine JL.skip (.bool rfl rfl rfl hc510) rfl ?_
     refine JL.skip (.bool rfl rfl rfl hc510) rfl ?_
     refine JL.pick_t (b := (!y498)) rfl hc510 .none rfl ?_
     obtain rfl := Option.some.inj hF
     exact hJ509 _ ⟨rfl, rfl, rfl, rfl, rfl⟩
    ·skip
     refine JL.move (.some rfl rfl rfl hc510) rfl ?_
     refine JL.move (.some rfl rfl rfl hc510) rfl ?_
     obtain ⟨y511, hy511, hF⟩ := bind_some hF
     refine JL.sliceHi (R := R_Cell) sl_22 (SL.mono R_Cell_mono hs447 hl_0) rfl hy511 (.some rfl rfl rfl hc510) rfl ?_
     intro v512 hv513
     refine JL.move (.some rfl rfl rfl hc510) rfl ?_
     refine JL.move (.some rfl rfl rfl hc510) rfl ?_
     obtain ⟨y514, hy514, hF⟩ := bind_some hF
     refine JL.indexSL (R := R_Cell) sl_22 (SL.mono R_Cell_mono hs447 hl_0) rfl hy514 (.some rfl rfl rfl hc510) rfl ?_
     rintro b515 o516 cs517 hc518 - rfl
     refine JL.loadH 0 az_27 rfl hc518 rfl (.some rfl rfl rfl hc510) rfl ?_
     obtain ⟨y519, hy519, hF⟩ := bind_some hF
     refine JL.callS (c_ref03_In n H447 y511 v512 hv513 y514 y519 hy519) rfl en_53 (.some rfl rfl rfl hc510) rfl ?_
     refine JL.pick_f (b := (!y498)) rfl hc510 .none rfl ?_
     obtain rfl := Option.some.inj hF
     exact hJ509 _ ⟨rfl, rfl, rfl, rfl, rfl⟩
   ·rintro f ⟨hf1, hf2, hf3, hf7, hf30⟩
    refine (JL.norm (i := 1) hf1 (JL.norm (i := 2) hf2 (JL.norm (i := 3) hf3 (JL.norm (i := 7) hf7 (JL.norm (i := 30) hf30 ?_)))))
    refine JL.move .none rfl ?_
    obtain ⟨p526, hp526, hF⟩ := bind_some hF
    refine JL.cut 7 (fun f => f 1 = l_v0 ∧ f 2 = others_v0 ∧ f 3 = .pointer (some ⟨b1, 0, none⟩) ∧ f 7 = .int .i64 i_446 ∧ f 38 = .bool p526) ?_ ?_
    ·intro hJ527
     rcases ite_some hp526 with ⟨hc528, hF⟩ | ⟨hc528, hF⟩
     ·skip
      refine JL.skip (.bool rfl rfl rfl hc528) rfl ?_
      refine JL.skip (.bool rfl rfl rfl hc528) rfl ?_
      refine JL.skip (.bool rfl rfl rfl hc528) rfl ?_
      refine JL.skip (.bool rfl rfl rfl hc528) rfl ?_
      refine JL.skip (.bool rfl rfl rfl hc528) rfl ?_
      refine JL.skip (.bool rfl rfl rfl hc528) rfl ?_
      refine JL.pick_t (b := p508) rfl hc528 .none rfl ?_
      obtain rfl := Option.some.inj hF
      exact hJ527 _ ⟨rfl, rfl, rfl, rfl, rfl⟩
     ·skip
      refine JL.move (.some rfl rfl rfl hc528) rfl ?_
      refine JL.move (.some rfl rfl rfl hc528) rfl ?_
      refine JL.move (.some rfl rfl rfl hc528) rfl ?_
      obtain ⟨y529, hy529, hF⟩ := bind_some hF
      refine JL.indexSL (R := R_Cell) sl_22 (SL.mono R_Cell_mono hs447 hl_0) rfl hy529 (.some rfl rfl rfl hc528) rfl ?_
      rintro b530 o531 cs532 hc533 - rfl
      refine JL.loadH 0 az_27 rfl hc533 rfl (.some rfl rfl rfl hc528) rfl ?_
      obtain ⟨y534, hy534, hF⟩ := bind_some hF
      refine JL.callS (c_ref03_In n H447 others others_v0 (SL.mono R_Cell_mono hs447 hothers_0) y529 y534 hy534) rfl en_53 (.some rfl rfl rfl hc528) rfl ?_
      refine JL.pick_f (b := p508) rfl hc528 .none rfl ?_
      obtain rfl := Option.some.inj hF
      exact hJ527 _ ⟨rfl, rfl, rfl, rfl, rfl⟩
    ·rintro f ⟨hf1, hf2, hf3, hf7, hf38⟩
     refine (JL.norm (i := 1) hf1 (JL.norm (i := 2) hf2 (JL.norm (i := 3) hf3 (JL.norm (i := 7) hf7 (JL.norm (i := 38) hf38 ?_)))))
     refine JL.doneQ hQ ?_
     refine JQ.go ?_
     rcases ite_some hF with ⟨hc535, hF⟩ | ⟨hc535, hF⟩
     ·refine JC.cond_t (b := p526) rfl hc535 ?_
      refine JC.seq (JC.region (by rfl) ?_)
      intro hQ
      refine JL.assign .none rfl ?_
      refine JL.done hQ (JQ.go (JC.ret (JQ.ret_block (JQ.ret_then (JQ.ret_then (JQ.ret_block (JQ.ret_join (JQ.ret_then ?_))))))))
      obtain rfl := Option.some.inj hF
      have ehr448 := hr448 _ rfl
      subst ehr448
      have hF := hKr269
      try dsimp only at hF
      obtain rfl := Option.some.inj hF
      exact JQ.outS rfl (.tmp .nil) rfl
     ·refine JC.cond_f (b := p526) rfl hc535 ?_
      refine JC.skip (JQ.normal_block (JQ.go (JC.region (by rfl) ?_)))
      intro hQ
      refine JL.move .none rfl ?_
      refine JL.bin rfl rfl rfl .none rfl ?_
      refine JL.assign .none rfl ?_
      refine JL.done hQ ?_
      obtain rfl := Option.some.inj hF
      exact JQ.next rfl ⟨rfl, rfl, rfl, rfl, rfl, rfl, hs447⟩
  ·refine JC.cond_f (b := decide (i_446 < (l.length : Int))) rfl hc450 ?_
   refine JC.exit (JQ.exit_then (JQ.exit_then (JQ.exit_block ?_)))
   obtain rfl := Option.some.inj hF
   have ehr448 := hr448 _ rfl
   subst ehr448
   refine JQ.mask [false] [] ?_
   exact JQ.join () ⟨rfl, rfl, rfl, hs447, rfl⟩
 ·rintro _ H268 f bs gs ⟨hf1, rfl, rfl, hs268, rfl⟩
  have hF := hKr269
  try dsimp only at hF
  refine (JQ.norm (i := 1) hf1 ?_)
  refine JQ.go (JC.seq (JC.region (by rfl) ?_))
  intro hQ
  refine JL.move .none rfl ?_
  refine JL.lenSL (R := R_Cell) ul_22 (SL.mono R_Cell_mono hs268 hl_0) .none rfl ?_
  refine JL.bin rfl rfl rfl .none rfl ?_
  refine JL.assign .none rfl ?_
  refine JL.done hQ (JQ.go (JC.ret ?_))
  obtain rfl := Option.some.inj hF
  exact JQ.outS rfl (.tmp .nil) rfl
-- 64 ferrule/ferruleref03.isPanel
def F_ref03_isPanel_s1 (n : Nat) (p : Panel) : Int × Int → Option ((Int × Int) ⊕ (Bool ⊕ Int))
 | (least_297, i_298) => if decide (i_298 < (p.Rows.length : Int)) = true then ((geti p.Rows i_298).bind fun y327 => (geti p.Rows i_298).bind fun y332 => (F_ref03_within n y327.Low 0 y332.High).bind fun y337 => (if (!y337) = true then (some true) else ((geti p.Rows i_298).bind fun y346 => some (decide (7 < y346.High))) : Option Bool).bind fun p343 => if p343 = true then (some (Sum.inr (Sum.inl false))) else ((geti p.Rows i_298).bind fun y352 => some (Sum.inl ((min least_297 y352.Low), (w64 (i_298 + 1)))))) else (some (Sum.inr (Sum.inr least_297)))
def F_ref03_isPanel (n : Nat) (p : Panel) : Option Bool :=
 (loopO n (F_ref03_isPanel_s1 n p) (8, 0)).bind fun r180 => match r180 with | .inl o => some o | .inr least_178 => (F_ref03_within n (p.Rows.length : Int) 1 4).bind fun y357 => some (y357 && (least_178 == 0))
theorem c_ref03_isPanel (n : Nat) (H : Hp) (p : Panel) (p_v0 : Value) (hp_0 : SL H 2 R_Span p_v0 p.Rows) (y : Bool) (hF : F_ref03_isPanel n p = some y) : SC Try.prog 64 [.agg [p_v0].toArray] (.bool y) H := by
 rw [F_ref03_isPanel] at hF
 refine SC.of (N := 51) Try.func64 rfl rfl rfl fun w => ?_
 refine JC.seq (JC.region (by rfl) ?_)
 intro hQ
 refine JL.box (cs := [p_v0]) rfl .none rfl ?_
 intro b1
 refine JL.assign .none rfl ?_
 refine JL.done hQ (JQ.go (JC.seq (JC.region (by rfl) ?_)))
 intro hQ
 refine JL.assign .none rfl ?_
 refine JL.done hQ (JQ.go (JC.seq (JC.seq (JC.region (by rfl) ?_))))
 intro hQ
 refine JL.assign .none rfl ?_
 refine JL.done hQ (JQ.go ?_)
 obtain ⟨r180, hlr180, hKr180⟩ := bind_some hF
 refine JC.join (fun (least_178 : Int) H179 f bs gs => f 1 = .pointer (some ⟨b1, 0, none⟩) ∧ f 3 = .int .i64 least_178 ∧ bs = [(b1, .cells [p_v0].toArray 30)] ∧ gs = [] ∧ HSub H H179 ∧ Sum.inr least_178 = r180) ?_ ?_
 ·skip
  refine JC.block (JC.loop hlr180 (fun (x : Int × Int) H299 f bs gs => match x with | (least_297, i_298) => f 1 = .pointer (some ⟨b1, 0, none⟩) ∧ f 3 = .int .i64 least_297 ∧ f 4 = .int .i64 i_298 ∧ bs = [(b1, .cells [p_v0].toArray 30)] ∧ gs = [] ∧ HSub H H299) ⟨rfl, rfl, rfl, rfl, rfl, (HSub.refl _)⟩ ?_)
  rintro ⟨least_297, i_298⟩ x301 H299 f bs gs ⟨hf1, hf3, hf4, rfl, rfl, hs299⟩ hF hr300
  rw [F_ref03_isPanel_s1] at hF
  refine (JC.norm (i := 1) hf1 (JC.norm (i := 3) hf3 (JC.norm (i := 4) hf4 ?_)))
  refine JC.seq (JC.seq (JC.region (by rfl) ?_))
  intro hQ
  refine JL.move .none rfl ?_
  refine JL.fieldAddr fo_30_0 rfl .none rfl ?_
  refine JL.loadOwn 0 az_28 rfl rfl rfl .none rfl ?_
  refine JL.lenSL (R := R_Span) ul_28 (SL.mono R_Span_mono hs299 hp_0) .none rfl ?_
  refine JL.bin rfl rfl rfl .none rfl ?_
  refine JL.done hQ (JQ.go ?_)
  rcases ite_some hF with ⟨hc302, hF⟩ | ⟨hc302, hF⟩
  ·refine JC.cond_t (b := decide (i_298 < (p.Rows.length : Int))) rfl hc302 ?_
   refine JC.skip (JQ.go (JC.seq (JC.block (JC.seq (JC.seq (JC.draw (by rfl) mo_ (by kernel_rfl) ?_))))))
   intro hQ
   refine JL.fieldAddr fo_30_0 rfl .none rfl ?_
   refine JL.loadOwn 0 az_28 rfl rfl rfl .none rfl ?_
   refine JL.move .none rfl ?_
   obtain ⟨y327, hy327, hF⟩ := bind_some hF
   refine JL.indexSL (R := R_Span) sl_28 (SL.mono R_Span_mono hs299 hp_0) rfl hy327 .none rfl ?_
   rintro b328 o329 cs330 hc331 - rfl
   refine JL.fieldAddr fo_46_0 rfl .none rfl ?_
   refine JL.loadH 0 az_3 rfl hc331 rfl .none rfl ?_
   refine JL.fieldAddr fo_30_0 rfl .none rfl ?_
   refine JL.loadOwn 0 az_28 rfl rfl rfl .none rfl ?_
   refine JL.move .none rfl ?_
   obtain ⟨y332, hy332, hF⟩ := bind_some hF
   refine JL.indexSL (R := R_Span) sl_28 (SL.mono R_Span_mono hs299 hp_0) rfl hy332 .none rfl ?_
   rintro b333 o334 cs335 hc336 - rfl
   refine JL.fieldAddr fo_46_1 rfl .none rfl ?_
   refine JL.loadH 1 az_3 rfl hc336 rfl .none rfl ?_
   obtain ⟨y337, hy337, hF⟩ := bind_some hF
   refine JL.callS (c_ref03_within n H299 y327.Low 0 y332.High y337 hy337) rfl en_51 .none rfl ?_
   refine JL.not rfl .none rfl ?_
   refine JL.move .none rfl ?_
   obtain ⟨p343, hp343, hF⟩ := bind_some hF
   refine JL.cut 8 (fun f => f 1 = .pointer (some ⟨b1, 0, none⟩) ∧ f 3 = .int .i64 least_297 ∧ f 4 = .int .i64 i_298 ∧ f 34 = .bool p343) ?_ ?_
   ·intro hJ344
    rcases ite_some hp343 with ⟨hc345, hF⟩ | ⟨hc345, hF⟩
    ·skip
     refine JL.skip (.bool rfl rfl rfl hc345) rfl ?_
     refine JL.skip (.bool rfl rfl rfl hc345) rfl ?_
     refine JL.skip (.bool rfl rfl rfl hc345) rfl ?_
     refine JL.skip (.bool rfl rfl rfl hc345) rfl ?_
     refine JL.skip (.bool rfl rfl rfl hc345) rfl ?_
     refine JL.skip (.bool rfl rfl rfl hc345) rfl ?_
     refine JL.skip (.bool rfl rfl rfl hc345) rfl ?_
     refine JL.pick_t (b := (!y337)) rfl hc345 .none rfl ?_
     obtain rfl := Option.some.inj hF
     exact hJ344 _ ⟨rfl, rfl, rfl, rfl⟩
    ·skip
     refine JL.fieldAddr fo_30_0 rfl (.some rfl rfl rfl hc345) rfl ?_
     refine JL.loadOwn 0 az_28 rfl rfl rfl (.some rfl rfl rfl hc345) rfl ?_
     refine JL.move (.some rfl rfl rfl hc345) rfl ?_
     obtain ⟨y346, hy346, hF⟩ := bind_some hF
     refine JL.indexSL (R := R_Span) sl_28 (SL.mono R_Span_mono hs299 hp_0) rfl hy346 (.some rfl rfl rfl hc345) rfl ?_
     rintro b347 o348 cs349 hc350 - rfl
     refine JL.fieldAddr fo_46_1 rfl (.some rfl rfl rfl hc345) rfl ?_
     refine JL.loadH 1 az_3 rfl hc350 rfl (.some rfl rfl rfl hc345) rfl ?_
     refine JL.bin rfl rfl rfl (.some rfl rfl rfl hc345) rfl ?_
     refine JL.pick_f (b := (!y337)) rfl hc345 .none rfl ?_
     obtain rfl := Option.some.inj hF
     exact hJ344 _ ⟨rfl, rfl, rfl, rfl⟩
   ·rintro f ⟨hf1, hf3, hf4, hf34⟩
    refine (JL.norm (i := 1) hf1 (JL.norm (i := 3) hf3 (JL.norm (i := 4) hf4 (JL.norm (i := 34) hf34 ?_))))
    refine JL.doneQ hQ ?_
    refine JQ.go ?_
    rcases ite_some hF with ⟨hc351, hF⟩ | ⟨hc351, hF⟩
    ·refine JC.cond_t (b := p343) rfl hc351 ?_
     refine JC.seq (JC.region (by rfl) ?_)
     intro hQ
     refine JL.assign .none rfl ?_
     refine JL.done hQ (JQ.go (JC.ret (JQ.ret_then (JQ.ret_block (JQ.ret_then (JQ.ret_then (JQ.ret_block (JQ.ret_join (JQ.ret_then ?_)))))))))
     obtain rfl := Option.some.inj hF
     have ehr300 := hr300 _ rfl
     subst ehr300
     have hF := hKr180
     try dsimp only at hF
     obtain rfl := Option.some.inj hF
     exact JQ.outS rfl (.tmp .nil) rfl
    ·refine JC.cond_f (b := p343) rfl hc351 ?_
     refine JC.skip (JQ.go (JC.region (by rfl) ?_))
     intro hQ
     refine JL.move .none rfl ?_
     refine JL.fieldAddr fo_30_0 rfl .none rfl ?_
     refine JL.loadOwn 0 az_28 rfl rfl rfl .none rfl ?_
     refine JL.move .none rfl ?_
     obtain ⟨y352, hy352, hF⟩ := bind_some hF
     refine JL.indexSL (R := R_Span) sl_28 (SL.mono R_Span_mono hs299 hp_0) rfl hy352 .none rfl ?_
     rintro b353 o354 cs355 hc356 - rfl
     refine JL.fieldAddr fo_46_0 rfl .none rfl ?_
     refine JL.loadH 0 az_3 rfl hc356 rfl .none rfl ?_
     refine JL.min rfl rfl .none rfl ?_
     refine JL.assign .none rfl ?_
     refine JL.done hQ (JQ.normal_block (JQ.go (JC.region (by rfl) ?_)))
     intro hQ
     refine JL.move .none rfl ?_
     refine JL.bin rfl rfl rfl .none rfl ?_
     refine JL.assign .none rfl ?_
     refine JL.done hQ ?_
     obtain rfl := Option.some.inj hF
     exact JQ.next rfl ⟨rfl, rfl, rfl, rfl, rfl, hs299⟩
  ·refine JC.cond_f (b := decide (i_298 < (p.Rows.length : Int))) rfl hc302 ?_
   refine JC.exit (JQ.exit_then (JQ.exit_then (JQ.exit_block ?_)))
   obtain rfl := Option.some.inj hF
   have ehr300 := hr300 _ rfl
   subst ehr300
   exact JQ.join least_297 ⟨rfl, rfl, rfl, rfl, hs299, rfl⟩
 ·rintro least_178 H179 f bs gs ⟨hf1, hf3, rfl, rfl, hs179, rfl⟩
  have hF := hKr180
  try dsimp only at hF
  refine (JQ.norm (i := 1) hf1 (JQ.norm (i := 3) hf3 ?_))
  refine JQ.go (JC.seq (JC.region (by rfl) ?_))
  intro hQ
  refine JL.fieldAddr fo_30_0 rfl .none rfl ?_
  refine JL.loadOwn 0 az_28 rfl rfl rfl .none rfl ?_
  refine JL.lenSL (R := R_Span) ul_28 (SL.mono R_Span_mono hs179 hp_0) .none rfl ?_
  obtain ⟨y357, hy357, hF⟩ := bind_some hF
  refine JL.callS (c_ref03_within n H179 (p.Rows.length : Int) 1 4 y357 hy357) rfl en_51 .none rfl ?_
  refine JL.move .none rfl ?_
  refine JL.cut 3 (fun f => f 50 = .bool (y357 && (least_178 == 0))) ?_ ?_
  ·intro hJ358
   rcases bcases y357 with hc359 | hc359
   ·skip
    refine JL.move (.some rfl rfl rfl hc359) rfl ?_
    refine JL.bin rfl rfl rfl (.some rfl rfl rfl hc359) rfl ?_
    refine JL.pick_t (b := y357) rfl hc359 .none rfl ?_
    exact hJ358 _ (and_t hc359 rfl)
   ·skip
    refine JL.skip (.bool rfl rfl rfl hc359) rfl ?_
    refine JL.skip (.bool rfl rfl rfl hc359) rfl ?_
    refine JL.pick_f (b := y357) rfl hc359 .none rfl ?_
    exact hJ358 _ (and_f hc359 rfl)
  ·rintro f hf50
   refine (JL.norm (i := 50) hf50 ?_)
   refine JL.assign .none rfl ?_
   refine JL.done hQ (JQ.go (JC.ret ?_))
   obtain rfl := Option.some.inj hF
   exact JQ.outS rfl (.tmp .nil) rfl
-- 34 ferrule/ferruleref03.Check
def F_ref03_Check_s1 (n : Nat) (s : Lap) : Int → Option (Int ⊕ (Int ⊕ Unit))
 | i_75 => if decide (i_75 < (s.Panels.length : Int)) = true then ((geti s.Panels i_75).bind fun y80 => (F_ref03_isPanel n y80).bind fun y85 => if (!y85) = true then (some (Sum.inr (Sum.inl 30))) else (some (Sum.inl (w64 (i_75 + 1))))) else (some (Sum.inr (Sum.inr ())))
def F_ref03_Check (n : Nat) (s : Lap) : Option Int :=
 (F_ref03_within n s.Width 1 8).bind fun y2 => (if (!y2) = true then (some true) else ((F_ref03_within n s.Length 1 12).bind fun y7 => some (!y7)) : Option Bool).bind fun p4 => (if p4 = true then (some true) else ((F_ref03_areCells n s s.Faults ([] : List Cell)).bind fun y12 => some (!y12)) : Option Bool).bind fun p9 => (if p9 = true then (some true) else ((F_ref03_areCells n s s.Flaws s.Faults).bind fun y17 => some (!y17)) : Option Bool).bind fun p14 => if (p14 || (decide (5 < (s.Panels.length : Int)))) = true then (some 30) else ((loopO n (F_ref03_Check_s1 n s) 0).bind fun r54 => match r54 with | .inl o => some o | .inr _ => some 0)
theorem c_ref03_Check (n : Nat) (H : Hp) (s : Lap) (s_v2 : Value) (hs_2 : SL H 2 R_Cell s_v2 s.Faults) (s_v3 : Value) (hs_3 : SL H 2 R_Cell s_v3 s.Flaws) (s_v4 : Value) (hs_4 : SL H 1 R_Panel s_v4 s.Panels) (y : Int) (hF : F_ref03_Check n s = some y) : SC Try.prog 34 [.agg [.int .i64 s.Width, .int .i64 s.Length, s_v2, s_v3, s_v4].toArray] (.int .i64 y) H := by
 rw [F_ref03_Check] at hF
 refine SC.of (N := 50) Try.func34 rfl rfl rfl fun w => ?_
 refine JC.seq (JC.region (by rfl) ?_)
 intro hQ
 refine JL.box (cs := [.int .i64 s.Width, .int .i64 s.Length, s_v2, s_v3, s_v4]) rfl .none rfl ?_
 intro b1
 refine JL.assign .none rfl ?_
 refine JL.done hQ (JQ.go (JC.seq (JC.seq (JC.region (by rfl) ?_))))
 intro hQ
 refine JL.fieldAddr fo_25_0 rfl .none rfl ?_
 refine JL.loadOwn 0 az_3 rfl rfl rfl .none rfl ?_
 obtain ⟨y2, hy2, hF⟩ := bind_some hF
 refine JL.callS (c_ref03_within n H s.Width 1 8 y2 hy2) rfl en_51 .none rfl ?_
 refine JL.not rfl .none rfl ?_
 refine JL.move .none rfl ?_
 obtain ⟨p4, hp4, hF⟩ := bind_some hF
 refine JL.cut 5 (fun f => f 1 = .pointer (some ⟨b1, 0, none⟩) ∧ f 13 = .bool p4) ?_ ?_
 ·intro hJ5
  rcases ite_some hp4 with ⟨hc6, hF⟩ | ⟨hc6, hF⟩
  ·skip
   refine JL.skip (.bool rfl rfl rfl hc6) rfl ?_
   refine JL.skip (.bool rfl rfl rfl hc6) rfl ?_
   refine JL.skip (.bool rfl rfl rfl hc6) rfl ?_
   refine JL.skip (.bool rfl rfl rfl hc6) rfl ?_
   refine JL.pick_t (b := (!y2)) rfl hc6 .none rfl ?_
   obtain rfl := Option.some.inj hF
   exact hJ5 _ ⟨rfl, rfl⟩
  ·skip
   refine JL.fieldAddr fo_25_1 rfl (.some rfl rfl rfl hc6) rfl ?_
   refine JL.loadOwn 0 az_3 rfl rfl rfl (.some rfl rfl rfl hc6) rfl ?_
   obtain ⟨y7, hy7, hF⟩ := bind_some hF
   refine JL.callS (c_ref03_within n H s.Length 1 12 y7 hy7) rfl en_51 (.some rfl rfl rfl hc6) rfl ?_
   refine JL.not rfl (.some rfl rfl rfl hc6) rfl ?_
   refine JL.pick_f (b := (!y2)) rfl hc6 .none rfl ?_
   obtain rfl := Option.some.inj hF
   exact hJ5 _ ⟨rfl, rfl⟩
 ·rintro f ⟨hf1, hf13⟩
  refine (JL.norm (i := 1) hf1 (JL.norm (i := 13) hf13 ?_))
  refine JL.move .none rfl ?_
  obtain ⟨p9, hp9, hF⟩ := bind_some hF
  refine JL.cut 6 (fun f => f 1 = .pointer (some ⟨b1, 0, none⟩) ∧ f 20 = .bool p9) ?_ ?_
  ·intro hJ10
   rcases ite_some hp9 with ⟨hc11, hF⟩ | ⟨hc11, hF⟩
   ·skip
    refine JL.skip (.bool rfl rfl rfl hc11) rfl ?_
    refine JL.skip (.bool rfl rfl rfl hc11) rfl ?_
    refine JL.skip (.bool rfl rfl rfl hc11) rfl ?_
    refine JL.skip (.bool rfl rfl rfl hc11) rfl ?_
    refine JL.skip (.bool rfl rfl rfl hc11) rfl ?_
    refine JL.pick_t (b := p4) rfl hc11 .none rfl ?_
    obtain rfl := Option.some.inj hF
    exact hJ10 _ ⟨rfl, rfl⟩
   ·skip
    refine JL.loadOwn 0 az_25 rfl rfl rfl (.some rfl rfl rfl hc11) rfl ?_
    refine JL.fieldAddr fo_25_2 rfl (.some rfl rfl rfl hc11) rfl ?_
    refine JL.loadOwn 0 az_22 rfl rfl rfl (.some rfl rfl rfl hc11) rfl ?_
    obtain ⟨y12, hy12, hF⟩ := bind_some hF
    refine JL.callS (c_ref03_areCells n H s s_v2 hs_2 s_v3 hs_3 s_v4 hs_4 s.Faults s_v2 hs_2 ([] : List Cell) (.slice none 0 0) SL.nil y12 hy12) rfl en_63 (.some rfl rfl rfl hc11) rfl ?_
    refine JL.not rfl (.some rfl rfl rfl hc11) rfl ?_
    refine JL.pick_f (b := p4) rfl hc11 .none rfl ?_
    obtain rfl := Option.some.inj hF
    exact hJ10 _ ⟨rfl, rfl⟩
  ·rintro f ⟨hf1, hf20⟩
   refine (JL.norm (i := 1) hf1 (JL.norm (i := 20) hf20 ?_))
   refine JL.move .none rfl ?_
   obtain ⟨p14, hp14, hF⟩ := bind_some hF
   refine JL.cut 8 (fun f => f 1 = .pointer (some ⟨b1, 0, none⟩) ∧ f 29 = .bool p14) ?_ ?_
   ·intro hJ15
    rcases ite_some hp14 with ⟨hc16, hF⟩ | ⟨hc16, hF⟩
    ·skip
     refine JL.skip (.bool rfl rfl rfl hc16) rfl ?_
     refine JL.skip (.bool rfl rfl rfl hc16) rfl ?_
     refine JL.skip (.bool rfl rfl rfl hc16) rfl ?_
     refine JL.skip (.bool rfl rfl rfl hc16) rfl ?_
     refine JL.skip (.bool rfl rfl rfl hc16) rfl ?_
     refine JL.skip (.bool rfl rfl rfl hc16) rfl ?_
     refine JL.skip (.bool rfl rfl rfl hc16) rfl ?_
     refine JL.pick_t (b := p9) rfl hc16 .none rfl ?_
     obtain rfl := Option.some.inj hF
     exact hJ15 _ ⟨rfl, rfl⟩
    ·skip
     refine JL.loadOwn 0 az_25 rfl rfl rfl (.some rfl rfl rfl hc16) rfl ?_
     refine JL.fieldAddr fo_25_3 rfl (.some rfl rfl rfl hc16) rfl ?_
     refine JL.loadOwn 0 az_22 rfl rfl rfl (.some rfl rfl rfl hc16) rfl ?_
     refine JL.fieldAddr fo_25_2 rfl (.some rfl rfl rfl hc16) rfl ?_
     refine JL.loadOwn 0 az_22 rfl rfl rfl (.some rfl rfl rfl hc16) rfl ?_
     obtain ⟨y17, hy17, hF⟩ := bind_some hF
     refine JL.callS (c_ref03_areCells n H s s_v2 hs_2 s_v3 hs_3 s_v4 hs_4 s.Flaws s_v3 hs_3 s.Faults s_v2 hs_2 y17 hy17) rfl en_63 (.some rfl rfl rfl hc16) rfl ?_
     refine JL.not rfl (.some rfl rfl rfl hc16) rfl ?_
     refine JL.pick_f (b := p9) rfl hc16 .none rfl ?_
     obtain rfl := Option.some.inj hF
     exact hJ15 _ ⟨rfl, rfl⟩
   ·rintro f ⟨hf1, hf29⟩
    refine (JL.norm (i := 1) hf1 (JL.norm (i := 29) hf29 ?_))
    refine JL.move .none rfl ?_
    refine JL.cut 5 (fun f => f 1 = .pointer (some ⟨b1, 0, none⟩) ∧ f 35 = .bool (p14 || (decide (5 < (s.Panels.length : Int))))) ?_ ?_
    ·intro hJ18
     rcases bcases p14 with hc19 | hc19
     ·skip
      refine JL.skip (.bool rfl rfl rfl hc19) rfl ?_
      refine JL.skip (.bool rfl rfl rfl hc19) rfl ?_
      refine JL.skip (.bool rfl rfl rfl hc19) rfl ?_
      refine JL.skip (.bool rfl rfl rfl hc19) rfl ?_
      refine JL.pick_t (b := p14) rfl hc19 .none rfl ?_
      exact hJ18 _ ⟨rfl, or_t hc19 rfl⟩
     ·skip
      refine JL.fieldAddr fo_25_4 rfl (.some rfl rfl rfl hc19) rfl ?_
      refine JL.loadOwn 0 az_23 rfl rfl rfl (.some rfl rfl rfl hc19) rfl ?_
      refine JL.lenSL (R := R_Panel) ul_23 hs_4 (.some rfl rfl rfl hc19) rfl ?_
      refine JL.bin rfl rfl rfl (.some rfl rfl rfl hc19) rfl ?_
      refine JL.pick_f (b := p14) rfl hc19 .none rfl ?_
      exact hJ18 _ ⟨rfl, or_f hc19 rfl⟩
    ·rintro f ⟨hf1, hf35⟩
     refine (JL.norm (i := 1) hf1 (JL.norm (i := 35) hf35 ?_))
     refine JL.done hQ (JQ.go ?_)
     rcases ite_some hF with ⟨hc20, hF⟩ | ⟨hc20, hF⟩
     ·refine JC.cond_t (b := (p14 || (decide (5 < (s.Panels.length : Int))))) rfl hc20 ?_
      refine JC.seq (JC.region (by rfl) ?_)
      intro hQ
      refine JL.assign .none rfl ?_
      refine JL.done hQ (JQ.go (JC.ret (JQ.ret_then ?_)))
      obtain rfl := Option.some.inj hF
      exact JQ.outS rfl (.tmp .nil) rfl
     ·refine JC.cond_f (b := (p14 || (decide (5 < (s.Panels.length : Int))))) rfl hc20 ?_
      refine JC.skip (JQ.go (JC.seq (JC.seq (JC.region (by rfl) ?_))))
      intro hQ
      refine JL.assign .none rfl ?_
      refine JL.done hQ (JQ.go ?_)
      obtain ⟨r54, hlr54, hKr54⟩ := bind_some hF
      refine JC.join (fun (_ : Unit) H53 f bs gs => bs = [] ∧ gs = [] ∧ HSub H H53 ∧ Sum.inr () = r54) ?_ ?_
      ·skip
       refine JC.block (JC.loop hlr54 (fun (i_75 : Int) H76 f bs gs => f 1 = .pointer (some ⟨b1, 0, none⟩) ∧ f 3 = .int .i64 i_75 ∧ bs = [(b1, .cells [.int .i64 s.Width, .int .i64 s.Length, s_v2, s_v3, s_v4].toArray 25)] ∧ gs = [] ∧ HSub H H76) ⟨rfl, rfl, rfl, rfl, (HSub.refl _)⟩ ?_)
       rintro i_75 x78 H76 f bs gs ⟨hf1, hf3, rfl, rfl, hs76⟩ hF hr77
       rw [F_ref03_Check_s1] at hF
       refine (JC.norm (i := 1) hf1 (JC.norm (i := 3) hf3 ?_))
       refine JC.seq (JC.seq (JC.region (by rfl) ?_))
       intro hQ
       refine JL.move .none rfl ?_
       refine JL.fieldAddr fo_25_4 rfl .none rfl ?_
       refine JL.loadOwn 0 az_23 rfl rfl rfl .none rfl ?_
       refine JL.lenSL (R := R_Panel) ul_23 (SL.mono R_Panel_mono hs76 hs_4) .none rfl ?_
       refine JL.bin rfl rfl rfl .none rfl ?_
       refine JL.done hQ (JQ.go ?_)
       rcases ite_some hF with ⟨hc79, hF⟩ | ⟨hc79, hF⟩
       ·refine JC.cond_t (b := decide (i_75 < (s.Panels.length : Int))) rfl hc79 ?_
        refine JC.skip (JQ.go (JC.seq (JC.block (JC.seq (JC.region (by rfl) ?_)))))
        intro hQ
        refine JL.fieldAddr fo_25_4 rfl .none rfl ?_
        refine JL.loadOwn 0 az_23 rfl rfl rfl .none rfl ?_
        refine JL.move .none rfl ?_
        obtain ⟨y80, hy80, hF⟩ := bind_some hF
        refine JL.indexSL (R := R_Panel) sl_23 (SL.mono R_Panel_mono hs76 hs_4) rfl hy80 .none rfl ?_
        rintro b81 o82 cs83 hc84 - ⟨y80_v0, rfl, hy80_0⟩
        refine JL.loadH 0 az_30 rfl hc84 rfl .none rfl ?_
        obtain ⟨y85, hy85, hF⟩ := bind_some hF
        refine JL.callS (c_ref03_isPanel n H76 y80 y80_v0 hy80_0 y85 hy85) rfl en_64 .none rfl ?_
        refine JL.not rfl .none rfl ?_
        refine JL.done hQ (JQ.go (JC.fresh (fun f => f 1 = .pointer (some ⟨b1, 0, none⟩) ∧ f 3 = .int .i64 i_75 ∧ f 49 = .bool (!y85)) ⟨rfl, rfl, rfl⟩ ?_))
        rintro f ⟨hf1, hf3, hf49⟩
        refine (JC.norm (i := 1) hf1 (JC.norm (i := 3) hf3 (JC.norm (i := 49) hf49 ?_)))
        rcases ite_some hF with ⟨hc86, hF⟩ | ⟨hc86, hF⟩
        ·refine JC.cond_t (b := (!y85)) rfl hc86 ?_
         refine JC.seq (JC.region (by rfl) ?_)
         intro hQ
         refine JL.assign .none rfl ?_
         refine JL.done hQ (JQ.go (JC.ret (JQ.ret_block (JQ.ret_then (JQ.ret_then (JQ.ret_block (JQ.ret_join (JQ.ret_then ?_))))))))
         obtain rfl := Option.some.inj hF
         have ehr77 := hr77 _ rfl
         subst ehr77
         have hF := hKr54
         try dsimp only at hF
         obtain rfl := Option.some.inj hF
         exact JQ.outS rfl (.tmp .nil) rfl
        ·refine JC.cond_f (b := (!y85)) rfl hc86 ?_
         refine JC.skip (JQ.normal_block (JQ.go (JC.region (by rfl) ?_)))
         intro hQ
         refine JL.move .none rfl ?_
         refine JL.bin rfl rfl rfl .none rfl ?_
         refine JL.assign .none rfl ?_
         refine JL.done hQ ?_
         obtain rfl := Option.some.inj hF
         exact JQ.next rfl ⟨rfl, rfl, rfl, rfl, hs76⟩
       ·refine JC.cond_f (b := decide (i_75 < (s.Panels.length : Int))) rfl hc79 ?_
        refine JC.exit (JQ.exit_then (JQ.exit_then (JQ.exit_block ?_)))
        obtain rfl := Option.some.inj hF
        have ehr77 := hr77 _ rfl
        subst ehr77
        refine JQ.mask [false] [] ?_
        exact JQ.join () ⟨rfl, rfl, hs76, rfl⟩
      ·rintro _ H53 f bs gs ⟨rfl, rfl, hs53, rfl⟩
       have hF := hKr54
       try dsimp only at hF
       refine JQ.go (JC.seq (JC.region (by rfl) ?_))
       intro hQ
       refine JL.assign .none rfl ?_
       refine JL.done hQ (JQ.go (JC.ret ?_))
       obtain rfl := Option.some.inj hF
       exact JQ.outS rfl (.tmp .nil) rfl
end Go.Proofs.Ytflhjlgimihmgaa
end
section
set_option maxRecDepth 100000
set_option maxHeartbeats 40000000
namespace Go.Proofs.Ytflhjlgimihmgaa
open Go Go.RowKit Go.Dec
set_option linter.unusedVariables false
-- 27 ferrule/ferrulelaw03.Far
def F_law03_Far_s1 (n : Nat) (s : Lap) : Int → Option (Int ⊕ (Bool ⊕ Unit))
 | i_56 => if decide (i_56 < (s.Panels.length : Int)) = true then ((geti s.Panels i_56).bind fun y61 => if decide (20 < (y61.Rows.length : Int)) = true then (some (Sum.inr (Sum.inl true))) else (some (Sum.inl (w64 (i_56 + 1))))) else (some (Sum.inr (Sum.inr ())))
def F_law03_Far (n : Nat) (s : Lap) : Option Bool :=
 if (((decide (40 < (s.Faults.length : Int))) || (decide (40 < (s.Flaws.length : Int)))) || (decide (20 < (s.Panels.length : Int)))) = true then (some true) else ((loopO n (F_law03_Far_s1 n s) 0).bind fun r37 => match r37 with | .inl o => some o | .inr _ => (F_ref03_Check n s).bind fun y67 => some ((y67 == 0) && ((((decide (5 < s.Width)) || (decide (6 < s.Length))) || (decide (3 < (s.Panels.length : Int)))) || (decide (3 < (s.Flaws.length : Int))))))
theorem c_law03_Far (n : Nat) (H : Hp) (s : Lap) (s_v2 : Value) (hs_2 : SL H 2 R_Cell s_v2 s.Faults) (s_v3 : Value) (hs_3 : SL H 2 R_Cell s_v3 s.Flaws) (s_v4 : Value) (hs_4 : SL H 1 R_Panel s_v4 s.Panels) (y : Bool) (hF : F_law03_Far n s = some y) : SC Try.prog 27 [.agg [.int .i64 s.Width, .int .i64 s.Length, s_v2, s_v3, s_v4].toArray] (.bool y) H := by
 rw [F_law03_Far] at hF
 refine SC.of (N := 60) Try.func27 rfl rfl rfl fun w => ?_
 refine JC.seq (JC.region (by rfl) ?_)
 intro hQ
 refine JL.box (cs := [.int .i64 s.Width, .int .i64 s.Length, s_v2, s_v3, s_v4]) rfl .none rfl ?_
 intro b1
 refine JL.assign .none rfl ?_
 refine JL.done hQ (JQ.go (JC.seq (JC.seq (JC.region (by rfl) ?_))))
 intro hQ
 refine JL.fieldAddr fo_25_2 rfl .none rfl ?_
 refine JL.loadOwn 0 az_22 rfl rfl rfl .none rfl ?_
 refine JL.lenSL (R := R_Cell) ul_22 hs_2 .none rfl ?_
 refine JL.bin rfl rfl rfl .none rfl ?_
 refine JL.move .none rfl ?_
 refine JL.cut 5 (fun f => f 1 = .pointer (some ⟨b1, 0, none⟩) ∧ f 13 = .bool ((decide (40 < (s.Faults.length : Int))) || (decide (40 < (s.Flaws.length : Int))))) ?_ ?_
 ·intro hJ2
  rcases bcases (decide (40 < (s.Faults.length : Int))) with hc3 | hc3
  ·skip
   refine JL.skip (.bool rfl rfl rfl hc3) rfl ?_
   refine JL.skip (.bool rfl rfl rfl hc3) rfl ?_
   refine JL.skip (.bool rfl rfl rfl hc3) rfl ?_
   refine JL.skip (.bool rfl rfl rfl hc3) rfl ?_
   refine JL.pick_t (b := decide (40 < (s.Faults.length : Int))) rfl hc3 .none rfl ?_
   exact hJ2 _ ⟨rfl, or_t hc3 rfl⟩
  ·skip
   refine JL.fieldAddr fo_25_3 rfl (.some rfl rfl rfl hc3) rfl ?_
   refine JL.loadOwn 0 az_22 rfl rfl rfl (.some rfl rfl rfl hc3) rfl ?_
   refine JL.lenSL (R := R_Cell) ul_22 hs_3 (.some rfl rfl rfl hc3) rfl ?_
   refine JL.bin rfl rfl rfl (.some rfl rfl rfl hc3) rfl ?_
   refine JL.pick_f (b := decide (40 < (s.Faults.length : Int))) rfl hc3 .none rfl ?_
   exact hJ2 _ ⟨rfl, or_f hc3 rfl⟩
 ·rintro f ⟨hf1, hf13⟩
  refine (JL.norm (i := 1) hf1 (JL.norm (i := 13) hf13 ?_))
  refine JL.move .none rfl ?_
  refine JL.cut 5 (fun f => f 1 = .pointer (some ⟨b1, 0, none⟩) ∧ f 19 = .bool (((decide (40 < (s.Faults.length : Int))) || (decide (40 < (s.Flaws.length : Int)))) || (decide (20 < (s.Panels.length : Int))))) ?_ ?_
  ·intro hJ4
   rcases bcases ((decide (40 < (s.Faults.length : Int))) || (decide (40 < (s.Flaws.length : Int)))) with hc5 | hc5
   ·skip
    refine JL.skip (.bool rfl rfl rfl hc5) rfl ?_
    refine JL.skip (.bool rfl rfl rfl hc5) rfl ?_
    refine JL.skip (.bool rfl rfl rfl hc5) rfl ?_
    refine JL.skip (.bool rfl rfl rfl hc5) rfl ?_
    refine JL.pick_t (b := ((decide (40 < (s.Faults.length : Int))) || (decide (40 < (s.Flaws.length : Int))))) rfl hc5 .none rfl ?_
    exact hJ4 _ ⟨rfl, or_t hc5 rfl⟩
   ·skip
    refine JL.fieldAddr fo_25_4 rfl (.some rfl rfl rfl hc5) rfl ?_
    refine JL.loadOwn 0 az_23 rfl rfl rfl (.some rfl rfl rfl hc5) rfl ?_
    refine JL.lenSL (R := R_Panel) ul_23 hs_4 (.some rfl rfl rfl hc5) rfl ?_
    refine JL.bin rfl rfl rfl (.some rfl rfl rfl hc5) rfl ?_
    refine JL.pick_f (b := ((decide (40 < (s.Faults.length : Int))) || (decide (40 < (s.Flaws.length : Int))))) rfl hc5 .none rfl ?_
    exact hJ4 _ ⟨rfl, or_f hc5 rfl⟩
  ·rintro f ⟨hf1, hf19⟩
   refine (JL.norm (i := 1) hf1 (JL.norm (i := 19) hf19 ?_))
   refine JL.done hQ (JQ.go ?_)
   rcases ite_some hF with ⟨hc6, hF⟩ | ⟨hc6, hF⟩
   ·refine JC.cond_t (b := (((decide (40 < (s.Faults.length : Int))) || (decide (40 < (s.Flaws.length : Int)))) || (decide (20 < (s.Panels.length : Int))))) rfl hc6 ?_
    refine JC.seq (JC.region (by rfl) ?_)
    intro hQ
    refine JL.assign .none rfl ?_
    refine JL.done hQ (JQ.go (JC.ret (JQ.ret_then ?_)))
    obtain rfl := Option.some.inj hF
    exact JQ.outS rfl (.tmp .nil) rfl
   ·refine JC.cond_f (b := (((decide (40 < (s.Faults.length : Int))) || (decide (40 < (s.Flaws.length : Int)))) || (decide (20 < (s.Panels.length : Int))))) rfl hc6 ?_
    refine JC.skip (JQ.go (JC.seq (JC.seq (JC.region (by rfl) ?_))))
    intro hQ
    refine JL.assign .none rfl ?_
    refine JL.done hQ (JQ.go ?_)
    obtain ⟨r37, hlr37, hKr37⟩ := bind_some hF
    refine JC.join (fun (_ : Unit) H36 f bs gs => f 1 = .pointer (some ⟨b1, 0, none⟩) ∧ bs = [(b1, .cells [.int .i64 s.Width, .int .i64 s.Length, s_v2, s_v3, s_v4].toArray 25)] ∧ gs = [] ∧ HSub H H36 ∧ Sum.inr () = r37) ?_ ?_
    ·skip
     refine JC.block (JC.loop hlr37 (fun (i_56 : Int) H57 f bs gs => f 1 = .pointer (some ⟨b1, 0, none⟩) ∧ f 3 = .int .i64 i_56 ∧ bs = [(b1, .cells [.int .i64 s.Width, .int .i64 s.Length, s_v2, s_v3, s_v4].toArray 25)] ∧ gs = [] ∧ HSub H H57) ⟨rfl, rfl, rfl, rfl, (HSub.refl _)⟩ ?_)
     rintro i_56 x59 H57 f bs gs ⟨hf1, hf3, rfl, rfl, hs57⟩ hF hr58
     rw [F_law03_Far_s1] at hF
     refine (JC.norm (i := 1) hf1 (JC.norm (i := 3) hf3 ?_))
     refine JC.seq (JC.seq (JC.region (by rfl) ?_))
     intro hQ
     refine JL.move .none rfl ?_
     refine JL.fieldAddr fo_25_4 rfl .none rfl ?_
     refine JL.loadOwn 0 az_23 rfl rfl rfl .none rfl ?_
     refine JL.lenSL (R := R_Panel) ul_23 (SL.mono R_Panel_mono hs57 hs_4) .none rfl ?_
     refine JL.bin rfl rfl rfl .none rfl ?_
     refine JL.done hQ (JQ.go ?_)
     rcases ite_some hF with ⟨hc60, hF⟩ | ⟨hc60, hF⟩
     ·refine JC.cond_t (b := decide (i_56 < (s.Panels.length : Int))) rfl hc60 ?_
      refine JC.skip (JQ.go (JC.seq (JC.block (JC.seq (JC.region (by rfl) ?_)))))
      intro hQ
      refine JL.fieldAddr fo_25_4 rfl .none rfl ?_
      refine JL.loadOwn 0 az_23 rfl rfl rfl .none rfl ?_
      refine JL.move .none rfl ?_
      obtain ⟨y61, hy61, hF⟩ := bind_some hF
      refine JL.indexSL (R := R_Panel) sl_23 (SL.mono R_Panel_mono hs57 hs_4) rfl hy61 .none rfl ?_
      rintro b62 o63 cs64 hc65 - ⟨y61_v0, rfl, hy61_0⟩
      refine JL.fieldAddr fo_30_0 rfl .none rfl ?_
      refine JL.loadH 0 az_28 rfl hc65 rfl .none rfl ?_
      refine JL.lenSL (R := R_Span) ul_28 hy61_0 .none rfl ?_
      refine JL.bin rfl rfl rfl .none rfl ?_
      refine JL.done hQ (JQ.go (JC.fresh (fun f => f 1 = .pointer (some ⟨b1, 0, none⟩) ∧ f 3 = .int .i64 i_56 ∧ f 34 = .bool (decide (20 < (y61.Rows.length : Int)))) ⟨rfl, rfl, rfl⟩ ?_))
      rintro f ⟨hf1, hf3, hf34⟩
      refine (JC.norm (i := 1) hf1 (JC.norm (i := 3) hf3 (JC.norm (i := 34) hf34 ?_)))
      rcases ite_some hF with ⟨hc66, hF⟩ | ⟨hc66, hF⟩
      ·refine JC.cond_t (b := decide (20 < (y61.Rows.length : Int))) rfl hc66 ?_
       refine JC.seq (JC.region (by rfl) ?_)
       intro hQ
       refine JL.assign .none rfl ?_
       refine JL.done hQ (JQ.go (JC.ret (JQ.ret_block (JQ.ret_then (JQ.ret_then (JQ.ret_block (JQ.ret_join (JQ.ret_then ?_))))))))
       obtain rfl := Option.some.inj hF
       have ehr58 := hr58 _ rfl
       subst ehr58
       have hF := hKr37
       try dsimp only at hF
       obtain rfl := Option.some.inj hF
       exact JQ.outS rfl (.tmp .nil) rfl
      ·refine JC.cond_f (b := decide (20 < (y61.Rows.length : Int))) rfl hc66 ?_
       refine JC.skip (JQ.normal_block (JQ.go (JC.region (by rfl) ?_)))
       intro hQ
       refine JL.move .none rfl ?_
       refine JL.bin rfl rfl rfl .none rfl ?_
       refine JL.assign .none rfl ?_
       refine JL.done hQ ?_
       obtain rfl := Option.some.inj hF
       exact JQ.next rfl ⟨rfl, rfl, rfl, rfl, hs57⟩
     ·refine JC.cond_f (b := decide (i_56 < (s.Panels.length : Int))) rfl hc60 ?_
      refine JC.exit (JQ.exit_then (JQ.exit_then (JQ.exit_block ?_)))
      obtain rfl := Option.some.inj hF
      have ehr58 := hr58 _ rfl
      subst ehr58
      exact JQ.join () ⟨rfl, rfl, rfl, hs57, rfl⟩
    ·rintro _ H36 f bs gs ⟨hf1, rfl, rfl, hs36, rfl⟩
     have hF := hKr37
     try dsimp only at hF
     refine (JQ.norm (i := 1) hf1 ?_)
     refine JQ.go (JC.seq (JC.region (by rfl) ?_))
     intro hQ
     refine JL.loadOwn 0 az_25 rfl rfl rfl .none rfl ?_
     obtain ⟨y67, hy67, hF⟩ := bind_some hF
     refine JL.callS (c_ref03_Check n H36 s s_v2 (SL.mono R_Cell_mono hs36 hs_2) s_v3 (SL.mono R_Cell_mono hs36 hs_3) s_v4 (SL.mono R_Panel_mono hs36 hs_4) y67 hy67) rfl en_34 .none rfl ?_
     refine JL.bin rfl rfl rfl .none rfl ?_
     refine JL.move .none rfl ?_
     refine JL.cut 21 (fun f => f 59 = .bool ((y67 == 0) && ((((decide (5 < s.Width)) || (decide (6 < s.Length))) || (decide (3 < (s.Panels.length : Int)))) || (decide (3 < (s.Flaws.length : Int)))))) ?_ ?_
     ·intro hJ74
      rcases bcases (y67 == 0) with hc75 | hc75
      ·skip
       refine JL.fieldAddr fo_25_0 rfl (.some rfl rfl rfl hc75) rfl ?_
       refine JL.loadOwn 0 az_3 rfl rfl rfl (.some rfl rfl rfl hc75) rfl ?_
       refine JL.bin rfl rfl rfl (.some rfl rfl rfl hc75) rfl ?_
       refine JL.move (.some rfl rfl rfl hc75) rfl ?_
       refine JL.cut 4 (fun f => f 1 = .pointer (some ⟨b1, 0, none⟩) ∧ f 38 = .bool (y67 == 0) ∧ f 46 = .bool ((decide (5 < s.Width)) || (decide (6 < s.Length)))) ?_ ?_
       ·intro hJ76
        rcases bcases (decide (5 < s.Width)) with hc77 | hc77
        ·skip
         refine JL.skip (.bool rfl rfl rfl hc77) rfl ?_
         refine JL.skip (.bool rfl rfl rfl hc77) rfl ?_
         refine JL.skip (.bool rfl rfl rfl hc77) rfl ?_
         refine JL.pick_t (b := decide (5 < s.Width)) rfl hc77 (.some rfl rfl rfl hc75) rfl ?_
         exact hJ76 _ ⟨rfl, rfl, or_t hc77 rfl⟩
        ·skip
         refine JL.fieldAddr fo_25_1 rfl (.some rfl rfl rfl hc77) rfl ?_
         refine JL.loadOwn 0 az_3 rfl rfl rfl (.some rfl rfl rfl hc77) rfl ?_
         refine JL.bin rfl rfl rfl (.some rfl rfl rfl hc77) rfl ?_
         refine JL.pick_f (b := decide (5 < s.Width)) rfl hc77 (.some rfl rfl rfl hc75) rfl ?_
         exact hJ76 _ ⟨rfl, rfl, or_f hc77 rfl⟩
       ·rintro f ⟨hf1, hf38, hf46⟩
        refine (JL.norm (i := 1) hf1 (JL.norm (i := 38) hf38 (JL.norm (i := 46) hf46 ?_)))
        refine JL.move (.some rfl rfl rfl hc75) rfl ?_
        refine JL.cut 5 (fun f => f 1 = .pointer (some ⟨b1, 0, none⟩) ∧ f 38 = .bool (y67 == 0) ∧ f 52 = .bool (((decide (5 < s.Width)) || (decide (6 < s.Length))) || (decide (3 < (s.Panels.length : Int))))) ?_ ?_
        ·intro hJ78
         rcases bcases ((decide (5 < s.Width)) || (decide (6 < s.Length))) with hc79 | hc79
         ·skip
          refine JL.skip (.bool rfl rfl rfl hc79) rfl ?_
          refine JL.skip (.bool rfl rfl rfl hc79) rfl ?_
          refine JL.skip (.bool rfl rfl rfl hc79) rfl ?_
          refine JL.skip (.bool rfl rfl rfl hc79) rfl ?_
          refine JL.pick_t (b := ((decide (5 < s.Width)) || (decide (6 < s.Length)))) rfl hc79 (.some rfl rfl rfl hc75) rfl ?_
          exact hJ78 _ ⟨rfl, rfl, or_t hc79 rfl⟩
         ·skip
          refine JL.fieldAddr fo_25_4 rfl (.some rfl rfl rfl hc79) rfl ?_
          refine JL.loadOwn 0 az_23 rfl rfl rfl (.some rfl rfl rfl hc79) rfl ?_
          refine JL.lenSL (R := R_Panel) ul_23 (SL.mono R_Panel_mono hs36 hs_4) (.some rfl rfl rfl hc79) rfl ?_
          refine JL.bin rfl rfl rfl (.some rfl rfl rfl hc79) rfl ?_
          refine JL.pick_f (b := ((decide (5 < s.Width)) || (decide (6 < s.Length)))) rfl hc79 (.some rfl rfl rfl hc75) rfl ?_
          exact hJ78 _ ⟨rfl, rfl, or_f hc79 rfl⟩
        ·rintro f ⟨hf1, hf38, hf52⟩
         refine (JL.norm (i := 1) hf1 (JL.norm (i := 38) hf38 (JL.norm (i := 52) hf52 ?_)))
         refine JL.move (.some rfl rfl rfl hc75) rfl ?_
         refine JL.cut 5 (fun f => f 38 = .bool (y67 == 0) ∧ f 58 = .bool ((((decide (5 < s.Width)) || (decide (6 < s.Length))) || (decide (3 < (s.Panels.length : Int)))) || (decide (3 < (s.Flaws.length : Int))))) ?_ ?_
         ·intro hJ80
          rcases bcases (((decide (5 < s.Width)) || (decide (6 < s.Length))) || (decide (3 < (s.Panels.length : Int)))) with hc81 | hc81
          ·skip
           refine JL.skip (.bool rfl rfl rfl hc81) rfl ?_
           refine JL.skip (.bool rfl rfl rfl hc81) rfl ?_
           refine JL.skip (.bool rfl rfl rfl hc81) rfl ?_
           refine JL.skip (.bool rfl rfl rfl hc81) rfl ?_
           refine JL.pick_t (b := (((decide (5 < s.Width)) || (decide (6 < s.Length))) || (decide (3 < (s.Panels.length : Int))))) rfl hc81 (.some rfl rfl rfl hc75) rfl ?_
           exact hJ80 _ ⟨rfl, or_t hc81 rfl⟩
          ·skip
           refine JL.fieldAddr fo_25_3 rfl (.some rfl rfl rfl hc81) rfl ?_
           refine JL.loadOwn 0 az_22 rfl rfl rfl (.some rfl rfl rfl hc81) rfl ?_
           refine JL.lenSL (R := R_Cell) ul_22 (SL.mono R_Cell_mono hs36 hs_3) (.some rfl rfl rfl hc81) rfl ?_
           refine JL.bin rfl rfl rfl (.some rfl rfl rfl hc81) rfl ?_
           refine JL.pick_f (b := (((decide (5 < s.Width)) || (decide (6 < s.Length))) || (decide (3 < (s.Panels.length : Int))))) rfl hc81 (.some rfl rfl rfl hc75) rfl ?_
           exact hJ80 _ ⟨rfl, or_f hc81 rfl⟩
         ·rintro f ⟨hf38, hf58⟩
          refine (JL.norm (i := 38) hf38 (JL.norm (i := 58) hf58 ?_))
          refine JL.pick_t (b := (y67 == 0)) rfl hc75 .none rfl ?_
          exact hJ74 _ (and_t hc75 rfl)
      ·skip
       refine JL.skip (.bool rfl rfl rfl hc75) rfl ?_
       refine JL.skip (.bool rfl rfl rfl hc75) rfl ?_
       refine JL.skip (.bool rfl rfl rfl hc75) rfl ?_
       refine JL.skip (.bool rfl rfl rfl hc75) rfl ?_
       refine JL.skip (.no rfl rfl rfl) rfl ?_
       refine JL.skip (.no rfl rfl rfl) rfl ?_
       refine JL.skip (.no rfl rfl rfl) rfl ?_
       refine JL.skip (.bool rfl rfl rfl hc75) rfl ?_
       refine JL.skip (.bool rfl rfl rfl hc75) rfl ?_
       refine JL.skip (.no rfl rfl rfl) rfl ?_
       refine JL.skip (.no rfl rfl rfl) rfl ?_
       refine JL.skip (.no rfl rfl rfl) rfl ?_
       refine JL.skip (.no rfl rfl rfl) rfl ?_
       refine JL.skip (.bool rfl rfl rfl hc75) rfl ?_
       refine JL.skip (.bool rfl rfl rfl hc75) rfl ?_
       refine JL.skip (.no rfl rfl rfl) rfl ?_
       refine JL.skip (.no rfl rfl rfl) rfl ?_
       refine JL.skip (.no rfl rfl rfl) rfl ?_
       refine JL.skip (.no rfl rfl rfl) rfl ?_
       refine JL.skip (.bool rfl rfl rfl hc75) rfl ?_
       refine JL.pick_f (b := (y67 == 0)) rfl hc75 .none rfl ?_
       exact hJ74 _ (and_f hc75 rfl)
     ·rintro f hf59
      refine (JL.norm (i := 59) hf59 ?_)
      refine JL.assign .none rfl ?_
      refine JL.done hQ (JQ.go (JC.ret ?_))
      obtain rfl := Option.some.inj hF
      exact JQ.outS rfl (.tmp .nil) rfl
-- 10 ferrule/ferrulelaw03.ready
def F_law03_ready (n : Nat) (s : Lap) : Option Bool :=
 (F_law03_Far n s).bind fun y2 => (if (!y2) = true then ((F_ref03_Check n s).bind fun y7 => some (y7 == 0)) else (some false) : Option Bool).bind fun p4 => some p4
theorem c_law03_ready (n : Nat) (H : Hp) (s : Lap) (s_v2 : Value) (hs_2 : SL H 2 R_Cell s_v2 s.Faults) (s_v3 : Value) (hs_3 : SL H 2 R_Cell s_v3 s.Flaws) (s_v4 : Value) (hs_4 : SL H 1 R_Panel s_v4 s.Panels) (y : Bool) (hF : F_law03_ready n s = some y) : SC Try.prog 10 [.agg [.int .i64 s.Width, .int .i64 s.Length, s_v2, s_v3, s_v4].toArray] (.bool y) H := by
 rw [F_law03_ready] at hF
 refine SC.of (N := 11) Try.func10 rfl rfl rfl fun w => ?_
 refine JC.seq (JC.region (by rfl) ?_)
 intro hQ
 refine JL.box (cs := [.int .i64 s.Width, .int .i64 s.Length, s_v2, s_v3, s_v4]) rfl .none rfl ?_
 intro b1
 refine JL.assign .none rfl ?_
 refine JL.done hQ (JQ.go (JC.seq (JC.region (by rfl) ?_)))
 intro hQ
 refine JL.loadOwn 0 az_25 rfl rfl rfl .none rfl ?_
 obtain ⟨y2, hy2, hF⟩ := bind_some hF
 refine JL.callS (c_law03_Far n H s s_v2 hs_2 s_v3 hs_3 s_v4 hs_4 y2 hy2) rfl en_27 .none rfl ?_
 refine JL.not rfl .none rfl ?_
 refine JL.move .none rfl ?_
 obtain ⟨p4, hp4, hF⟩ := bind_some hF
 refine JL.cut 4 (fun f => f 10 = .bool p4) ?_ ?_
 ·intro hJ5
  rcases ite_some hp4 with ⟨hc6, hF⟩ | ⟨hc6, hF⟩
  ·skip
   refine JL.loadOwn 0 az_25 rfl rfl rfl (.some rfl rfl rfl hc6) rfl ?_
   obtain ⟨y7, hy7, hF⟩ := bind_some hF
   refine JL.callS (c_ref03_Check n H s s_v2 hs_2 s_v3 hs_3 s_v4 hs_4 y7 hy7) rfl en_34 (.some rfl rfl rfl hc6) rfl ?_
   refine JL.bin rfl rfl rfl (.some rfl rfl rfl hc6) rfl ?_
   refine JL.pick_t (b := (!y2)) rfl hc6 .none rfl ?_
   obtain rfl := Option.some.inj hF
   exact hJ5 _ (rfl)
  ·skip
   refine JL.skip (.bool rfl rfl rfl hc6) rfl ?_
   refine JL.skip (.bool rfl rfl rfl hc6) rfl ?_
   refine JL.skip (.bool rfl rfl rfl hc6) rfl ?_
   refine JL.pick_f (b := (!y2)) rfl hc6 .none rfl ?_
   obtain rfl := Option.some.inj hF
   exact hJ5 _ (rfl)
 ·rintro f hf10
  refine (JL.norm (i := 10) hf10 ?_)
  refine JL.assign .none rfl ?_
  refine JL.done hQ (JQ.go (JC.ret ?_))
  obtain rfl := Option.some.inj hF
  exact JQ.outS rfl (.tmp .nil) rfl
-- 42 ferrule/ferrulelaw03.Example
def F_law03_Example (n : Nat)  : Option Lap :=
 some (Lap.mk 4 5 [(Cell.mk 0 1)] [(Cell.mk 1 3)] [(Panel.mk [(Span.mk 0 1), (Span.mk 0 1)]), (Panel.mk [(Span.mk 0 2)])])
theorem c_law03_Example (n : Nat) (H : Hp)  (y : Lap) (hF : F_law03_Example n = some y) : HC Try.prog 42 [] H (fun H' v => ∃ ra_v2 ra_v3 ra_v4 : Value, v = .agg [.int .i64 y.Width, .int .i64 y.Length, ra_v2, ra_v3, ra_v4].toArray ∧ SL H' 2 R_Cell ra_v2 y.Faults ∧ SL H' 2 R_Cell ra_v3 y.Flaws ∧ SL H' 1 R_Panel ra_v4 y.Panels) := by
 rw [F_law03_Example] at hF
 refine HC.of (N := 14) Try.func42 rfl rfl rfl fun w => ?_
 refine JC.seq (JC.region (by rfl) ?_)
 intro hQ
 refine JL.alloc ze_25 .none rfl ?_
 intro b1
 refine JL.done hQ (JQ.go (JC.seq (JC.region (by rfl) ?_)))
 intro hQ
 refine JL.build (l := [.int .i64 0, .int .i64 1]) (by kernel_rfl) .none rfl ?_
 refine JL.buildSlice (e := 27) (l := [.int .i64 0, .int .i64 1]) (by kernel_rfl) .none rfl ?_
 intro b2
 refine JL.build (l := [.int .i64 1, .int .i64 3]) (by kernel_rfl) .none rfl ?_
 refine JL.buildSlice (e := 27) (l := [.int .i64 1, .int .i64 3]) (by kernel_rfl) .none rfl ?_
 intro b3
 refine JL.build (l := [.int .i64 0, .int .i64 1]) (by kernel_rfl) .none rfl ?_
 refine JL.build (l := [.int .i64 0, .int .i64 1]) (by kernel_rfl) .none rfl ?_
 refine JL.buildSlice (e := 46) (l := [.int .i64 0, .int .i64 1, .int .i64 0, .int .i64 1]) (by kernel_rfl) .none rfl ?_
 intro b4
 refine JL.build (l := [.slice (some ⟨b4, 0, none⟩) 2 2]) (by kernel_rfl) .none rfl ?_
 refine JL.build (l := [.int .i64 0, .int .i64 2]) (by kernel_rfl) .none rfl ?_
 refine JL.buildSlice (e := 46) (l := [.int .i64 0, .int .i64 2]) (by kernel_rfl) .none rfl ?_
 intro b5
 refine JL.build (l := [.slice (some ⟨b5, 0, none⟩) 1 1]) (by kernel_rfl) .none rfl ?_
 refine JL.buildSlice (e := 30) (l := [.slice (some ⟨b4, 0, none⟩) 2 2, .slice (some ⟨b5, 0, none⟩) 1 1]) (by kernel_rfl) .none rfl ?_
 intro b6
 refine JL.build (l := [.int .i64 4, .int .i64 5, .slice (some ⟨b2, 0, none⟩) 1 1, .slice (some ⟨b3, 0, none⟩) 1 1, .slice (some ⟨b6, 0, none⟩) 2 2]) (by kernel_rfl) .none rfl ?_
 refine JL.storeOwn 5 (cs := [.int .i64 4, .int .i64 5, .slice (some ⟨b2, 0, none⟩) 1 1, .slice (some ⟨b3, 0, none⟩) 1 1, .slice (some ⟨b6, 0, none⟩) 2 2]) az_25 rfl rfl rfl (one_cons rfl (one_cons rfl (one_cons rfl (one_cons rfl (one_cons rfl one_nil))))) rfl rfl .none ?_
 refine JL.done hQ (JQ.go (JC.fresh (fun f => f 0 = .pointer (some ⟨b1, 0, none⟩)) rfl ?_))
 rintro f hf0
 refine (JC.norm (i := 0) hf0 ?_)
 refine JC.ret (JQ.freezeC 4 (l := [.int .i64 0, .int .i64 1]) rfl ?_)
 intro H7 hs7 hc8
 have hg9 : SL H7 2 R_Cell (.slice (some ⟨b2, 0, none⟩) 1 1) [(Cell.mk 0 1)] := CH.sl (l := [(Cell.mk 0 1)]) (CH.cons (cs := [.int .i64 0, .int .i64 1]) rfl rfl CH.nil) hc8 ⟨by simp, by simp⟩
 refine JQ.freezeC 3 (l := [.int .i64 1, .int .i64 3]) rfl ?_
 intro H10 hs10 hc11
 have hg12 : SL H10 2 R_Cell (.slice (some ⟨b3, 0, none⟩) 1 1) [(Cell.mk 1 3)] := CH.sl (l := [(Cell.mk 1 3)]) (CH.cons (cs := [.int .i64 1, .int .i64 3]) rfl rfl CH.nil) hc11 ⟨by simp, by simp⟩
 refine JQ.freezeC 2 (l := [.int .i64 0, .int .i64 1, .int .i64 0, .int .i64 1]) rfl ?_
 intro H13 hs13 hc14
 have hg15 : SL H13 2 R_Span (.slice (some ⟨b4, 0, none⟩) 2 2) [(Span.mk 0 1), (Span.mk 0 1)] := CH.sl (l := [(Span.mk 0 1), (Span.mk 0 1)]) (CH.cons (cs := [.int .i64 0, .int .i64 1]) rfl rfl (CH.cons (cs := [.int .i64 0, .int .i64 1]) rfl rfl CH.nil)) hc14 ⟨by simp, by simp⟩
 refine JQ.freezeC 1 (l := [.int .i64 0, .int .i64 2]) rfl ?_
 intro H16 hs16 hc17
 have hg18 : SL H16 2 R_Span (.slice (some ⟨b5, 0, none⟩) 1 1) [(Span.mk 0 2)] := CH.sl (l := [(Span.mk 0 2)]) (CH.cons (cs := [.int .i64 0, .int .i64 2]) rfl rfl CH.nil) hc17 ⟨by simp, by simp⟩
 refine JQ.freezeC 0 (l := [(.slice (some ⟨b4, 0, none⟩) 2 2), (.slice (some ⟨b5, 0, none⟩) 1 1)]) rfl ?_
 intro H19 hs19 hc20
 have hg21 : SL H19 1 R_Panel (.slice (some ⟨b6, 0, none⟩) 2 2) [(Panel.mk [(Span.mk 0 1), (Span.mk 0 1)]), (Panel.mk [(Span.mk 0 2)])] := CH.sl (l := [(Panel.mk [(Span.mk 0 1), (Span.mk 0 1)]), (Panel.mk [(Span.mk 0 2)])]) (CH.cons (cs := [(.slice (some ⟨b4, 0, none⟩) 2 2)]) rfl ⟨(.slice (some ⟨b4, 0, none⟩) 2 2), rfl, (SL.mono R_Span_mono (HSub.trans hs16 hs19) hg15)⟩ (CH.cons (cs := [(.slice (some ⟨b5, 0, none⟩) 1 1)]) rfl ⟨(.slice (some ⟨b5, 0, none⟩) 1 1), rfl, (SL.mono R_Span_mono hs19 hg18)⟩ CH.nil)) hc20 ⟨by simp, by simp⟩
 obtain rfl := Option.some.inj hF
 exact JQ.outH rfl (.cell 0 az_25 rfl rfl rfl .nil) ⟨(.slice (some ⟨b2, 0, none⟩) 1 1), (.slice (some ⟨b3, 0, none⟩) 1 1), (.slice (some ⟨b6, 0, none⟩) 2 2), rfl, (SL.mono R_Cell_mono (HSub.trans hs10 (HSub.trans hs13 (HSub.trans hs16 hs19))) hg9), (SL.mono R_Cell_mono (HSub.trans hs13 (HSub.trans hs16 hs19)) hg12), hg21⟩
-- 48 ferrule/lays.within
def F_lays_within (n : Nat) (n_ : Int) (low : Int) (high : Int) : Option Bool :=
 some ((decide (low ≤ n_)) && (decide (n_ ≤ high)))
theorem c_lays_within (n : Nat) (H : Hp) (n_ : Int) (low : Int) (high : Int) (y : Bool) (hF : F_lays_within n n_ low high = some y) : SC Try.prog 48 [.int .i64 n_, .int .i64 low, .int .i64 high] (.bool y) H := by
 rw [F_lays_within] at hF
 refine SC.of (N := 15) Try.func48 rfl rfl rfl fun w => ?_
 refine JC.seq (JC.region (by rfl) ?_)
 intro hQ
 refine JL.assign .none rfl ?_
 refine JL.done hQ (JQ.go (JC.seq (JC.region (by rfl) ?_)))
 intro hQ
 refine JL.move .none rfl ?_
 refine JL.move .none rfl ?_
 refine JL.bin rfl rfl rfl .none rfl ?_
 refine JL.move .none rfl ?_
 refine JL.cut 4 (fun f => f 14 = .bool ((decide (low ≤ n_)) && (decide (n_ ≤ high)))) ?_ ?_
 ·intro hJ1
  rcases bcases (decide (low ≤ n_)) with hc2 | hc2
  ·skip
   refine JL.move (.some rfl rfl rfl hc2) rfl ?_
   refine JL.move (.some rfl rfl rfl hc2) rfl ?_
   refine JL.bin rfl rfl rfl (.some rfl rfl rfl hc2) rfl ?_
   refine JL.pick_t (b := decide (low ≤ n_)) rfl hc2 .none rfl ?_
   exact hJ1 _ (and_t hc2 rfl)
  ·skip
   refine JL.skip (.bool rfl rfl rfl hc2) rfl ?_
   refine JL.skip (.bool rfl rfl rfl hc2) rfl ?_
   refine JL.skip (.bool rfl rfl rfl hc2) rfl ?_
   refine JL.pick_f (b := decide (low ≤ n_)) rfl hc2 .none rfl ?_
   exact hJ1 _ (and_f hc2 rfl)
 ·rintro f hf14
  refine (JL.norm (i := 14) hf14 ?_)
  refine JL.assign .none rfl ?_
  refine JL.done hQ (JQ.go (JC.ret ?_))
  obtain rfl := Option.some.inj hF
  exact JQ.outS rfl (.tmp .nil) rfl
-- 59 slices.Concat[[]ferrule/api.Cell,ferrule/api.Cell]
def F_slices_Concat___api_Cell_api_Cell__s1 (n : Nat) (slices : List (List Cell)) : Int × Int → Option ((Int × Int) ⊕ Int)
 | (size_71, x_72) => if decide (x_72 < (slices.length : Int)) = true then ((geti slices x_72).bind fun y77 => (if decide ((w64 (size_71 + (y77.length : Int))) < 0) = true then (none) else (some ())).bind fun (_ : Unit) => some (Sum.inl ((w64 (size_71 + (y77.length : Int))), (w64 (x_72 + 1))))) else (some (Sum.inr size_71))
def F_slices_Concat___api_Cell_api_Cell__s2 (n : Nat) (slices : List (List Cell)) : Int × List Cell → Option ((Int × List Cell) ⊕ (List Cell))
 | (x_159, out_160) => if decide (x_159 < (slices.length : Int)) = true then ((geti slices x_159).bind fun y165 => (lim (out_160 ++ y165)).bind fun l170 => some (Sum.inl ((w64 (x_159 + 1)), l170))) else (some (Sum.inr out_160))
def F_slices_Concat___api_Cell_api_Cell_ (n : Nat) (slices : List (List Cell)) : Option (List Cell) :=
 (loopO n (F_slices_Concat___api_Cell_api_Cell__s1 n slices) (0, 0)).bind fun size_42 => (growck size_42).bind fun u86 => (loopO n (F_slices_Concat___api_Cell_api_Cell__s2 n slices) (0, ([] : List Cell))).bind fun out_130 => some out_130
theorem c_slices_Concat___api_Cell_api_Cell_ (n : Nat) (H : Hp) (slices : List (List Cell)) (slices_v0 : Value) (hslices_0 : SL H 1 (RSl 2 R_Cell) slices_v0 slices) (y : (List Cell)) (hF : F_slices_Concat___api_Cell_api_Cell_ n slices = some y) : HC Try.prog 59 [slices_v0] H (fun H' ra_v0 => SL H' 2 R_Cell ra_v0 y) := by
 rw [F_slices_Concat___api_Cell_api_Cell_] at hF
 refine HC.of (N := 36) Try.func59 rfl rfl rfl fun w => ?_
 refine JC.seq (JC.region (by rfl) ?_)
 intro hQ
 refine JL.assign .none rfl ?_
 refine JL.done hQ (JQ.go (JC.seq (JC.region (by rfl) ?_)))
 intro hQ
 refine JL.assign .none rfl ?_
 refine JL.done hQ (JQ.go (JC.seq (JC.seq (JC.region (by rfl) ?_))))
 intro hQ
 refine JL.move .none rfl ?_
 refine JL.lenSL (R := (RSl 2 R_Cell)) ul_108 hslices_0 .none rfl ?_
 refine JL.move .none rfl ?_
 refine JL.done hQ (JQ.go ?_)
 obtain ⟨r44, hlr44, hKr44⟩ := bind_some hF
 refine JC.join (fun (size_42 : Int) H43 f bs gs => f 0 = slices_v0 ∧ f 3 = .int .i64 size_42 ∧ bs = [] ∧ gs = [] ∧ HSub H H43 ∧ size_42 = r44) ?_ ?_
 ·skip
  refine JC.block (JC.loop hlr44 (fun (x : Int × Int) H73 f bs gs => match x with | (size_71, x_72) => f 0 = slices_v0 ∧ f 3 = .int .i64 size_71 ∧ f 9 = slices_v0 ∧ f 10 = .int .i64 (slices.length : Int) ∧ f 11 = .int .i64 x_72 ∧ bs = [] ∧ gs = [] ∧ HSub H H73) ⟨rfl, rfl, rfl, rfl, rfl, rfl, rfl, (HSub.refl _)⟩ ?_)
  rintro ⟨size_71, x_72⟩ x75 H73 f bs gs ⟨hf0, hf3, hf9, hf10, hf11, rfl, rfl, hs73⟩ hF hr74
  rw [F_slices_Concat___api_Cell_api_Cell__s1] at hF
  refine (JC.norm (i := 0) hf0 (JC.norm (i := 3) hf3 (JC.norm (i := 9) hf9 (JC.norm (i := 10) hf10 (JC.norm (i := 11) hf11 ?_)))))
  refine JC.seq (JC.region (by rfl) ?_)
  intro hQ
  refine JL.bin rfl rfl rfl .none rfl ?_
  refine JL.done hQ (JQ.go (JC.seq ?_))
  rcases ite_some hF with ⟨hc76, hF⟩ | ⟨hc76, hF⟩
  ·refine JC.cond_t (b := decide (x_72 < (slices.length : Int))) rfl hc76 ?_
   refine JC.skip (JQ.go (JC.seq (JC.block (JC.seq (JC.region (by rfl) ?_)))))
   intro hQ
   obtain ⟨y77, hy77, hF⟩ := bind_some hF
   refine JL.indexSL (R := (RSl 2 R_Cell)) sl_108 (SL.mono (RSl.mono R_Cell_mono) hs73 hslices_0) rfl hy77 .none rfl ?_
   rintro b78 o79 cs80 hc81 - ⟨y77_v0, rfl, hy77_0⟩
   refine JL.loadH 0 az_22 rfl hc81 rfl .none rfl ?_
   refine JL.assign .none rfl ?_
   refine JL.done hQ (JQ.go (JC.seq (JC.region (by rfl) ?_)))
   intro hQ
   refine JL.move .none rfl ?_
   refine JL.move .none rfl ?_
   refine JL.lenSL (R := R_Cell) ul_22 hy77_0 .none rfl ?_
   refine JL.bin rfl rfl rfl .none rfl ?_
   refine JL.assign .none rfl ?_
   refine JL.done hQ (JQ.go (JC.seq (JC.region (by rfl) ?_)))
   intro hQ
   refine JL.move .none rfl ?_
   refine JL.bin rfl rfl rfl .none rfl ?_
   refine JL.done hQ (JQ.go (JC.fresh (fun f => f 0 = slices_v0 ∧ f 3 = .int .i64 (w64 (size_71 + (y77.length : Int))) ∧ f 9 = slices_v0 ∧ f 10 = .int .i64 (slices.length : Int) ∧ f 11 = .int .i64 x_72 ∧ f 20 = .bool (decide ((w64 (size_71 + (y77.length : Int))) < 0))) ⟨rfl, rfl, rfl, rfl, rfl, rfl⟩ ?_))
   rintro f ⟨hf0, hf3, hf9, hf10, hf11, hf20⟩
   refine (JC.norm (i := 0) hf0 (JC.norm (i := 3) hf3 (JC.norm (i := 9) hf9 (JC.norm (i := 10) hf10 (JC.norm (i := 11) hf11 (JC.norm (i := 20) hf20 ?_))))))
   obtain ⟨r84, hlr84, hKr84⟩ := bind_some hF
   refine JC.join (fun (_ : Unit) H83 f bs gs => f 0 = slices_v0 ∧ f 3 = .int .i64 (w64 (size_71 + (y77.length : Int))) ∧ f 9 = slices_v0 ∧ f 10 = .int .i64 (slices.length : Int) ∧ f 11 = .int .i64 x_72 ∧ bs = [] ∧ gs = [] ∧ HSub H73 H83 ∧ () = r84) ?_ ?_
   ·have hF := hlr84
    rcases ite_some hF with ⟨hc85, hF⟩ | ⟨hc85, hF⟩
    ·refine JC.cond_t (b := decide ((w64 (size_71 + (y77.length : Int))) < 0)) rfl hc85 ?_
     cases hF
    ·refine JC.cond_f (b := decide ((w64 (size_71 + (y77.length : Int))) < 0)) rfl hc85 ?_
     refine JC.skip ?_
     obtain rfl := Option.some.inj hF
     exact JQ.join () ⟨rfl, rfl, rfl, rfl, rfl, rfl, rfl, (HSub.refl _), rfl⟩
   ·rintro _ H83 f bs gs ⟨hf0, hf3, hf9, hf10, hf11, rfl, rfl, hs83, rfl⟩
    have hF := hKr84
    try dsimp only at hF
    refine (JQ.norm (i := 0) hf0 (JQ.norm (i := 3) hf3 (JQ.norm (i := 9) hf9 (JQ.norm (i := 10) hf10 (JQ.norm (i := 11) hf11 ?_)))))
    refine JQ.normal_block (JQ.go (JC.region (by rfl) ?_))
    intro hQ
    refine JL.bin rfl rfl rfl .none rfl ?_
    refine JL.move .none rfl ?_
    refine JL.done hQ ?_
    obtain rfl := Option.some.inj hF
    exact JQ.next rfl ⟨rfl, rfl, rfl, rfl, rfl, rfl, rfl, (HSub.trans hs73 hs83)⟩
  ·refine JC.cond_f (b := decide (x_72 < (slices.length : Int))) rfl hc76 ?_
   refine JC.exit (JQ.exit_then (JQ.exit_then (JQ.exit_block ?_)))
   obtain rfl := Option.some.inj hF
   have ehr74 := hr74 _ rfl
   subst ehr74
   exact JQ.join size_71 ⟨rfl, rfl, rfl, rfl, hs73, rfl⟩
 ·rintro size_42 H43 f bs gs ⟨hf0, hf3, rfl, rfl, hs43, rfl⟩
  have hF := hKr44
  try dsimp only at hF
  refine (JQ.norm (i := 0) hf0 (JQ.norm (i := 3) hf3 ?_))
  refine JQ.go (JC.seq (JC.region (by rfl) ?_))
  intro hQ
  refine JL.move .none rfl ?_
  obtain ⟨u86, hu86, hF⟩ := bind_some hF
  refine JL.callO (c_Grow H43 size_42 u86 hu86) rfl en_74 .none rfl ?_
  rintro v87 _ _ ⟨rfl, rfl⟩
  refine JL.assign .none rfl ?_
  refine JL.done hQ (JQ.go (JC.seq (JC.seq (JC.region (by rfl) ?_))))
  intro hQ
  refine JL.move .none rfl ?_
  refine JL.lenSL (R := (RSl 2 R_Cell)) ul_108 (SL.mono (RSl.mono R_Cell_mono) hs43 hslices_0) .none rfl ?_
  refine JL.move .none rfl ?_
  refine JL.done hQ (JQ.go ?_)
  obtain ⟨r132, hlr132, hKr132⟩ := bind_some hF
  refine JC.join (fun (out_130 : List Cell) H131 f bs gs => ∃ (vout_130 : Value) (xsout_130 : List Value), f 6 = vout_130 ∧ bs = [] ∧ gs = [⟨vout_130, 27, 2, out_130.length, xsout_130⟩] ∧ CH H131 2 R_Cell xsout_130 out_130 ∧ HSub H43 H131 ∧ out_130 = r132) ?_ ?_
  ·skip
   refine JC.block (JC.loop hlr132 (fun (x : Int × List Cell) H161 f bs gs => match x with | (x_159, out_160) => ∃ (vout_160 : Value) (xsout_160 : List Value), f 6 = vout_160 ∧ f 25 = slices_v0 ∧ f 26 = .int .i64 (slices.length : Int) ∧ f 27 = .int .i64 x_159 ∧ bs = [] ∧ gs = [⟨vout_160, 27, 2, out_160.length, xsout_160⟩] ∧ CH H161 2 R_Cell xsout_160 out_160 ∧ HSub H43 H161) ⟨v87, [], rfl, rfl, rfl, rfl, rfl, rfl, CH.nil, (HSub.refl _)⟩ ?_)
   rintro ⟨x_159, out_160⟩ x163 H161 f bs gs ⟨vout_160, xsout_160, hf6, hf25, hf26, hf27, rfl, rfl, hout_160, hs161⟩ hF hr162
   rw [F_slices_Concat___api_Cell_api_Cell__s2] at hF
   refine (JC.norm (i := 6) hf6 (JC.norm (i := 25) hf25 (JC.norm (i := 26) hf26 (JC.norm (i := 27) hf27 ?_))))
   refine JC.seq (JC.region (by rfl) ?_)
   intro hQ
   refine JL.bin rfl rfl rfl .none rfl ?_
   refine JL.done hQ (JQ.go (JC.seq ?_))
   rcases ite_some hF with ⟨hc164, hF⟩ | ⟨hc164, hF⟩
   ·refine JC.cond_t (b := decide (x_159 < (slices.length : Int))) rfl hc164 ?_
    refine JC.skip (JQ.go (JC.seq (JC.block (JC.seq (JC.region (by rfl) ?_)))))
    intro hQ
    obtain ⟨y165, hy165, hF⟩ := bind_some hF
    refine JL.indexSL (R := (RSl 2 R_Cell)) sl_108 (SL.mono (RSl.mono R_Cell_mono) (HSub.trans hs43 hs161) hslices_0) rfl hy165 .none rfl ?_
    rintro b166 o167 cs168 hc169 - ⟨y165_v0, rfl, hy165_0⟩
    refine JL.loadH 0 az_22 rfl hc169 rfl .none rfl ?_
    refine JL.assign .none rfl ?_
    refine JL.done hQ (JQ.go (JC.region (by rfl) ?_))
    intro hQ
    refine JL.move .none rfl ?_
    refine JL.move .none rfl ?_
    obtain ⟨l170, hl170, hF⟩ := bind_some hF
    refine JL.appD (R := R_Cell) 0 (l := out_160) (m := y165) ap_22 rfl ⟨rfl, rfl⟩ rfl hout_160 rfl hy165_0 (R_Cell_one _) hl170 .none rfl ?_
    intro v171 xs172 hch173
    refine JL.assign .none rfl ?_
    refine JL.done hQ (JQ.normal_block (JQ.go (JC.region (by rfl) ?_)))
    intro hQ
    refine JL.bin rfl rfl rfl .none rfl ?_
    refine JL.move .none rfl ?_
    refine JL.done hQ ?_
    obtain rfl := Option.some.inj hF
    exact JQ.next rfl ⟨v171, xs172, rfl, rfl, rfl, rfl, rfl, rfl, hch173, hs161⟩
   ·refine JC.cond_f (b := decide (x_159 < (slices.length : Int))) rfl hc164 ?_
    refine JC.exit (JQ.exit_then (JQ.exit_then (JQ.exit_block ?_)))
    obtain rfl := Option.some.inj hF
    have ehr162 := hr162 _ rfl
    subst ehr162
    exact JQ.join out_160 ⟨vout_160, xsout_160, rfl, rfl, rfl, hout_160, hs161, rfl⟩
  ·rintro out_130 H131 f bs gs ⟨vout_130, xsout_130, hf6, rfl, rfl, hout_130, hs131, rfl⟩
   have hF := hKr132
   try dsimp only at hF
   refine (JQ.norm (i := 6) hf6 ?_)
   refine JQ.go (JC.seq (JC.region (by rfl) ?_))
   intro hQ
   refine JL.move .none rfl ?_
   refine JL.assign .none rfl ?_
   refine JL.done hQ (JQ.go (JC.ret (JQ.freezeG 0 (R := R_Cell) rfl R_Cell_mono hout_130 rfl ?_)))
   intro H174 hs174 hg175
   obtain rfl := Option.some.inj hF
   exact JQ.outH rfl (.tmp .nil) hg175
-- 75 slices.IndexFunc[[]ferrule/api.Panel,ferrule/api.Panel]
def F_slices_IndexFunc___api_Panel_api_Panel__s1 (n : Nat) (s : List Panel) (f_ : Panel → Option Bool) : Int → Option (Int ⊕ (Int ⊕ Unit))
 | x_55 => if decide (x_55 < (s.length : Int)) = true then ((geti s x_55).bind fun y60 => (f_ y60).bind fun y65 => if y65 = true then (some (Sum.inr (Sum.inl x_55))) else (some (Sum.inl (w64 (x_55 + 1))))) else (some (Sum.inr (Sum.inr ())))
def F_slices_IndexFunc___api_Panel_api_Panel_ (n : Nat) (s : List Panel) (f_ : Panel → Option Bool) : Option Int :=
 (loopO n (F_slices_IndexFunc___api_Panel_api_Panel__s1 n s f_) 0).bind fun r34 => match r34 with | .inl o => some o | .inr _ => some (-1)
theorem c_slices_IndexFunc___api_Panel_api_Panel_ (n : Nat) (H : Hp) (s : List Panel) (s_v0 : Value) (hs_0 : SL H 1 R_Panel s_v0 s) (f_ : Panel → Option Bool) (f__k : Nat) (f__c : List Value) (f__e : Ent Try.prog f__k) (f__h : ∀ H', HSub H H' → ∀ (a0_ : Panel) (a0__v0 : Value) (ha0__0 : SL H' 2 R_Span a0__v0 a0_.Rows) (y : Bool), f_ a0_ = some y → SC Try.prog f__k ([.agg [a0__v0].toArray] ++ f__c) (.bool y) H') (y : Int) (hF : F_slices_IndexFunc___api_Panel_api_Panel_ n s f_ = some y) : SC Try.prog 75 [s_v0, .func (.func f__k) #[] f__c.toArray] (.int .i64 y) H := by
 rw [F_slices_IndexFunc___api_Panel_api_Panel_] at hF
 refine SC.of (N := 19) Try.func75 rfl rfl rfl fun w => ?_
 refine JC.seq (JC.region (by rfl) ?_)
 intro hQ
 refine JL.assign .none rfl ?_
 refine JL.done hQ (JQ.go (JC.seq (JC.seq (JC.region (by rfl) ?_))))
 intro hQ
 refine JL.move .none rfl ?_
 refine JL.lenSL (R := R_Panel) ul_23 hs_0 .none rfl ?_
 refine JL.move .none rfl ?_
 refine JL.done hQ (JQ.go ?_)
 obtain ⟨r34, hlr34, hKr34⟩ := bind_some hF
 refine JC.join (fun (_ : Unit) H33 f bs gs => bs = [] ∧ gs = [] ∧ HSub H H33 ∧ Sum.inr () = r34) ?_ ?_
 ·skip
  refine JC.block (JC.loop hlr34 (fun (x_55 : Int) H56 f bs gs => f 0 = s_v0 ∧ f 1 = .func (.func f__k) #[] f__c.toArray ∧ f 7 = .int .i64 (s.length : Int) ∧ f 8 = .int .i64 x_55 ∧ bs = [] ∧ gs = [] ∧ HSub H H56) ⟨rfl, rfl, rfl, rfl, rfl, rfl, (HSub.refl _)⟩ ?_)
  rintro x_55 x58 H56 f bs gs ⟨hf0, hf1, hf7, hf8, rfl, rfl, hs56⟩ hF hr57
  rw [F_slices_IndexFunc___api_Panel_api_Panel__s1] at hF
  refine (JC.norm (i := 0) hf0 (JC.norm (i := 1) hf1 (JC.norm (i := 7) hf7 (JC.norm (i := 8) hf8 ?_))))
  refine JC.seq (JC.region (by rfl) ?_)
  intro hQ
  refine JL.bin rfl rfl rfl .none rfl ?_
  refine JL.done hQ (JQ.go (JC.seq ?_))
  rcases ite_some hF with ⟨hc59, hF⟩ | ⟨hc59, hF⟩
  ·refine JC.cond_t (b := decide (x_55 < (s.length : Int))) rfl hc59 ?_
   refine JC.skip (JQ.go (JC.seq (JC.block (JC.seq (JC.region (by rfl) ?_)))))
   intro hQ
   refine JL.move .none rfl ?_
   refine JL.assign .none rfl ?_
   refine JL.done hQ (JQ.go (JC.seq (JC.region (by rfl) ?_)))
   intro hQ
   refine JL.move .none rfl ?_
   refine JL.move .none rfl ?_
   refine JL.move .none rfl ?_
   obtain ⟨y60, hy60, hF⟩ := bind_some hF
   refine JL.indexSL (R := R_Panel) sl_23 (SL.mono R_Panel_mono hs56 hs_0) rfl hy60 .none rfl ?_
   rintro b61 o62 cs63 hc64 - ⟨y60_v0, rfl, hy60_0⟩
   refine JL.loadH 0 az_30 rfl hc64 rfl .none rfl ?_
   obtain ⟨y65, hy65, hF⟩ := bind_some hF
   refine JL.callV rfl (f__h H56 hs56 y60 y60_v0 hy60_0 y65 hy65) rfl f__e .none rfl ?_
   refine JL.done hQ (JQ.go ?_)
   rcases ite_some hF with ⟨hc66, hF⟩ | ⟨hc66, hF⟩
   ·refine JC.cond_t (b := y65) rfl hc66 ?_
    refine JC.seq (JC.region (by rfl) ?_)
    intro hQ
    refine JL.move .none rfl ?_
    refine JL.assign .none rfl ?_
    refine JL.done hQ (JQ.go (JC.fresh (fun f => f 4 = .int .i64 x_55) rfl ?_))
    rintro f hf4
    refine (JC.norm (i := 4) hf4 ?_)
    refine JC.ret (JQ.ret_block (JQ.ret_then (JQ.ret_then (JQ.ret_block (JQ.ret_join (JQ.ret_then ?_))))))
    obtain rfl := Option.some.inj hF
    have ehr57 := hr57 _ rfl
    subst ehr57
    have hF := hKr34
    try dsimp only at hF
    obtain rfl := Option.some.inj hF
    exact JQ.outS rfl (.tmp .nil) rfl
   ·refine JC.cond_f (b := y65) rfl hc66 ?_
    refine JC.skip (JQ.normal_block (JQ.go (JC.region (by rfl) ?_)))
    intro hQ
    refine JL.bin rfl rfl rfl .none rfl ?_
    refine JL.move .none rfl ?_
    refine JL.done hQ ?_
    obtain rfl := Option.some.inj hF
    exact JQ.next rfl ⟨rfl, rfl, rfl, rfl, rfl, rfl, hs56⟩
  ·refine JC.cond_f (b := decide (x_55 < (s.length : Int))) rfl hc59 ?_
   refine JC.exit (JQ.exit_then (JQ.exit_then (JQ.exit_block ?_)))
   obtain rfl := Option.some.inj hF
   have ehr57 := hr57 _ rfl
   subst ehr57
   exact JQ.join () ⟨rfl, rfl, hs56, rfl⟩
 ·rintro _ H33 f bs gs ⟨rfl, rfl, hs33, rfl⟩
  have hF := hKr34
  try dsimp only at hF
  refine JQ.go (JC.seq (JC.region (by rfl) ?_))
  intro hQ
  refine JL.assign .none rfl ?_
  refine JL.done hQ (JQ.go (JC.ret ?_))
  obtain rfl := Option.some.inj hF
  exact JQ.outS rfl (.tmp .nil) rfl
-- 60 slices.ContainsFunc[[]ferrule/api.Panel,ferrule/api.Panel]
def F_slices_ContainsFunc___api_Panel_api_Panel_ (n : Nat) (s : List Panel) (f_ : Panel → Option Bool) : Option Bool :=
 (F_slices_IndexFunc___api_Panel_api_Panel_ n s f_).bind fun y1 => some (decide (0 ≤ y1))
theorem c_slices_ContainsFunc___api_Panel_api_Panel_ (n : Nat) (H : Hp) (s : List Panel) (s_v0 : Value) (hs_0 : SL H 1 R_Panel s_v0 s) (f_ : Panel → Option Bool) (f__k : Nat) (f__c : List Value) (f__e : Ent Try.prog f__k) (f__h : ∀ H', HSub H H' → ∀ (a0_ : Panel) (a0__v0 : Value) (ha0__0 : SL H' 2 R_Span a0__v0 a0_.Rows) (y : Bool), f_ a0_ = some y → SC Try.prog f__k ([.agg [a0__v0].toArray] ++ f__c) (.bool y) H') (y : Bool) (hF : F_slices_ContainsFunc___api_Panel_api_Panel_ n s f_ = some y) : SC Try.prog 60 [s_v0, .func (.func f__k) #[] f__c.toArray] (.bool y) H := by
 rw [F_slices_ContainsFunc___api_Panel_api_Panel_] at hF
 refine SC.of (N := 9) Try.func60 rfl rfl rfl fun w => ?_
 refine JC.seq (JC.region (by rfl) ?_)
 intro hQ
 refine JL.assign .none rfl ?_
 refine JL.done hQ (JQ.go (JC.seq (JC.region (by rfl) ?_)))
 intro hQ
 refine JL.move .none rfl ?_
 refine JL.move .none rfl ?_
 obtain ⟨y1, hy1, hF⟩ := bind_some hF
 refine JL.callS (c_slices_IndexFunc___api_Panel_api_Panel_ n H s s_v0 hs_0 f_ f__k f__c f__e (fun H' hs' => f__h H' hs') y1 hy1) rfl en_75 .none rfl ?_
 refine JL.bin rfl rfl rfl .none rfl ?_
 refine JL.assign .none rfl ?_
 refine JL.done hQ (JQ.go (JC.ret ?_))
 obtain rfl := Option.some.inj hF
 exact JQ.outS rfl (.tmp .nil) rfl
-- 62 ferrule/lays.isPanel
def F_lays_isPanel_s1 (n : Nat) (p : Panel) : Int × Int → Option ((Int × Int) ⊕ (Bool ⊕ Int))
 | (least_79, x_80) => if decide (x_80 < (p.Rows.length : Int)) = true then ((geti p.Rows x_80).bind fun y85 => (F_lays_within n y85.Low 0 y85.High).bind fun y91 => if ((!y91) || (decide (8 ≤ y85.High))) = true then (some (Sum.inr (Sum.inl false))) else (some (Sum.inl ((min least_79 y85.Low), (w64 (x_80 + 1)))))) else (some (Sum.inr (Sum.inr least_79)))
def F_lays_isPanel (n : Nat) (p : Panel) : Option Bool :=
 (F_lays_within n (p.Rows.length : Int) 1 4).bind fun y2 => if (!y2) = true then (some false) else ((loopO n (F_lays_isPanel_s1 n p) (8, 0)).bind fun r50 => match r50 with | .inl o => some o | .inr least_48 => some (least_48 == 0))
theorem c_lays_isPanel (n : Nat) (H : Hp) (p : Panel) (p_v0 : Value) (hp_0 : SL H 2 R_Span p_v0 p.Rows) (y : Bool) (hF : F_lays_isPanel n p = some y) : SC Try.prog 62 [.agg [p_v0].toArray] (.bool y) H := by
 rw [F_lays_isPanel] at hF
 refine SC.of (N := 36) Try.func62 rfl rfl rfl fun w => ?_
 refine JC.seq (JC.region (by rfl) ?_)
 intro hQ
 refine JL.box (cs := [p_v0]) rfl .none rfl ?_
 intro b1
 refine JL.assign .none rfl ?_
 refine JL.done hQ (JQ.go (JC.seq (JC.seq (JC.region (by rfl) ?_))))
 intro hQ
 refine JL.fieldAddr fo_30_0 rfl .none rfl ?_
 refine JL.loadOwn 0 az_28 rfl rfl rfl .none rfl ?_
 refine JL.lenSL (R := R_Span) ul_28 hp_0 .none rfl ?_
 obtain ⟨y2, hy2, hF⟩ := bind_some hF
 refine JL.callS (c_lays_within n H (p.Rows.length : Int) 1 4 y2 hy2) rfl en_48 .none rfl ?_
 refine JL.not rfl .none rfl ?_
 refine JL.done hQ (JQ.go ?_)
 rcases ite_some hF with ⟨hc3, hF⟩ | ⟨hc3, hF⟩
 ·refine JC.cond_t (b := (!y2)) rfl hc3 ?_
  refine JC.seq (JC.region (by rfl) ?_)
  intro hQ
  refine JL.assign .none rfl ?_
  refine JL.done hQ (JQ.go (JC.ret (JQ.ret_then ?_)))
  obtain rfl := Option.some.inj hF
  exact JQ.outS rfl (.tmp .nil) rfl
 ·refine JC.cond_f (b := (!y2)) rfl hc3 ?_
  refine JC.skip (JQ.go (JC.seq (JC.region (by rfl) ?_)))
  intro hQ
  refine JL.assign .none rfl ?_
  refine JL.done hQ (JQ.go (JC.seq (JC.seq (JC.region (by rfl) ?_))))
  intro hQ
  refine JL.fieldAddr fo_30_0 rfl .none rfl ?_
  refine JL.loadOwn 0 az_28 rfl rfl rfl .none rfl ?_
  refine JL.lenSL (R := R_Span) ul_28 hp_0 .none rfl ?_
  refine JL.move .none rfl ?_
  refine JL.done hQ (JQ.go ?_)
  obtain ⟨r50, hlr50, hKr50⟩ := bind_some hF
  refine JC.join (fun (least_48 : Int) H49 f bs gs => f 3 = .int .i64 least_48 ∧ bs = [] ∧ gs = [] ∧ HSub H H49 ∧ Sum.inr least_48 = r50) ?_ ?_
  ·skip
   refine JC.block (JC.mask [false] [] ?_)
   refine JC.loop hlr50 (fun (x : Int × Int) H81 f bs gs => match x with | (least_79, x_80) => f 3 = .int .i64 least_79 ∧ f 12 = p_v0 ∧ f 13 = .int .i64 (p.Rows.length : Int) ∧ f 14 = .int .i64 x_80 ∧ bs = [] ∧ gs = [] ∧ HSub H H81) ⟨rfl, rfl, rfl, rfl, rfl, rfl, (HSub.refl _)⟩ ?_
   rintro ⟨least_79, x_80⟩ x83 H81 f bs gs ⟨hf3, hf12, hf13, hf14, rfl, rfl, hs81⟩ hF hr82
   rw [F_lays_isPanel_s1] at hF
   refine (JC.norm (i := 3) hf3 (JC.norm (i := 12) hf12 (JC.norm (i := 13) hf13 (JC.norm (i := 14) hf14 ?_))))
   refine JC.seq (JC.region (by rfl) ?_)
   intro hQ
   refine JL.bin rfl rfl rfl .none rfl ?_
   refine JL.done hQ (JQ.go (JC.seq ?_))
   rcases ite_some hF with ⟨hc84, hF⟩ | ⟨hc84, hF⟩
   ·refine JC.cond_t (b := decide (x_80 < (p.Rows.length : Int))) rfl hc84 ?_
    refine JC.skip (JQ.go (JC.seq (JC.block (JC.seq (JC.region (by rfl) ?_)))))
    intro hQ
    obtain ⟨y85, hy85, hF⟩ := bind_some hF
    refine JL.indexSL (R := R_Span) sl_28 (SL.mono R_Span_mono hs81 hp_0) rfl hy85 .none rfl ?_
    rintro b86 o87 cs88 hc89 - rfl
    refine JL.loadH 0 az_46 rfl hc89 rfl .none rfl ?_
    refine JL.alloc ze_46 .none rfl ?_
    intro b90
    refine JL.storeOwn 0 (cs := [.int .i64 y85.Low, .int .i64 y85.High]) az_46 rfl rfl rfl (one_cons rfl (one_cons rfl one_nil)) rfl rfl .none ?_
    refine JL.done hQ (JQ.go (JC.seq (JC.seq (JC.region (by rfl) ?_))))
    intro hQ
    refine JL.fieldAddr fo_46_0 rfl .none rfl ?_
    refine JL.loadOwn 0 az_3 rfl rfl rfl .none rfl ?_
    refine JL.fieldAddr fo_46_1 rfl .none rfl ?_
    refine JL.loadOwn 0 az_3 rfl rfl rfl .none rfl ?_
    obtain ⟨y91, hy91, hF⟩ := bind_some hF
    refine JL.callS (c_lays_within n H81 y85.Low 0 y85.High y91 hy91) rfl en_48 .none rfl ?_
    refine JL.not rfl .none rfl ?_
    refine JL.move .none rfl ?_
    refine JL.cut 4 (fun f => f 3 = .int .i64 least_79 ∧ f 5 = .pointer (some ⟨b90, 0, none⟩) ∧ f 12 = p_v0 ∧ f 13 = .int .i64 (p.Rows.length : Int) ∧ f 14 = .int .i64 x_80 ∧ f 28 = .bool ((!y91) || (decide (8 ≤ y85.High)))) ?_ ?_
    ·intro hJ92
     rcases bcases (!y91) with hc93 | hc93
     ·skip
      refine JL.skip (.bool rfl rfl rfl hc93) rfl ?_
      refine JL.skip (.bool rfl rfl rfl hc93) rfl ?_
      refine JL.skip (.bool rfl rfl rfl hc93) rfl ?_
      refine JL.pick_t (b := (!y91)) rfl hc93 .none rfl ?_
      exact hJ92 _ ⟨rfl, rfl, rfl, rfl, rfl, or_t hc93 rfl⟩
     ·skip
      refine JL.fieldAddr fo_46_1 rfl (.some rfl rfl rfl hc93) rfl ?_
      refine JL.loadOwn 0 az_3 rfl rfl rfl (.some rfl rfl rfl hc93) rfl ?_
      refine JL.bin rfl rfl rfl (.some rfl rfl rfl hc93) rfl ?_
      refine JL.pick_f (b := (!y91)) rfl hc93 .none rfl ?_
      exact hJ92 _ ⟨rfl, rfl, rfl, rfl, rfl, or_f hc93 rfl⟩
    ·rintro f ⟨hf3, hf5, hf12, hf13, hf14, hf28⟩
     refine (JL.norm (i := 3) hf3 (JL.norm (i := 5) hf5 (JL.norm (i := 12) hf12 (JL.norm (i := 13) hf13 (JL.norm (i := 14) hf14 (JL.norm (i := 28) hf28 ?_))))))
     refine JL.done hQ (JQ.go ?_)
     rcases ite_some hF with ⟨hc94, hF⟩ | ⟨hc94, hF⟩
     ·refine JC.cond_t (b := ((!y91) || (decide (8 ≤ y85.High)))) rfl hc94 ?_
      refine JC.seq (JC.region (by rfl) ?_)
      intro hQ
      refine JL.assign .none rfl ?_
      refine JL.done hQ (JQ.go (JC.ret (JQ.ret_then (JQ.ret_block (JQ.ret_then (JQ.ret_then (JQ.ret_block (JQ.ret_join (JQ.ret_then ?_)))))))))
      obtain rfl := Option.some.inj hF
      have ehr82 := hr82 _ rfl
      subst ehr82
      have hF := hKr50
      try dsimp only at hF
      obtain rfl := Option.some.inj hF
      exact JQ.outS rfl (.tmp .nil) rfl
     ·refine JC.cond_f (b := ((!y91) || (decide (8 ≤ y85.High)))) rfl hc94 ?_
      refine JC.skip (JQ.go (JC.region (by rfl) ?_))
      intro hQ
      refine JL.move .none rfl ?_
      refine JL.fieldAddr fo_46_0 rfl .none rfl ?_
      refine JL.loadOwn 0 az_3 rfl rfl rfl .none rfl ?_
      refine JL.min rfl rfl .none rfl ?_
      refine JL.assign .none rfl ?_
      refine JL.done hQ (JQ.normal_block (JQ.go (JC.region (by rfl) ?_)))
      intro hQ
      refine JL.bin rfl rfl rfl .none rfl ?_
      refine JL.move .none rfl ?_
      refine JL.done hQ ?_
      obtain rfl := Option.some.inj hF
      refine JQ.mask [false] [] ?_
      exact JQ.next rfl ⟨rfl, rfl, rfl, rfl, rfl, rfl, hs81⟩
   ·refine JC.cond_f (b := decide (x_80 < (p.Rows.length : Int))) rfl hc84 ?_
    refine JC.exit (JQ.exit_then (JQ.exit_then (JQ.exit_block ?_)))
    obtain rfl := Option.some.inj hF
    have ehr82 := hr82 _ rfl
    subst ehr82
    exact JQ.join least_79 ⟨rfl, rfl, rfl, hs81, rfl⟩
  ·rintro least_48 H49 f bs gs ⟨hf3, rfl, rfl, hs49, rfl⟩
   have hF := hKr50
   try dsimp only at hF
   refine (JQ.norm (i := 3) hf3 ?_)
   refine JQ.go (JC.seq (JC.region (by rfl) ?_))
   intro hQ
   refine JL.move .none rfl ?_
   refine JL.bin rfl rfl rfl .none rfl ?_
   refine JL.assign .none rfl ?_
   refine JL.done hQ (JQ.go (JC.ret ?_))
   obtain rfl := Option.some.inj hF
   exact JQ.outS rfl (.tmp .nil) rfl
-- 61 ferrule/lays.Check$1
def F_lays_Check_1 (n : Nat) (p : Panel) : Option Bool :=
 (F_lays_isPanel n p).bind fun y2 => some (!y2)
theorem c_lays_Check_1 (n : Nat) (H : Hp) (p : Panel) (p_v0 : Value) (hp_0 : SL H 2 R_Span p_v0 p.Rows) (y : Bool) (hF : F_lays_Check_1 n p = some y) : SC Try.prog 61 [.agg [p_v0].toArray] (.bool y) H := by
 rw [F_lays_Check_1] at hF
 refine SC.of (N := 6) Try.func61 rfl rfl rfl fun w => ?_
 refine JC.seq (JC.region (by rfl) ?_)
 intro hQ
 refine JL.box (cs := [p_v0]) rfl .none rfl ?_
 intro b1
 refine JL.assign .none rfl ?_
 refine JL.done hQ (JQ.go (JC.seq (JC.region (by rfl) ?_)))
 intro hQ
 refine JL.loadOwn 0 az_30 rfl rfl rfl .none rfl ?_
 obtain ⟨y2, hy2, hF⟩ := bind_some hF
 refine JL.callS (c_lays_isPanel n H p p_v0 hp_0 y2 hy2) rfl en_62 .none rfl ?_
 refine JL.not rfl .none rfl ?_
 refine JL.assign .none rfl ?_
 refine JL.done hQ (JQ.go (JC.ret ?_))
 obtain rfl := Option.some.inj hF
 exact JQ.outS rfl (.tmp .nil) rfl
end Go.Proofs.Ytflhjlgimihmgaa
end
