/-
  A part of the proof of StStiff: the texts StGenK6, StGenK7.
-/
import Derived.Test.YteihdclpiekmaaaJStStiff4
section
set_option maxRecDepth 100000
set_option maxHeartbeats 40000000
namespace Go.Proofs.Yteihdclpiekmaaa
open Go Go.RowKit Go.Dec
set_option linter.unusedVariables false
-- 53 ferrule/ferrulelaw04.Example
def F_law04_Example (n : Nat)  : Option Figure :=
 (F_law02_Example n).bind fun y2 => some (Figure.mk y2 12 100 1 [0, 3, 8, 0] [5, 3, 8, 2])
theorem c_law04_Example (n : Nat) (H : Hp)  (y : Figure) (hF : F_law04_Example n = some y) : HC Try.prog 53 [] H (fun H' v => ∃ ra_v0 ra_v1 ra_v3 ra_v4 ra_v9 ra_v10 : Value, v = .agg [ra_v0, ra_v1, .int .i64 y.Dome.Loss, ra_v3, ra_v4, .int .i64 y.Dome.Slope, .int .i64 y.Period, .int .i64 y.Run, .int .i64 y.Near, ra_v9, ra_v10].toArray ∧ SL H' 4 R_Bolt ra_v0 y.Dome.Bolts ∧ SL H' 1 RInt ra_v1 y.Dome.Gores ∧ SL H' 2 R_Span ra_v3 y.Dome.Rounds ∧ SL H' 1 RInt ra_v4 y.Dome.Widths ∧ SL H' 1 RInt ra_v9 y.Starts ∧ SL H' 1 RInt ra_v10 y.Times) := by
 rw [F_law04_Example] at hF
 refine HC.of (N := 5) Try.func53 rfl rfl rfl fun w => ?_
 refine JC.seq (JC.region (by rfl) ?_)
 intro hQ
 refine JL.alloc ze_28 .none rfl ?_
 intro b1
 refine JL.done hQ (JQ.go (JC.seq (JC.region (by rfl) ?_)))
 intro hQ
 obtain ⟨y2, hy2, hF⟩ := bind_some hF
 refine JL.callH (c_law02_Example n H y2 hy2) rfl en_52 .none rfl ?_
 rintro H3 vv4 hs3 ⟨y2a_v0, y2a_v1, y2a_v3, y2a_v4, rfl, hy2a_0, hy2a_1, hy2a_3, hy2a_4⟩
 refine JL.buildSlice (e := 3) (l := [.int .i64 0, .int .i64 3, .int .i64 8, .int .i64 0]) (by kernel_rfl) .none rfl ?_
 intro b5
 refine JL.buildSlice (e := 3) (l := [.int .i64 5, .int .i64 3, .int .i64 8, .int .i64 2]) (by kernel_rfl) .none rfl ?_
 intro b6
 obtain ⟨a7, c8, rfl, hh9⟩ := hy2a_0
 have hy2a_0 : SL H3 4 R_Bolt (.slice a7 y2.Bolts.length c8) y2.Bolts := ⟨a7, c8, rfl, hh9⟩
 obtain ⟨a10, c11, rfl, hh12⟩ := hy2a_1
 have hy2a_1 : SL H3 1 RInt (.slice a10 y2.Gores.length c11) y2.Gores := ⟨a10, c11, rfl, hh12⟩
 obtain ⟨a13, c14, rfl, hh15⟩ := hy2a_3
 have hy2a_3 : SL H3 2 R_Span (.slice a13 y2.Rounds.length c14) y2.Rounds := ⟨a13, c14, rfl, hh15⟩
 obtain ⟨a16, c17, rfl, hh18⟩ := hy2a_4
 have hy2a_4 : SL H3 1 RInt (.slice a16 y2.Widths.length c17) y2.Widths := ⟨a16, c17, rfl, hh18⟩
 refine JL.build (l := [(.slice a7 y2.Bolts.length c8), (.slice a10 y2.Gores.length c11), .int .i64 y2.Loss, (.slice a13 y2.Rounds.length c14), (.slice a16 y2.Widths.length c17), .int .i64 y2.Slope, .int .i64 12, .int .i64 100, .int .i64 1, .slice (some ⟨b5, 0, none⟩) 4 4, .slice (some ⟨b6, 0, none⟩) 4 4]) (by kernel_rfl) .none rfl ?_
 refine JL.storeOwn 2 (cs := [(.slice a7 y2.Bolts.length c8), (.slice a10 y2.Gores.length c11), .int .i64 y2.Loss, (.slice a13 y2.Rounds.length c14), (.slice a16 y2.Widths.length c17), .int .i64 y2.Slope, .int .i64 12, .int .i64 100, .int .i64 1, .slice (some ⟨b5, 0, none⟩) 4 4, .slice (some ⟨b6, 0, none⟩) 4 4]) az_28 rfl rfl rfl (one_cons (SL.one hy2a_0) (one_cons (SL.one hy2a_1) (one_cons rfl (one_cons (SL.one hy2a_3) (one_cons (SL.one hy2a_4) (one_cons rfl (one_cons rfl (one_cons rfl (one_cons rfl (one_cons rfl (one_cons rfl one_nil))))))))))) rfl rfl .none ?_
 refine JL.done hQ (JQ.go (JC.ret (JQ.freezeC 1 (l := [.int .i64 0, .int .i64 3, .int .i64 8, .int .i64 0]) rfl ?_)))
 intro H19 hs19 hc20
 have hg21 : SL H19 1 RInt (.slice (some ⟨b5, 0, none⟩) 4 4) [0, 3, 8, 0] := CH.sl (l := [0, 3, 8, 0]) (CH.cons (cs := [.int .i64 0]) rfl rfl (CH.cons (cs := [.int .i64 3]) rfl rfl (CH.cons (cs := [.int .i64 8]) rfl rfl (CH.cons (cs := [.int .i64 0]) rfl rfl CH.nil)))) hc20 ⟨by simp, by simp⟩
 refine JQ.freezeC 0 (l := [.int .i64 5, .int .i64 3, .int .i64 8, .int .i64 2]) rfl ?_
 intro H22 hs22 hc23
 have hg24 : SL H22 1 RInt (.slice (some ⟨b6, 0, none⟩) 4 4) [5, 3, 8, 2] := CH.sl (l := [5, 3, 8, 2]) (CH.cons (cs := [.int .i64 5]) rfl rfl (CH.cons (cs := [.int .i64 3]) rfl rfl (CH.cons (cs := [.int .i64 8]) rfl rfl (CH.cons (cs := [.int .i64 2]) rfl rfl CH.nil)))) hc23 ⟨by simp, by simp⟩
 obtain rfl := Option.some.inj hF
 exact JQ.outH rfl (.cell 0 az_28 rfl rfl rfl .nil) ⟨(.slice a7 y2.Bolts.length c8), (.slice a10 y2.Gores.length c11), (.slice a13 y2.Rounds.length c14), (.slice a16 y2.Widths.length c17), (.slice (some ⟨b5, 0, none⟩) 4 4), (.slice (some ⟨b6, 0, none⟩) 4 4), rfl, (SL.mono R_Bolt_mono (HSub.trans hs19 hs22) hy2a_0), (SL.mono RInt.mono (HSub.trans hs19 hs22) hy2a_1), (SL.mono R_Span_mono (HSub.trans hs19 hs22) hy2a_3), (SL.mono RInt.mono (HSub.trans hs19 hs22) hy2a_4), (SL.mono RInt.mono hs22 hg21), hg24⟩
-- 57 ferrule/seams.within
def F_seams_within (n : Nat) (n_ : Int) (low : Int) (high : Int) : Option Bool :=
 some ((decide (low ≤ n_)) && (decide (n_ ≤ high)))
theorem c_seams_within (n : Nat) (H : Hp) (n_ : Int) (low : Int) (high : Int) (y : Bool) (hF : F_seams_within n n_ low high = some y) : SC Try.prog 57 [.int .i64 n_, .int .i64 low, .int .i64 high] (.bool y) H := by
 rw [F_seams_within] at hF
 refine SC.of (N := 15) Try.func57 rfl rfl rfl fun w => ?_
 refine JC.seq (JC.region (by rfl) ?_)
 intro hQ
 refine JL.assign .none rfl ?_
 refine JL.done hQ (JQ.go (JC.seq (JC.region (by rfl) ?_)))
 intro hQ
 refine JL.move .none rfl ?_
 refine JL.move .none rfl ?_
 refine JL.bin rfl rfl rfl .none rfl ?_
 refine JL.move .none rfl ?_
 refine JL.cut 4 (fun f => f 14 = .bool ((decide (low ≤ n_)) && (decide (n_ ≤ high)))) ?_ ?_
 ·intro hJ1
  rcases bcases (decide (low ≤ n_)) with hc2 | hc2
  ·skip
   refine JL.move (.some rfl rfl rfl hc2) rfl ?_
   refine JL.move (.some rfl rfl rfl hc2) rfl ?_
   refine JL.bin rfl rfl rfl (.some rfl rfl rfl hc2) rfl ?_
   refine JL.pick_t (b := decide (low ≤ n_)) rfl hc2 .none rfl ?_
   exact hJ1 _ (and_t hc2 rfl)
  ·skip
   refine JL.skip (.bool rfl rfl rfl hc2) rfl ?_
   refine JL.skip (.bool rfl rfl rfl hc2) rfl ?_
   refine JL.skip (.bool rfl rfl rfl hc2) rfl ?_
   refine JL.pick_f (b := decide (low ≤ n_)) rfl hc2 .none rfl ?_
   exact hJ1 _ (and_f hc2 rfl)
 ·rintro f hf14
  refine (JL.norm (i := 14) hf14 ?_)
  refine JL.assign .none rfl ?_
  refine JL.done hQ (JQ.go (JC.ret ?_))
  obtain rfl := Option.some.inj hF
  exact JQ.outS rfl (.tmp .nil) rfl
-- 164 ferrule/seams.isFigure
def F_seams_isFigure_s1 (n : Nat) (f_ : Figure) : Int → Option (Int ⊕ (Bool ⊕ Unit))
 | x_252 => if decide (x_252 < (f_.Starts.length : Int)) = true then ((geti f_.Starts x_252).bind fun y278 => (F_seams_within n y278 0 (w64 (f_.Period - 1))).bind fun y283 => (if (!y283) = true then (some true) else ((geti f_.Times x_252).bind fun y293 => (F_seams_within n y293 1 99).bind fun y298 => some (!y298)) : Option Bool).bind fun p290 => if p290 = true then (some (Sum.inr (Sum.inl false))) else (some (Sum.inl (w64 (x_252 + 1))))) else (some (Sum.inr (Sum.inr ())))
def F_seams_isFigure (n : Nat) (f_ : Figure) : Option Bool :=
 (F_seams_within n f_.Period 1 60).bind fun y2 => (if (!y2) = true then (some true) else ((F_seams_within n f_.Run 0 2000).bind fun y7 => some (!y7)) : Option Bool).bind fun p4 => (if p4 = true then (some true) else ((F_seams_within n f_.Near 0 (w64 (f_.Period.tdiv 2))).bind fun y12 => some (!y12)) : Option Bool).bind fun p9 => if ((p9 || ((f_.Starts.length : Int) != (f_.Dome.Gores.length : Int))) || ((f_.Times.length : Int) != (f_.Dome.Gores.length : Int))) = true then (some false) else ((loopO n (F_seams_isFigure_s1 n f_) 0).bind fun r159 => match r159 with | .inl o => some o | .inr _ => some true)
theorem c_seams_isFigure (n : Nat) (H : Hp) (f_ : Figure) (f__v0 : Value) (hf__0 : SL H 4 R_Bolt f__v0 f_.Dome.Bolts) (f__v1 : Value) (hf__1 : SL H 1 RInt f__v1 f_.Dome.Gores) (f__v3 : Value) (hf__3 : SL H 2 R_Span f__v3 f_.Dome.Rounds) (f__v4 : Value) (hf__4 : SL H 1 RInt f__v4 f_.Dome.Widths) (f__v9 : Value) (hf__9 : SL H 1 RInt f__v9 f_.Starts) (f__v10 : Value) (hf__10 : SL H 1 RInt f__v10 f_.Times) (y : Bool) (hF : F_seams_isFigure n f_ = some y) : SC Try.prog 164 [.agg [f__v0, f__v1, .int .i64 f_.Dome.Loss, f__v3, f__v4, .int .i64 f_.Dome.Slope, .int .i64 f_.Period, .int .i64 f_.Run, .int .i64 f_.Near, f__v9, f__v10].toArray] (.bool y) H := by
 rw [F_seams_isFigure] at hF
 refine SC.of (N := 69) Try.func164 rfl rfl rfl fun w => ?_
 refine JC.seq (JC.region (by rfl) ?_)
 intro hQ
 refine JL.box (cs := [f__v0, f__v1, .int .i64 f_.Dome.Loss, f__v3, f__v4, .int .i64 f_.Dome.Slope, .int .i64 f_.Period, .int .i64 f_.Run, .int .i64 f_.Near, f__v9, f__v10]) rfl .none rfl ?_
 intro b1
 refine JL.assign .none rfl ?_
 refine JL.done hQ (JQ.go (JC.seq (JC.seq (JC.region (by rfl) ?_))))
 intro hQ
 refine JL.fieldAddr fo_28_1 rfl .none rfl ?_
 refine JL.loadOwn 0 az_3 rfl rfl rfl .none rfl ?_
 obtain ⟨y2, hy2, hF⟩ := bind_some hF
 refine JL.callS (c_seams_within n H f_.Period 1 60 y2 hy2) rfl en_57 .none rfl ?_
 refine JL.not rfl .none rfl ?_
 refine JL.move .none rfl ?_
 obtain ⟨p4, hp4, hF⟩ := bind_some hF
 refine JL.cut 5 (fun f => f 1 = .pointer (some ⟨b1, 0, none⟩) ∧ f 13 = .bool p4) ?_ ?_
 ·intro hJ5
  rcases ite_some hp4 with ⟨hc6, hF⟩ | ⟨hc6, hF⟩
  ·skip
   refine JL.skip (.bool rfl rfl rfl hc6) rfl ?_
   refine JL.skip (.bool rfl rfl rfl hc6) rfl ?_
   refine JL.skip (.bool rfl rfl rfl hc6) rfl ?_
   refine JL.skip (.bool rfl rfl rfl hc6) rfl ?_
   refine JL.pick_t (b := (!y2)) rfl hc6 .none rfl ?_
   obtain rfl := Option.some.inj hF
   exact hJ5 _ ⟨rfl, rfl⟩
  ·skip
   refine JL.fieldAddr fo_28_2 rfl (.some rfl rfl rfl hc6) rfl ?_
   refine JL.loadOwn 0 az_3 rfl rfl rfl (.some rfl rfl rfl hc6) rfl ?_
   obtain ⟨y7, hy7, hF⟩ := bind_some hF
   refine JL.callS (c_seams_within n H f_.Run 0 2000 y7 hy7) rfl en_57 (.some rfl rfl rfl hc6) rfl ?_
   refine JL.not rfl (.some rfl rfl rfl hc6) rfl ?_
   refine JL.pick_f (b := (!y2)) rfl hc6 .none rfl ?_
   obtain rfl := Option.some.inj hF
   exact hJ5 _ ⟨rfl, rfl⟩
 ·rintro f ⟨hf1, hf13⟩
  refine (JL.norm (i := 1) hf1 (JL.norm (i := 13) hf13 ?_))
  refine JL.move .none rfl ?_
  obtain ⟨p9, hp9, hF⟩ := bind_some hF
  refine JL.cut 8 (fun f => f 1 = .pointer (some ⟨b1, 0, none⟩) ∧ f 22 = .bool p9) ?_ ?_
  ·intro hJ10
   rcases ite_some hp9 with ⟨hc11, hF⟩ | ⟨hc11, hF⟩
   ·skip
    refine JL.skip (.bool rfl rfl rfl hc11) rfl ?_
    refine JL.skip (.bool rfl rfl rfl hc11) rfl ?_
    refine JL.skip (.bool rfl rfl rfl hc11) rfl ?_
    refine JL.skip (.bool rfl rfl rfl hc11) rfl ?_
    refine JL.skip (.bool rfl rfl rfl hc11) rfl ?_
    refine JL.skip (.bool rfl rfl rfl hc11) rfl ?_
    refine JL.skip (.bool rfl rfl rfl hc11) rfl ?_
    refine JL.pick_t (b := p4) rfl hc11 .none rfl ?_
    obtain rfl := Option.some.inj hF
    exact hJ10 _ ⟨rfl, rfl⟩
   ·skip
    refine JL.fieldAddr fo_28_3 rfl (.some rfl rfl rfl hc11) rfl ?_
    refine JL.loadOwn 0 az_3 rfl rfl rfl (.some rfl rfl rfl hc11) rfl ?_
    refine JL.fieldAddr fo_28_1 rfl (.some rfl rfl rfl hc11) rfl ?_
    refine JL.loadOwn 0 az_3 rfl rfl rfl (.some rfl rfl rfl hc11) rfl ?_
    refine JL.div rfl rfl (by decide) rfl (.some rfl rfl rfl hc11) rfl ?_
    obtain ⟨y12, hy12, hF⟩ := bind_some hF
    refine JL.callS (c_seams_within n H f_.Near 0 (w64 (f_.Period.tdiv 2)) y12 hy12) rfl en_57 (.some rfl rfl rfl hc11) rfl ?_
    refine JL.not rfl (.some rfl rfl rfl hc11) rfl ?_
    refine JL.pick_f (b := p4) rfl hc11 .none rfl ?_
    obtain rfl := Option.some.inj hF
    exact hJ10 _ ⟨rfl, rfl⟩
  ·rintro f ⟨hf1, hf22⟩
   refine (JL.norm (i := 1) hf1 (JL.norm (i := 22) hf22 ?_))
   refine JL.move .none rfl ?_
   refine JL.cut 9 (fun f => f 1 = .pointer (some ⟨b1, 0, none⟩) ∧ f 32 = .bool (p9 || ((f_.Starts.length : Int) != (f_.Dome.Gores.length : Int)))) ?_ ?_
   ·intro hJ13
    rcases bcases p9 with hc14 | hc14
    ·skip
     refine JL.skip (.bool rfl rfl rfl hc14) rfl ?_
     refine JL.skip (.bool rfl rfl rfl hc14) rfl ?_
     refine JL.skip (.bool rfl rfl rfl hc14) rfl ?_
     refine JL.skip (.bool rfl rfl rfl hc14) rfl ?_
     refine JL.skip (.bool rfl rfl rfl hc14) rfl ?_
     refine JL.skip (.bool rfl rfl rfl hc14) rfl ?_
     refine JL.skip (.bool rfl rfl rfl hc14) rfl ?_
     refine JL.skip (.bool rfl rfl rfl hc14) rfl ?_
     refine JL.pick_t (b := p9) rfl hc14 .none rfl ?_
     exact hJ13 _ ⟨rfl, or_t hc14 rfl⟩
    ·skip
     refine JL.fieldAddr fo_28_4 rfl (.some rfl rfl rfl hc14) rfl ?_
     refine JL.loadOwn 0 az_23 rfl rfl rfl (.some rfl rfl rfl hc14) rfl ?_
     refine JL.lenSL (R := RInt) ul_23 hf__9 (.some rfl rfl rfl hc14) rfl ?_
     refine JL.fieldAddr fo_28_0 rfl (.some rfl rfl rfl hc14) rfl ?_
     refine JL.fieldAddr fo_26_1 rfl (.some rfl rfl rfl hc14) rfl ?_
     refine JL.loadOwn 0 az_23 rfl rfl rfl (.some rfl rfl rfl hc14) rfl ?_
     refine JL.lenSL (R := RInt) ul_23 hf__1 (.some rfl rfl rfl hc14) rfl ?_
     refine JL.bin rfl rfl rfl (.some rfl rfl rfl hc14) rfl ?_
     refine JL.pick_f (b := p9) rfl hc14 .none rfl ?_
     exact hJ13 _ ⟨rfl, or_f hc14 rfl⟩
   ·rintro f ⟨hf1, hf32⟩
    refine (JL.norm (i := 1) hf1 (JL.norm (i := 32) hf32 ?_))
    refine JL.move .none rfl ?_
    refine JL.cut 9 (fun f => f 1 = .pointer (some ⟨b1, 0, none⟩) ∧ f 42 = .bool ((p9 || ((f_.Starts.length : Int) != (f_.Dome.Gores.length : Int))) || ((f_.Times.length : Int) != (f_.Dome.Gores.length : Int)))) ?_ ?_
    ·intro hJ15
     rcases bcases (p9 || ((f_.Starts.length : Int) != (f_.Dome.Gores.length : Int))) with hc16 | hc16
     ·skip
      refine JL.skip (.bool rfl rfl rfl hc16) rfl ?_
      refine JL.skip (.bool rfl rfl rfl hc16) rfl ?_
      refine JL.skip (.bool rfl rfl rfl hc16) rfl ?_
      refine JL.skip (.bool rfl rfl rfl hc16) rfl ?_
      refine JL.skip (.bool rfl rfl rfl hc16) rfl ?_
      refine JL.skip (.bool rfl rfl rfl hc16) rfl ?_
      refine JL.skip (.bool rfl rfl rfl hc16) rfl ?_
      refine JL.skip (.bool rfl rfl rfl hc16) rfl ?_
      refine JL.pick_t (b := (p9 || ((f_.Starts.length : Int) != (f_.Dome.Gores.length : Int)))) rfl hc16 .none rfl ?_
      exact hJ15 _ ⟨rfl, or_t hc16 rfl⟩
     ·skip
      refine JL.fieldAddr fo_28_5 rfl (.some rfl rfl rfl hc16) rfl ?_
      refine JL.loadOwn 0 az_23 rfl rfl rfl (.some rfl rfl rfl hc16) rfl ?_
      refine JL.lenSL (R := RInt) ul_23 hf__10 (.some rfl rfl rfl hc16) rfl ?_
      refine JL.fieldAddr fo_28_0 rfl (.some rfl rfl rfl hc16) rfl ?_
      refine JL.fieldAddr fo_26_1 rfl (.some rfl rfl rfl hc16) rfl ?_
      refine JL.loadOwn 0 az_23 rfl rfl rfl (.some rfl rfl rfl hc16) rfl ?_
      refine JL.lenSL (R := RInt) ul_23 hf__1 (.some rfl rfl rfl hc16) rfl ?_
      refine JL.bin rfl rfl rfl (.some rfl rfl rfl hc16) rfl ?_
      refine JL.pick_f (b := (p9 || ((f_.Starts.length : Int) != (f_.Dome.Gores.length : Int)))) rfl hc16 .none rfl ?_
      exact hJ15 _ ⟨rfl, or_f hc16 rfl⟩
    ·rintro f ⟨hf1, hf42⟩
     refine (JL.norm (i := 1) hf1 (JL.norm (i := 42) hf42 ?_))
     refine JL.done hQ (JQ.go ?_)
     rcases ite_some hF with ⟨hc17, hF⟩ | ⟨hc17, hF⟩
     ·refine JC.cond_t (b := ((p9 || ((f_.Starts.length : Int) != (f_.Dome.Gores.length : Int))) || ((f_.Times.length : Int) != (f_.Dome.Gores.length : Int)))) rfl hc17 ?_
      refine JC.seq (JC.region (by rfl) ?_)
      intro hQ
      refine JL.assign .none rfl ?_
      refine JL.done hQ (JQ.go (JC.ret (JQ.ret_then ?_)))
      obtain rfl := Option.some.inj hF
      exact JQ.outS rfl (.tmp .nil) rfl
     ·refine JC.cond_f (b := ((p9 || ((f_.Starts.length : Int) != (f_.Dome.Gores.length : Int))) || ((f_.Times.length : Int) != (f_.Dome.Gores.length : Int)))) rfl hc17 ?_
      refine JC.skip (JQ.go (JC.seq (JC.seq (JC.region (by rfl) ?_))))
      intro hQ
      refine JL.fieldAddr fo_28_4 rfl .none rfl ?_
      refine JL.loadOwn 0 az_23 rfl rfl rfl .none rfl ?_
      refine JL.lenSL (R := RInt) ul_23 hf__9 .none rfl ?_
      refine JL.move .none rfl ?_
      refine JL.done hQ (JQ.go ?_)
      obtain ⟨r159, hlr159, hKr159⟩ := bind_some hF
      refine JC.join (fun (_ : Unit) H158 f bs gs => bs = [] ∧ gs = [] ∧ HSub H H158 ∧ Sum.inr () = r159) ?_ ?_
      ·skip
       refine JC.block (JC.loop hlr159 (fun (x_252 : Int) H253 f bs gs => f 1 = .pointer (some ⟨b1, 0, none⟩) ∧ f 45 = .int .i64 (f_.Starts.length : Int) ∧ f 46 = .int .i64 x_252 ∧ bs = [(b1, .cells [f__v0, f__v1, .int .i64 f_.Dome.Loss, f__v3, f__v4, .int .i64 f_.Dome.Slope, .int .i64 f_.Period, .int .i64 f_.Run, .int .i64 f_.Near, f__v9, f__v10].toArray 28)] ∧ gs = [] ∧ HSub H H253) ⟨rfl, rfl, rfl, rfl, rfl, (HSub.refl _)⟩ ?_)
       rintro x_252 x255 H253 f bs gs ⟨hf1, hf45, hf46, rfl, rfl, hs253⟩ hF hr254
       rw [F_seams_isFigure_s1] at hF
       refine (JC.norm (i := 1) hf1 (JC.norm (i := 45) hf45 (JC.norm (i := 46) hf46 ?_)))
       refine JC.seq (JC.region (by rfl) ?_)
       intro hQ
       refine JL.bin rfl rfl rfl .none rfl ?_
       refine JL.done hQ (JQ.go (JC.seq ?_))
       rcases ite_some hF with ⟨hc256, hF⟩ | ⟨hc256, hF⟩
       ·refine JC.cond_t (b := decide (x_252 < (f_.Starts.length : Int))) rfl hc256 ?_
        refine JC.skip (JQ.go (JC.seq (JC.block (JC.seq (JC.region (by rfl) ?_)))))
        intro hQ
        refine JL.move .none rfl ?_
        refine JL.assign .none rfl ?_
        refine JL.done hQ (JQ.go (JC.seq (JC.draw (by rfl) mo_ (by kernel_rfl) ?_)))
        intro hQ
        refine JL.fieldAddr fo_28_4 rfl .none rfl ?_
        refine JL.loadOwn 0 az_23 rfl rfl rfl .none rfl ?_
        refine JL.move .none rfl ?_
        obtain ⟨y278, hy278, hF⟩ := bind_some hF
        refine JL.indexSL (R := RInt) sl_23 (SL.mono RInt.mono hs253 hf__9) rfl hy278 .none rfl ?_
        rintro b279 o280 cs281 hc282 - rfl
        refine JL.loadH 0 az_3 rfl hc282 rfl .none rfl ?_
        refine JL.fieldAddr fo_28_1 rfl .none rfl ?_
        refine JL.loadOwn 0 az_3 rfl rfl rfl .none rfl ?_
        refine JL.bin rfl rfl rfl .none rfl ?_
        obtain ⟨y283, hy283, hF⟩ := bind_some hF
        refine JL.callS (c_seams_within n H253 y278 0 (w64 (f_.Period - 1)) y283 hy283) rfl en_57 .none rfl ?_
        refine JL.not rfl .none rfl ?_
        refine JL.move .none rfl ?_
        obtain ⟨p290, hp290, hF⟩ := bind_some hF
        refine JL.cut 8 (fun f => f 1 = .pointer (some ⟨b1, 0, none⟩) ∧ f 45 = .int .i64 (f_.Starts.length : Int) ∧ f 46 = .int .i64 x_252 ∧ f 67 = .bool p290) ?_ ?_
        ·intro hJ291
         rcases ite_some hp290 with ⟨hc292, hF⟩ | ⟨hc292, hF⟩
         ·skip
          refine JL.skip (.bool rfl rfl rfl hc292) rfl ?_
          refine JL.skip (.bool rfl rfl rfl hc292) rfl ?_
          refine JL.skip (.bool rfl rfl rfl hc292) rfl ?_
          refine JL.skip (.bool rfl rfl rfl hc292) rfl ?_
          refine JL.skip (.bool rfl rfl rfl hc292) rfl ?_
          refine JL.skip (.bool rfl rfl rfl hc292) rfl ?_
          refine JL.skip (.bool rfl rfl rfl hc292) rfl ?_
          refine JL.pick_t (b := (!y283)) rfl hc292 .none rfl ?_
          obtain rfl := Option.some.inj hF
          exact hJ291 _ ⟨rfl, rfl, rfl, rfl⟩
         ·skip
          refine JL.fieldAddr fo_28_5 rfl (.some rfl rfl rfl hc292) rfl ?_
          refine JL.loadOwn 0 az_23 rfl rfl rfl (.some rfl rfl rfl hc292) rfl ?_
          refine JL.move (.some rfl rfl rfl hc292) rfl ?_
          obtain ⟨y293, hy293, hF⟩ := bind_some hF
          refine JL.indexSL (R := RInt) sl_23 (SL.mono RInt.mono hs253 hf__10) rfl hy293 (.some rfl rfl rfl hc292) rfl ?_
          rintro b294 o295 cs296 hc297 - rfl
          refine JL.loadH 0 az_3 rfl hc297 rfl (.some rfl rfl rfl hc292) rfl ?_
          obtain ⟨y298, hy298, hF⟩ := bind_some hF
          refine JL.callS (c_seams_within n H253 y293 1 99 y298 hy298) rfl en_57 (.some rfl rfl rfl hc292) rfl ?_
          refine JL.not rfl (.some rfl rfl rfl hc292) rfl ?_
          refine JL.pick_f (b := (!y283)) rfl hc292 .none rfl ?_
          obtain rfl := Option.some.inj hF
          exact hJ291 _ ⟨rfl, rfl, rfl, rfl⟩
        ·rintro f ⟨hf1, hf45, hf46, hf67⟩
         refine (JL.norm (i := 1) hf1 (JL.norm (i := 45) hf45 (JL.norm (i := 46) hf46 (JL.norm (i := 67) hf67 ?_))))
         refine JL.doneQ hQ ?_
         refine JQ.go ?_
         rcases ite_some hF with ⟨hc299, hF⟩ | ⟨hc299, hF⟩
         ·refine JC.cond_t (b := p290) rfl hc299 ?_
          refine JC.seq (JC.region (by rfl) ?_)
          intro hQ
          refine JL.assign .none rfl ?_
          refine JL.done hQ (JQ.go (JC.ret (JQ.ret_block (JQ.ret_then (JQ.ret_then (JQ.ret_block (JQ.ret_join (JQ.ret_then ?_))))))))
          obtain rfl := Option.some.inj hF
          have ehr254 := hr254 _ rfl
          subst ehr254
          have hF := hKr159
          try dsimp only at hF
          obtain rfl := Option.some.inj hF
          exact JQ.outS rfl (.tmp .nil) rfl
         ·refine JC.cond_f (b := p290) rfl hc299 ?_
          refine JC.skip (JQ.normal_block (JQ.go (JC.region (by rfl) ?_)))
          intro hQ
          refine JL.bin rfl rfl rfl .none rfl ?_
          refine JL.move .none rfl ?_
          refine JL.done hQ ?_
          obtain rfl := Option.some.inj hF
          exact JQ.next rfl ⟨rfl, rfl, rfl, rfl, rfl, hs253⟩
       ·refine JC.cond_f (b := decide (x_252 < (f_.Starts.length : Int))) rfl hc256 ?_
        refine JC.exit (JQ.exit_then (JQ.exit_then (JQ.exit_block ?_)))
        obtain rfl := Option.some.inj hF
        have ehr254 := hr254 _ rfl
        subst ehr254
        refine JQ.mask [false] [] ?_
        exact JQ.join () ⟨rfl, rfl, hs253, rfl⟩
      ·rintro _ H158 f bs gs ⟨rfl, rfl, hs158, rfl⟩
       have hF := hKr159
       try dsimp only at hF
       refine JQ.go (JC.seq (JC.region (by rfl) ?_))
       intro hQ
       refine JL.assign .none rfl ?_
       refine JL.done hQ (JQ.go (JC.ret ?_))
       obtain rfl := Option.some.inj hF
       exact JQ.outS rfl (.tmp .nil) rfl
-- 110 ferrule/seams.Check
def F_seams_Check (n : Nat) (f_ : Figure) : Option Int :=
 (F_cloth_Check n f_.Dome).bind fun y2 => if (y2 != 0) = true then (some y2) else ((F_seams_isFigure n f_).bind fun y4 => if (!y4) = true then (some 40) else (some 0))
theorem c_seams_Check (n : Nat) (H : Hp) (f_ : Figure) (f__v0 : Value) (hf__0 : SL H 4 R_Bolt f__v0 f_.Dome.Bolts) (f__v1 : Value) (hf__1 : SL H 1 RInt f__v1 f_.Dome.Gores) (f__v3 : Value) (hf__3 : SL H 2 R_Span f__v3 f_.Dome.Rounds) (f__v4 : Value) (hf__4 : SL H 1 RInt f__v4 f_.Dome.Widths) (f__v9 : Value) (hf__9 : SL H 1 RInt f__v9 f_.Starts) (f__v10 : Value) (hf__10 : SL H 1 RInt f__v10 f_.Times) (y : Int) (hF : F_seams_Check n f_ = some y) : SC Try.prog 110 [.agg [f__v0, f__v1, .int .i64 f_.Dome.Loss, f__v3, f__v4, .int .i64 f_.Dome.Slope, .int .i64 f_.Period, .int .i64 f_.Run, .int .i64 f_.Near, f__v9, f__v10].toArray] (.int .i64 y) H := by
 rw [F_seams_Check] at hF
 refine SC.of (N := 13) Try.func110 rfl rfl rfl fun w => ?_
 refine JC.seq (JC.region (by rfl) ?_)
 intro hQ
 refine JL.box (cs := [f__v0, f__v1, .int .i64 f_.Dome.Loss, f__v3, f__v4, .int .i64 f_.Dome.Slope, .int .i64 f_.Period, .int .i64 f_.Run, .int .i64 f_.Near, f__v9, f__v10]) rfl .none rfl ?_
 intro b1
 refine JL.assign .none rfl ?_
 refine JL.done hQ (JQ.go (JC.seq (JC.seq (JC.region (by rfl) ?_))))
 intro hQ
 refine JL.fieldAddr fo_28_0 rfl .none rfl ?_
 refine JL.loadOwn 0 az_26 rfl rfl rfl .none rfl ?_
 obtain ⟨y2, hy2, hF⟩ := bind_some hF
 refine JL.callS (c_cloth_Check n H f_.Dome f__v0 hf__0 f__v1 hf__1 f__v3 hf__3 f__v4 hf__4 y2 hy2) rfl en_106 .none rfl ?_
 refine JL.assign .none rfl ?_
 refine JL.done hQ (JQ.go (JC.seq (JC.region (by rfl) ?_)))
 intro hQ
 refine JL.move .none rfl ?_
 refine JL.bin rfl rfl rfl .none rfl ?_
 refine JL.done hQ (JQ.go ?_)
 rcases ite_some hF with ⟨hc3, hF⟩ | ⟨hc3, hF⟩
 ·refine JC.cond_t (b := (y2 != 0)) rfl hc3 ?_
  refine JC.seq (JC.region (by rfl) ?_)
  intro hQ
  refine JL.move .none rfl ?_
  refine JL.assign .none rfl ?_
  refine JL.done hQ (JQ.go (JC.ret (JQ.ret_then ?_)))
  obtain rfl := Option.some.inj hF
  exact JQ.outS rfl (.tmp .nil) rfl
 ·refine JC.cond_f (b := (y2 != 0)) rfl hc3 ?_
  refine JC.skip (JQ.go (JC.seq (JC.seq (JC.region (by rfl) ?_))))
  intro hQ
  refine JL.loadOwn 0 az_28 rfl rfl rfl .none rfl ?_
  obtain ⟨y4, hy4, hF⟩ := bind_some hF
  refine JL.callS (c_seams_isFigure n H f_ f__v0 hf__0 f__v1 hf__1 f__v3 hf__3 f__v4 hf__4 f__v9 hf__9 f__v10 hf__10 y4 hy4) rfl en_164 .none rfl ?_
  refine JL.not rfl .none rfl ?_
  refine JL.done hQ (JQ.go ?_)
  rcases ite_some hF with ⟨hc5, hF⟩ | ⟨hc5, hF⟩
  ·refine JC.cond_t (b := (!y4)) rfl hc5 ?_
   refine JC.seq (JC.region (by rfl) ?_)
   intro hQ
   refine JL.assign .none rfl ?_
   refine JL.done hQ (JQ.go (JC.ret (JQ.ret_then ?_)))
   obtain rfl := Option.some.inj hF
   exact JQ.outS rfl (.tmp .nil) rfl
  ·refine JC.cond_f (b := (!y4)) rfl hc5 ?_
   refine JC.skip (JQ.go (JC.seq (JC.region (by rfl) ?_)))
   intro hQ
   refine JL.assign .none rfl ?_
   refine JL.done hQ (JQ.go (JC.ret ?_))
   obtain rfl := Option.some.inj hF
   exact JQ.outS rfl (.tmp .nil) rfl
-- 55 ferrule/cloth.isBoltOf
def F_cloth_isBoltOf (n : Nat) (d : Dome) (n_ : Int) : Option Bool :=
 (F_cloth_within n n_ 0 (w64 ((d.Bolts.length : Int) - 1))).bind fun y2 => some y2
theorem c_cloth_isBoltOf (n : Nat) (H : Hp) (d : Dome) (d_v0 : Value) (hd_0 : SL H 4 R_Bolt d_v0 d.Bolts) (d_v1 : Value) (hd_1 : SL H 1 RInt d_v1 d.Gores) (d_v3 : Value) (hd_3 : SL H 2 R_Span d_v3 d.Rounds) (d_v4 : Value) (hd_4 : SL H 1 RInt d_v4 d.Widths) (n_ : Int) (y : Bool) (hF : F_cloth_isBoltOf n d n_ = some y) : SC Try.prog 55 [.agg [d_v0, d_v1, .int .i64 d.Loss, d_v3, d_v4, .int .i64 d.Slope].toArray, .int .i64 n_] (.bool y) H := by
 rw [F_cloth_isBoltOf] at hF
 refine SC.of (N := 11) Try.func55 rfl rfl rfl fun w => ?_
 refine JC.seq (JC.region (by rfl) ?_)
 intro hQ
 refine JL.box (cs := [d_v0, d_v1, .int .i64 d.Loss, d_v3, d_v4, .int .i64 d.Slope]) rfl .none rfl ?_
 intro b1
 refine JL.assign .none rfl ?_
 refine JL.done hQ (JQ.go (JC.seq (JC.region (by rfl) ?_)))
 intro hQ
 refine JL.move .none rfl ?_
 refine JL.fieldAddr fo_26_0 rfl .none rfl ?_
 refine JL.loadOwn 0 az_22 rfl rfl rfl .none rfl ?_
 refine JL.lenSL (R := R_Bolt) ul_22 hd_0 .none rfl ?_
 refine JL.bin rfl rfl rfl .none rfl ?_
 obtain ⟨y2, hy2, hF⟩ := bind_some hF
 refine JL.callS (c_cloth_within n H n_ 0 (w64 ((d.Bolts.length : Int) - 1)) y2 hy2) rfl en_109 .none rfl ?_
 refine JL.assign .none rfl ?_
 refine JL.done hQ (JQ.go (JC.ret ?_))
 obtain rfl := Option.some.inj hF
 exact JQ.outS rfl (.tmp .nil) rfl
-- 12 ferrule/cloth.Stretches
def F_cloth_Stretches (n : Nat) (d : Dome) (bolt : Int) : Option ((List Int) × Int) :=
 (F_cloth_isBoltOf n d bolt).bind fun y4 => (F_cloth_pitch n d y4).bind fun y5 => if (y5.2 != 0) = true then (some (([] : List Int), y5.2)) else (y5.1.bind fun w13 => (geti w13.can bolt).bind fun y19 => some (y19, 0))
theorem c_cloth_Stretches (n : Nat) (H : Hp) (d : Dome) (d_v0 : Value) (hd_0 : SL H 4 R_Bolt d_v0 d.Bolts) (d_v1 : Value) (hd_1 : SL H 1 RInt d_v1 d.Gores) (d_v3 : Value) (hd_3 : SL H 2 R_Span d_v3 d.Rounds) (d_v4 : Value) (hd_4 : SL H 1 RInt d_v4 d.Widths) (bolt : Int) (y : (List Int) × Int) (hF : F_cloth_Stretches n d bolt = some y) : HC Try.prog 12 [.agg [d_v0, d_v1, .int .i64 d.Loss, d_v3, d_v4, .int .i64 d.Slope].toArray, .int .i64 bolt] H (fun H' v => ∃ ra_v0 : Value, v = .tuple [ra_v0, .int .i64 y.2].toArray ∧ SL H' 1 RInt ra_v0 y.1) := by
 rw [F_cloth_Stretches] at hF
 refine HC.of (N := 26) Try.func12 rfl rfl rfl fun w => ?_
 refine JC.seq (JC.region (by rfl) ?_)
 intro hQ
 refine JL.box (cs := [d_v0, d_v1, .int .i64 d.Loss, d_v3, d_v4, .int .i64 d.Slope]) rfl .none rfl ?_
 intro b1
 refine JL.assign .none rfl ?_
 refine JL.assign .none rfl ?_
 refine JL.done hQ (JQ.go (JC.seq ?_))
 obtain ⟨y4, hy4, hF⟩ := bind_some hF
 obtain ⟨y5, hy5, hF⟩ := bind_some hF
 refine JC.mixed 10 10 #[false, false, false, false, false, false, false, false, false, false] [(b1, .cells [d_v0, d_v1, .int .i64 d.Loss, d_v3, d_v4, .int .i64 d.Slope].toArray 26)] (by rfl) mo_ (by kernel_rfl) (by kernel_rfl) ?_
 intro hQ hE
 refine JA.take 0 (listed' := #[true, false, false, false, false, false, false, false, false, false]) hQ rfl (by kernel_rfl) (by kernel_rfl) (by kernel_rfl) (by kernel_rfl) (by kernel_rfl) hE (HSub.refl _) (.cons_cons _ (List.nil_sublist _)) ?_
 refine JL.loadOwn 0 az_26 rfl rfl rfl .none rfl ?_
 refine JA.cont ?_
 refine JA.take 1 (listed' := #[true, true, false, false, false, false, false, false, false, false]) hQ rfl (by kernel_rfl) (by kernel_rfl) (by kernel_rfl) (by kernel_rfl) (by kernel_rfl) hE (HSub.refl _) (.cons_cons _ (List.nil_sublist _)) ?_
 refine JL.loadOwn 0 az_26 rfl rfl rfl .none rfl ?_
 refine JA.cont ?_
 refine JA.take 2 (listed' := #[true, true, true, false, false, false, false, false, false, false]) hQ rfl (by kernel_rfl) (by kernel_rfl) (by kernel_rfl) (by kernel_rfl) (by kernel_rfl) hE (HSub.refl _) (.cons_cons _ (List.nil_sublist _)) ?_
 refine JL.move .none rfl ?_
 refine JA.cont ?_
 refine JA.many [3] (by kernel_rfl) (by simp) (all_one ⟨_, #[true, true, true, true, false, false, false, false, false, false], rfl, (by kernel_rfl), ?_⟩)
 refine JL.callS (c_cloth_isBoltOf n H d d_v0 hd_0 d_v1 hd_1 d_v3 hd_3 d_v4 hd_4 bolt y4 hy4) rfl en_55 .none rfl ?_
 refine JA.after hE (HSub.refl _) (.cons_cons _ (List.nil_sublist _)) ?_
 refine JA.many [4] (by kernel_rfl) (by simp) (all_one ⟨_, #[true, true, true, true, true, false, false, false, false, false], rfl, (by kernel_rfl), ?_⟩)
 refine JL.callH (c_cloth_pitch n H d d_v0 hd_0 d_v1 hd_1 d_v3 hd_3 d_v4 hd_4 y4 y5 hy5) rfl en_54 .none rfl ?_
 rintro H10 vv11 hs10 ⟨y5a_v0, rfl, hy5a_0⟩
 refine JA.after hE hs10 (.cons_cons _ (List.nil_sublist _)) ?_
 refine JA.take 5 (listed' := #[true, true, true, true, true, true, false, false, false, false]) hQ rfl (by kernel_rfl) (by kernel_rfl) (by kernel_rfl) (by kernel_rfl) (by kernel_rfl) hE hs10 (.cons_cons _ (List.nil_sublist _)) ?_
 refine JL.move .none rfl ?_
 refine JA.cont ?_
 refine JA.take 6 (listed' := #[true, true, true, true, true, true, true, false, false, false]) hQ rfl (by kernel_rfl) (by kernel_rfl) (by kernel_rfl) (by kernel_rfl) (by kernel_rfl) hE hs10 (.cons_cons _ (List.nil_sublist _)) ?_
 refine JL.extract rfl rfl .none rfl ?_
 refine JA.cont ?_
 refine JA.take 7 (listed' := #[true, true, true, true, true, true, true, true, false, false]) hQ rfl (by kernel_rfl) (by kernel_rfl) (by kernel_rfl) (by kernel_rfl) (by kernel_rfl) hE hs10 (.cons_cons _ (List.nil_sublist _)) ?_
 refine JL.extract rfl rfl .none rfl ?_
 refine JA.cont ?_
 refine JA.take 8 (listed' := #[true, true, true, true, true, true, true, true, true, false]) hQ rfl (by kernel_rfl) (by kernel_rfl) (by kernel_rfl) (by kernel_rfl) (by kernel_rfl) hE hs10 (.cons_cons _ (List.nil_sublist _)) ?_
 refine JL.assign .none rfl ?_
 refine JA.cont ?_
 refine JA.take 9 (listed' := #[true, true, true, true, true, true, true, true, true, true]) hQ rfl (by kernel_rfl) (by kernel_rfl) (by kernel_rfl) (by kernel_rfl) (by kernel_rfl) hE hs10 (.cons_cons _ (List.nil_sublist _)) ?_
 refine JL.assign .none rfl ?_
 refine JA.cont ?_
 refine JA.done hQ (by kernel_rfl) ?_
 refine JQ.go (JC.fresh (fun f => f 1 = .int .i64 bolt ∧ f 4 = .slice none 0 0 ∧ f 5 = .int .i64 0 ∧ f 6 = y5a_v0 ∧ f 7 = .int .i64 y5.2) ⟨rfl, rfl, rfl, rfl, rfl⟩ ?_)
 rintro f ⟨hf1, hf4, hf5, hf6, hf7⟩
 refine (JC.norm (i := 1) hf1 (JC.norm (i := 4) hf4 (JC.norm (i := 5) hf5 (JC.norm (i := 6) hf6 (JC.norm (i := 7) hf7 ?_)))))
 refine JC.seq (JC.seq (JC.region (by rfl) ?_))
 intro hQ
 refine JL.move .none rfl ?_
 refine JL.bin rfl rfl rfl .none rfl ?_
 refine JL.done hQ (JQ.go ?_)
 rcases ite_some hF with ⟨hc12, hF⟩ | ⟨hc12, hF⟩
 ·refine JC.cond_t (b := (y5.2 != 0)) rfl hc12 ?_
  refine JC.seq (JC.region (by rfl) ?_)
  intro hQ
  refine JL.move .none rfl ?_
  refine JL.assign .none rfl ?_
  refine JL.assign .none rfl ?_
  refine JL.done hQ (JQ.go (JC.ret (JQ.ret_then ?_)))
  obtain rfl := Option.some.inj hF
  exact JQ.outH rfl (.tmp (.tmp .nil)) ⟨(.slice none 0 0), rfl, SL.nil⟩
 ·refine JC.cond_f (b := (y5.2 != 0)) rfl hc12 ?_
  refine JC.skip (JQ.go (JC.seq (JC.region (by rfl) ?_)))
  intro hQ
  refine JL.move .none rfl ?_
  obtain ⟨w13, hw13, hF⟩ := bind_some hF
  obtain ⟨b14, o15, cs16, hv17, hc18, ⟨w13_v0, w13_v1, w13_v3, w13_v4, w13_v6, rfl, hw13_0, hw13_1, hw13_3, hw13_4, hw13_6⟩⟩ := (show PT H10 R_cloth_tent y5a_v0 (some w13) by rw [← hw13]; exact hy5a_0)
  subst hv17
  refine JL.nilCheck rfl .none rfl ?_
  refine JL.fieldAddr fo_117_1 rfl .none rfl ?_
  refine JL.loadH 6 az_115 rfl hc18 rfl .none rfl ?_
  refine JL.move .none rfl ?_
  obtain ⟨y19, hy19, hF⟩ := bind_some hF
  refine JL.indexSL (R := (RSl 1 RInt)) sl_115 hw13_6 rfl hy19 .none rfl ?_
  rintro b20 o21 cs22 hc23 - ⟨y19_v0, rfl, hy19_0⟩
  refine JL.loadH 0 az_23 rfl hc23 rfl .none rfl ?_
  refine JL.assign .none rfl ?_
  refine JL.assign .none rfl ?_
  refine JL.done hQ (JQ.go (JC.fresh (fun f => f 4 = y19_v0 ∧ f 5 = .int .i64 0) ⟨rfl, rfl⟩ ?_))
  rintro f ⟨hf4, hf5⟩
  refine (JC.norm (i := 4) hf4 (JC.norm (i := 5) hf5 ?_))
  refine JC.ret ?_
  obtain rfl := Option.some.inj hF
  exact JQ.outH rfl (.tmp (.tmp .nil)) ⟨y19_v0, rfl, hy19_0⟩
end Go.Proofs.Yteihdclpiekmaaa
end
section
set_option maxRecDepth 100000
set_option maxHeartbeats 40000000
namespace Go.Proofs.Yteihdclpiekmaaa
open Go Go.RowKit Go.Dec
set_option linter.unusedVariables false
-- 56 ferrule/seams.open
def F_seams_open_s2 (n : Nat) (f_ : Figure) (y862 : (List Int) × Int) : Int × List Int → Option ((Int × List Int) ⊕ (List Int))
 | (x_961, out_962) => if decide (x_961 < (y862.1.length : Int)) = true then ((geti y862.1 x_961).bind fun y967 => (nz f_.Period).bind fun _ => (lim (out_962 ++ [((w64 ((w64 (f_.Run * (w64 (1000 + y967)))).tdiv 1000)).tmod f_.Period)])).bind fun l974 => some (Sum.inl ((w64 (x_961 + 1)), l974))) else (some (Sum.inr out_962))
def F_seams_open_s1 (n : Nat) (f_ : Figure) : Int × List (List Int) → Option ((Int × List (List Int)) ⊕ (((Option seams_ring) × Int) ⊕ (List (List Int))))
 | (x_851, out_852) => if decide (x_851 < (f_.Dome.Gores.length : Int)) = true then ((geti f_.Dome.Gores x_851).bind fun y857 => (F_cloth_Stretches n f_.Dome y857).bind fun y862 => if (y862.2 != 0) = true then (some (Sum.inr (Sum.inl ((none : Option seams_ring), y862.2)))) else ((loopO n (F_seams_open_s2 n f_ y862) (0, ([] : List Int))).bind fun out_928 => (lim (out_852 ++ [out_928])).bind fun l983 => some (Sum.inl ((w64 (x_851 + 1)), l983)))) else (some (Sum.inr (Sum.inr out_852)))
def F_seams_open (n : Nat) (f_ : Figure) (is : Bool) : Option ((Option seams_ring) × Int) :=
 (F_seams_Check n f_).bind fun y2 => if (y2 != 0) = true then (some ((none : Option seams_ring), y2)) else (if (!is) = true then (some ((none : Option seams_ring), 1)) else ((loopO n (F_seams_open_s1 n f_) (0, ([] : List (List Int)))).bind fun r576 => match r576 with | .inl o => some o | .inr out_574 => some ((some (seams_ring.mk f_ out_574)), 0)))
theorem c_seams_open (n : Nat) (H : Hp) (f_ : Figure) (f__v0 : Value) (hf__0 : SL H 4 R_Bolt f__v0 f_.Dome.Bolts) (f__v1 : Value) (hf__1 : SL H 1 RInt f__v1 f_.Dome.Gores) (f__v3 : Value) (hf__3 : SL H 2 R_Span f__v3 f_.Dome.Rounds) (f__v4 : Value) (hf__4 : SL H 1 RInt f__v4 f_.Dome.Widths) (f__v9 : Value) (hf__9 : SL H 1 RInt f__v9 f_.Starts) (f__v10 : Value) (hf__10 : SL H 1 RInt f__v10 f_.Times) (is : Bool) (y : (Option seams_ring) × Int) (hF : F_seams_open n f_ is = some y) : HC Try.prog 56 [.agg [f__v0, f__v1, .int .i64 f_.Dome.Loss, f__v3, f__v4, .int .i64 f_.Dome.Slope, .int .i64 f_.Period, .int .i64 f_.Run, .int .i64 f_.Near, f__v9, f__v10].toArray, .bool is] H (fun H' v => ∃ ra_v0 : Value, v = .tuple [ra_v0, .int .i64 y.2].toArray ∧ PT H' R_seams_ring ra_v0 y.1) := by
 rw [F_seams_open] at hF
 refine HC.of (N := 74) Try.func56 rfl rfl rfl fun w => ?_
 refine JC.seq (JC.region (by rfl) ?_)
 intro hQ
 refine JL.box (cs := [f__v0, f__v1, .int .i64 f_.Dome.Loss, f__v3, f__v4, .int .i64 f_.Dome.Slope, .int .i64 f_.Period, .int .i64 f_.Run, .int .i64 f_.Near, f__v9, f__v10]) rfl .none rfl ?_
 intro b1
 refine JL.assign .none rfl ?_
 refine JL.assign .none rfl ?_
 refine JL.done hQ (JQ.go (JC.seq (JC.seq (JC.region (by rfl) ?_))))
 intro hQ
 refine JL.loadOwn 0 az_28 rfl rfl rfl .none rfl ?_
 obtain ⟨y2, hy2, hF⟩ := bind_some hF
 refine JL.callS (c_seams_Check n H f_ f__v0 hf__0 f__v1 hf__1 f__v3 hf__3 f__v4 hf__4 f__v9 hf__9 f__v10 hf__10 y2 hy2) rfl en_110 .none rfl ?_
 refine JL.assign .none rfl ?_
 refine JL.done hQ (JQ.go (JC.seq (JC.region (by rfl) ?_)))
 intro hQ
 refine JL.move .none rfl ?_
 refine JL.bin rfl rfl rfl .none rfl ?_
 refine JL.done hQ (JQ.go ?_)
 rcases ite_some hF with ⟨hc3, hF⟩ | ⟨hc3, hF⟩
 ·refine JC.cond_t (b := (y2 != 0)) rfl hc3 ?_
  refine JC.seq (JC.region (by rfl) ?_)
  intro hQ
  refine JL.move .none rfl ?_
  refine JL.assign .none rfl ?_
  refine JL.assign .none rfl ?_
  refine JL.done hQ (JQ.go (JC.ret (JQ.ret_then ?_)))
  obtain rfl := Option.some.inj hF
  exact JQ.outH rfl (.tmp (.tmp .nil)) ⟨(.pointer none), rfl, rfl⟩
 ·refine JC.cond_f (b := (y2 != 0)) rfl hc3 ?_
  refine JC.skip (JQ.go (JC.seq (JC.seq (JC.region (by rfl) ?_))))
  intro hQ
  refine JL.move .none rfl ?_
  refine JL.not rfl .none rfl ?_
  refine JL.done hQ (JQ.go ?_)
  rcases ite_some hF with ⟨hc4, hF⟩ | ⟨hc4, hF⟩
  ·refine JC.cond_t (b := (!is)) rfl hc4 ?_
   refine JC.seq (JC.region (by rfl) ?_)
   intro hQ
   refine JL.assign .none rfl ?_
   refine JL.assign .none rfl ?_
   refine JL.done hQ (JQ.go (JC.ret (JQ.ret_then ?_)))
   obtain rfl := Option.some.inj hF
   exact JQ.outH rfl (.tmp (.tmp .nil)) ⟨(.pointer none), rfl, rfl⟩
  ·refine JC.cond_f (b := (!is)) rfl hc4 ?_
   refine JC.skip (JQ.go (JC.seq (JC.region (by rfl) ?_)))
   intro hQ
   refine JL.loadOwn 0 az_28 rfl rfl rfl .none rfl ?_
   obtain ⟨a5, c6, rfl, hh7⟩ := hf__0
   have hf__0 : SL H 4 R_Bolt (.slice a5 f_.Dome.Bolts.length c6) f_.Dome.Bolts := ⟨a5, c6, rfl, hh7⟩
   obtain ⟨a8, c9, rfl, hh10⟩ := hf__1
   have hf__1 : SL H 1 RInt (.slice a8 f_.Dome.Gores.length c9) f_.Dome.Gores := ⟨a8, c9, rfl, hh10⟩
   obtain ⟨a11, c12, rfl, hh13⟩ := hf__3
   have hf__3 : SL H 2 R_Span (.slice a11 f_.Dome.Rounds.length c12) f_.Dome.Rounds := ⟨a11, c12, rfl, hh13⟩
   obtain ⟨a14, c15, rfl, hh16⟩ := hf__4
   have hf__4 : SL H 1 RInt (.slice a14 f_.Dome.Widths.length c15) f_.Dome.Widths := ⟨a14, c15, rfl, hh16⟩
   obtain ⟨a17, c18, rfl, hh19⟩ := hf__9
   have hf__9 : SL H 1 RInt (.slice a17 f_.Starts.length c18) f_.Starts := ⟨a17, c18, rfl, hh19⟩
   obtain ⟨a20, c21, rfl, hh22⟩ := hf__10
   have hf__10 : SL H 1 RInt (.slice a20 f_.Times.length c21) f_.Times := ⟨a20, c21, rfl, hh22⟩
   refine JL.build (l := [(.slice a5 f_.Dome.Bolts.length c6), (.slice a8 f_.Dome.Gores.length c9), .int .i64 f_.Dome.Loss, (.slice a11 f_.Dome.Rounds.length c12), (.slice a14 f_.Dome.Widths.length c15), .int .i64 f_.Dome.Slope, .int .i64 f_.Period, .int .i64 f_.Run, .int .i64 f_.Near, (.slice a17 f_.Starts.length c18), (.slice a20 f_.Times.length c21), .slice none 0 0]) (by kernel_rfl) .none rfl ?_
   refine JL.box (cs := [(.slice a5 f_.Dome.Bolts.length c6), (.slice a8 f_.Dome.Gores.length c9), .int .i64 f_.Dome.Loss, (.slice a11 f_.Dome.Rounds.length c12), (.slice a14 f_.Dome.Widths.length c15), .int .i64 f_.Dome.Slope, .int .i64 f_.Period, .int .i64 f_.Run, .int .i64 f_.Near, (.slice a17 f_.Starts.length c18), (.slice a20 f_.Times.length c21), .slice none 0 0]) rfl .none rfl ?_
   intro b23
   refine JL.assign .none rfl ?_
   refine JL.done hQ (JQ.go (JC.fresh (fun f => f 2 = .pointer (some ⟨b1, 0, none⟩) ∧ f 4 = .pointer none ∧ f 5 = .int .i64 0 ∧ f 7 = .pointer (some ⟨b23, 0, none⟩)) ⟨rfl, rfl, rfl, rfl⟩ ?_))
   rintro f ⟨hf2, hf4, hf5, hf7⟩
   refine (JC.norm (i := 2) hf2 (JC.norm (i := 4) hf4 (JC.norm (i := 5) hf5 (JC.norm (i := 7) hf7 ?_))))
   refine JC.seq (JC.seq (JC.region (by rfl) ?_))
   intro hQ
   refine JL.fieldAddr fo_28_0 rfl .none rfl ?_
   refine JL.fieldAddr fo_26_1 rfl .none rfl ?_
   refine JL.loadOwn 1 az_23 rfl rfl rfl .none rfl ?_
   refine JL.lenSL (R := RInt) ul_23 hf__1 .none rfl ?_
   refine JL.move .none rfl ?_
   refine JL.done hQ (JQ.go (JC.newNil (e := 23) (sz := 1) ?_))
   obtain ⟨r576, hlr576, hKr576⟩ := bind_some hF
   refine JC.join (fun (out_574 : List (List Int)) H575 f bs gs => ∃ (vout_574 : Value) (xsout_574 : List Value), f 7 = .pointer (some ⟨b23, 0, none⟩) ∧ bs = [(b23, .cells [(.slice a5 f_.Dome.Bolts.length c6), (.slice a8 f_.Dome.Gores.length c9), .int .i64 f_.Dome.Loss, (.slice a11 f_.Dome.Rounds.length c12), (.slice a14 f_.Dome.Widths.length c15), .int .i64 f_.Dome.Slope, .int .i64 f_.Period, .int .i64 f_.Run, .int .i64 f_.Near, (.slice a17 f_.Starts.length c18), (.slice a20 f_.Times.length c21), vout_574].toArray 184)] ∧ gs = [⟨vout_574, 23, 1, out_574.length, xsout_574⟩] ∧ CH H575 1 (RSl 1 RInt) xsout_574 out_574 ∧ HSub H H575 ∧ Sum.inr out_574 = r576) ?_ ?_
   ·skip
    refine JC.block (JC.loop hlr576 (fun (x : Int × List (List Int)) H853 f bs gs => match x with | (x_851, out_852) => ∃ (vout_852 : Value) (xsout_852 : List Value), f 2 = .pointer (some ⟨b1, 0, none⟩) ∧ f 7 = .pointer (some ⟨b23, 0, none⟩) ∧ f 27 = (.slice a8 f_.Dome.Gores.length c9) ∧ f 28 = .int .i64 (f_.Dome.Gores.length : Int) ∧ f 29 = .int .i64 x_851 ∧ bs = [(b23, .cells [(.slice a5 f_.Dome.Bolts.length c6), (.slice a8 f_.Dome.Gores.length c9), .int .i64 f_.Dome.Loss, (.slice a11 f_.Dome.Rounds.length c12), (.slice a14 f_.Dome.Widths.length c15), .int .i64 f_.Dome.Slope, .int .i64 f_.Period, .int .i64 f_.Run, .int .i64 f_.Near, (.slice a17 f_.Starts.length c18), (.slice a20 f_.Times.length c21), vout_852].toArray 184), (b1, .cells [(.slice a5 f_.Dome.Bolts.length c6), (.slice a8 f_.Dome.Gores.length c9), .int .i64 f_.Dome.Loss, (.slice a11 f_.Dome.Rounds.length c12), (.slice a14 f_.Dome.Widths.length c15), .int .i64 f_.Dome.Slope, .int .i64 f_.Period, .int .i64 f_.Run, .int .i64 f_.Near, (.slice a17 f_.Starts.length c18), (.slice a20 f_.Times.length c21)].toArray 28)] ∧ gs = [⟨vout_852, 23, 1, out_852.length, xsout_852⟩] ∧ CH H853 1 (RSl 1 RInt) xsout_852 out_852 ∧ HSub H H853) ⟨(.slice none 0 0), [], rfl, rfl, rfl, rfl, rfl, rfl, rfl, CH.nil, (HSub.refl _)⟩ ?_)
    rintro ⟨x_851, out_852⟩ x855 H853 f bs gs ⟨vout_852, xsout_852, hf2, hf7, hf27, hf28, hf29, rfl, rfl, hout_852, hs853⟩ hF hr854
    rw [F_seams_open_s1] at hF
    refine (JC.norm (i := 2) hf2 (JC.norm (i := 7) hf7 (JC.norm (i := 27) hf27 (JC.norm (i := 28) hf28 (JC.norm (i := 29) hf29 ?_)))))
    refine JC.seq (JC.region (by rfl) ?_)
    intro hQ
    refine JL.bin rfl rfl rfl .none rfl ?_
    refine JL.done hQ (JQ.go (JC.seq ?_))
    rcases ite_some hF with ⟨hc856, hF⟩ | ⟨hc856, hF⟩
    ·refine JC.cond_t (b := decide (x_851 < (f_.Dome.Gores.length : Int))) rfl hc856 ?_
     refine JC.skip (JQ.go (JC.seq (JC.block (JC.seq (JC.region (by rfl) ?_)))))
     intro hQ
     obtain ⟨y857, hy857, hF⟩ := bind_some hF
     refine JL.indexSL (R := RInt) sl_23 (SL.mono RInt.mono hs853 hf__1) rfl hy857 .none rfl ?_
     rintro b858 o859 cs860 hc861 - rfl
     refine JL.loadH 0 az_3 rfl hc861 rfl .none rfl ?_
     refine JL.assign .none rfl ?_
     refine JL.done hQ (JQ.go (JC.seq (JC.region (by rfl) ?_)))
     intro hQ
     refine JL.fieldAddr fo_28_0 rfl .none rfl ?_
     refine JL.loadOwn 1 az_26 rfl rfl rfl .none rfl ?_
     refine JL.move .none rfl ?_
     obtain ⟨y862, hy862, hF⟩ := bind_some hF
     refine JL.callH (c_cloth_Stretches n H853 f_.Dome (.slice a5 f_.Dome.Bolts.length c6) (SL.mono R_Bolt_mono hs853 hf__0) (.slice a8 f_.Dome.Gores.length c9) (SL.mono RInt.mono hs853 hf__1) (.slice a11 f_.Dome.Rounds.length c12) (SL.mono R_Span_mono hs853 hf__3) (.slice a14 f_.Dome.Widths.length c15) (SL.mono RInt.mono hs853 hf__4) y857 y862 hy862) rfl en_12 .none rfl ?_
     rintro H863 vv864 hs863 ⟨y862a_v0, rfl, hy862a_0⟩
     refine JL.move .none rfl ?_
     refine JL.extract rfl rfl .none rfl ?_
     refine JL.extract rfl rfl .none rfl ?_
     refine JL.assign .none rfl ?_
     refine JL.assign .none rfl ?_
     refine JL.done hQ (JQ.go (JC.fresh (fun f => f 2 = .pointer (some ⟨b1, 0, none⟩) ∧ f 7 = .pointer (some ⟨b23, 0, none⟩) ∧ f 10 = y862a_v0 ∧ f 11 = .int .i64 y862.2 ∧ f 27 = (.slice a8 f_.Dome.Gores.length c9) ∧ f 28 = .int .i64 (f_.Dome.Gores.length : Int) ∧ f 29 = .int .i64 x_851) ⟨rfl, rfl, rfl, rfl, rfl, rfl, rfl⟩ ?_))
     rintro f ⟨hf2, hf7, hf10, hf11, hf27, hf28, hf29⟩
     refine (JC.norm (i := 2) hf2 (JC.norm (i := 7) hf7 (JC.norm (i := 10) hf10 (JC.norm (i := 11) hf11 (JC.norm (i := 27) hf27 (JC.norm (i := 28) hf28 (JC.norm (i := 29) hf29 ?_)))))))
     refine JC.seq (JC.seq (JC.region (by rfl) ?_))
     intro hQ
     refine JL.move .none rfl ?_
     refine JL.bin rfl rfl rfl .none rfl ?_
     refine JL.done hQ (JQ.go ?_)
     rcases ite_some hF with ⟨hc865, hF⟩ | ⟨hc865, hF⟩
     ·refine JC.cond_t (b := (y862.2 != 0)) rfl hc865 ?_
      refine JC.seq (JC.region (by rfl) ?_)
      intro hQ
      refine JL.move .none rfl ?_
      refine JL.assign .none rfl ?_
      refine JL.assign .none rfl ?_
      refine JL.done hQ (JQ.go (JC.ret (JQ.ret_then (JQ.ret_block (JQ.ret_then (JQ.ret_then (JQ.ret_block (JQ.ret_join (JQ.ret_then ?_)))))))))
      obtain rfl := Option.some.inj hF
      have ehr854 := hr854 _ rfl
      subst ehr854
      have hF := hKr576
      try dsimp only at hF
      obtain rfl := Option.some.inj hF
      exact JQ.outH rfl (.tmp (.tmp .nil)) ⟨(.pointer none), rfl, rfl⟩
     ·refine JC.cond_f (b := (y862.2 != 0)) rfl hc865 ?_
      refine JC.skip (JQ.go (JC.seq (JC.region (by rfl) ?_)))
      intro hQ
      refine JL.assign .none rfl ?_
      refine JL.done hQ (JQ.go (JC.seq (JC.seq (JC.region (by rfl) ?_))))
      intro hQ
      refine JL.move .none rfl ?_
      refine JL.lenSL (R := RInt) ul_23 hy862a_0 .none rfl ?_
      refine JL.move .none rfl ?_
      refine JL.done hQ (JQ.go (JC.newNil (e := 3) (sz := 1) ?_))
      obtain ⟨r930, hlr930, hKr930⟩ := bind_some hF
      refine JC.join (fun (out_928 : List Int) H929 f bs gs => ∃ (vout_928 : Value) (xsout_928 : List Value), f 2 = .pointer (some ⟨b1, 0, none⟩) ∧ f 7 = .pointer (some ⟨b23, 0, none⟩) ∧ f 12 = vout_928 ∧ f 27 = (.slice a8 f_.Dome.Gores.length c9) ∧ f 28 = .int .i64 (f_.Dome.Gores.length : Int) ∧ f 29 = .int .i64 x_851 ∧ bs = [(b23, .cells [(.slice a5 f_.Dome.Bolts.length c6), (.slice a8 f_.Dome.Gores.length c9), .int .i64 f_.Dome.Loss, (.slice a11 f_.Dome.Rounds.length c12), (.slice a14 f_.Dome.Widths.length c15), .int .i64 f_.Dome.Slope, .int .i64 f_.Period, .int .i64 f_.Run, .int .i64 f_.Near, (.slice a17 f_.Starts.length c18), (.slice a20 f_.Times.length c21), vout_852].toArray 184), (b1, .cells [(.slice a5 f_.Dome.Bolts.length c6), (.slice a8 f_.Dome.Gores.length c9), .int .i64 f_.Dome.Loss, (.slice a11 f_.Dome.Rounds.length c12), (.slice a14 f_.Dome.Widths.length c15), .int .i64 f_.Dome.Slope, .int .i64 f_.Period, .int .i64 f_.Run, .int .i64 f_.Near, (.slice a17 f_.Starts.length c18), (.slice a20 f_.Times.length c21)].toArray 28)] ∧ gs = [⟨vout_928, 3, 1, out_928.length, xsout_928⟩, ⟨vout_852, 23, 1, out_852.length, xsout_852⟩] ∧ CH H929 1 RInt xsout_928 out_928 ∧ HSub H863 H929 ∧ out_928 = r930) ?_ ?_
      ·skip
       refine JC.block (JC.loop hlr930 (fun (x : Int × List Int) H963 f bs gs => match x with | (x_961, out_962) => ∃ (vout_962 : Value) (xsout_962 : List Value), f 2 = .pointer (some ⟨b1, 0, none⟩) ∧ f 7 = .pointer (some ⟨b23, 0, none⟩) ∧ f 12 = vout_962 ∧ f 27 = (.slice a8 f_.Dome.Gores.length c9) ∧ f 28 = .int .i64 (f_.Dome.Gores.length : Int) ∧ f 29 = .int .i64 x_851 ∧ f 43 = y862a_v0 ∧ f 44 = .int .i64 (y862.1.length : Int) ∧ f 45 = .int .i64 x_961 ∧ bs = [(b23, .cells [(.slice a5 f_.Dome.Bolts.length c6), (.slice a8 f_.Dome.Gores.length c9), .int .i64 f_.Dome.Loss, (.slice a11 f_.Dome.Rounds.length c12), (.slice a14 f_.Dome.Widths.length c15), .int .i64 f_.Dome.Slope, .int .i64 f_.Period, .int .i64 f_.Run, .int .i64 f_.Near, (.slice a17 f_.Starts.length c18), (.slice a20 f_.Times.length c21), vout_852].toArray 184), (b1, .cells [(.slice a5 f_.Dome.Bolts.length c6), (.slice a8 f_.Dome.Gores.length c9), .int .i64 f_.Dome.Loss, (.slice a11 f_.Dome.Rounds.length c12), (.slice a14 f_.Dome.Widths.length c15), .int .i64 f_.Dome.Slope, .int .i64 f_.Period, .int .i64 f_.Run, .int .i64 f_.Near, (.slice a17 f_.Starts.length c18), (.slice a20 f_.Times.length c21)].toArray 28)] ∧ gs = [⟨vout_962, 3, 1, out_962.length, xsout_962⟩, ⟨vout_852, 23, 1, out_852.length, xsout_852⟩] ∧ CH H963 1 RInt xsout_962 out_962 ∧ HSub H863 H963) ⟨(.slice none 0 0), [], rfl, rfl, rfl, rfl, rfl, rfl, rfl, rfl, rfl, rfl, rfl, CH.nil, (HSub.refl _)⟩ ?_)
       rintro ⟨x_961, out_962⟩ x965 H963 f bs gs ⟨vout_962, xsout_962, hf2, hf7, hf12, hf27, hf28, hf29, hf43, hf44, hf45, rfl, rfl, hout_962, hs963⟩ hF hr964
       rw [F_seams_open_s2] at hF
       refine (JC.norm (i := 2) hf2 (JC.norm (i := 7) hf7 (JC.norm (i := 12) hf12 (JC.norm (i := 27) hf27 (JC.norm (i := 28) hf28 (JC.norm (i := 29) hf29 (JC.norm (i := 43) hf43 (JC.norm (i := 44) hf44 (JC.norm (i := 45) hf45 ?_)))))))))
       refine JC.seq (JC.region (by rfl) ?_)
       intro hQ
       refine JL.bin rfl rfl rfl .none rfl ?_
       refine JL.done hQ (JQ.go (JC.seq ?_))
       rcases ite_some hF with ⟨hc966, hF⟩ | ⟨hc966, hF⟩
       ·refine JC.cond_t (b := decide (x_961 < (y862.1.length : Int))) rfl hc966 ?_
        refine JC.skip (JQ.go (JC.seq (JC.block (JC.seq (JC.region (by rfl) ?_)))))
        intro hQ
        obtain ⟨y967, hy967, hF⟩ := bind_some hF
        refine JL.indexSL (R := RInt) sl_23 (SL.mono RInt.mono hs963 hy862a_0) rfl hy967 .none rfl ?_
        rintro b968 o969 cs970 hc971 - rfl
        refine JL.loadH 0 az_3 rfl hc971 rfl .none rfl ?_
        refine JL.assign .none rfl ?_
        refine JL.done hQ (JQ.go (JC.region (by rfl) ?_))
        intro hQ
        refine JL.move .none rfl ?_
        refine JL.fieldAddr fo_28_2 rfl .none rfl ?_
        refine JL.loadOwn 1 az_3 rfl rfl rfl .none rfl ?_
        refine JL.move .none rfl ?_
        refine JL.bin rfl rfl rfl .none rfl ?_
        refine JL.bin rfl rfl rfl .none rfl ?_
        refine JL.div rfl rfl (by decide) rfl .none rfl ?_
        refine JL.fieldAddr fo_28_1 rfl .none rfl ?_
        refine JL.loadOwn 1 az_3 rfl rfl rfl .none rfl ?_
        obtain ⟨u972, hu972, hF⟩ := bind_some hF
        refine JL.div rfl rfl (nz_some hu972) rfl .none rfl ?_
        refine JL.buildSlice (e := 3) (l := [.int .i64 ((w64 ((w64 (f_.Run * (w64 (1000 + y967)))).tdiv 1000)).tmod f_.Period)]) (by kernel_rfl) .none rfl ?_
        intro b973
        obtain ⟨l974, hl974, hF⟩ := bind_some hF
        refine JL.appO (R := RInt) 0 0 (l := out_962) (m := [((w64 ((w64 (f_.Run * (w64 (1000 + y967)))).tdiv 1000)).tmod f_.Period)]) ap_23 rfl ⟨rfl, rfl⟩ rfl hout_962 rfl rfl rfl (CH.cons (cs := [.int .i64 ((w64 ((w64 (f_.Run * (w64 (1000 + y967)))).tdiv 1000)).tmod f_.Period)]) rfl rfl CH.nil) rfl (one_cons rfl one_nil) hl974 .none rfl ?_
        intro v975 xs976 hch977
        refine JL.assign .none rfl ?_
        refine JL.done hQ (JQ.normal_block (JQ.go (JC.fresh (fun f => f 2 = .pointer (some ⟨b1, 0, none⟩) ∧ f 7 = .pointer (some ⟨b23, 0, none⟩) ∧ f 12 = v975 ∧ f 27 = (.slice a8 f_.Dome.Gores.length c9) ∧ f 28 = .int .i64 (f_.Dome.Gores.length : Int) ∧ f 29 = .int .i64 x_851 ∧ f 43 = y862a_v0 ∧ f 44 = .int .i64 (y862.1.length : Int) ∧ f 45 = .int .i64 x_961) ⟨rfl, rfl, rfl, rfl, rfl, rfl, rfl, rfl, rfl⟩ ?_)))
        rintro f ⟨hf2, hf7, hf12, hf27, hf28, hf29, hf43, hf44, hf45⟩
        refine (JC.norm (i := 2) hf2 (JC.norm (i := 7) hf7 (JC.norm (i := 12) hf12 (JC.norm (i := 27) hf27 (JC.norm (i := 28) hf28 (JC.norm (i := 29) hf29 (JC.norm (i := 43) hf43 (JC.norm (i := 44) hf44 (JC.norm (i := 45) hf45 ?_)))))))))
        refine JC.region (by rfl) ?_
        intro hQ
        refine JL.bin rfl rfl rfl .none rfl ?_
        refine JL.move .none rfl ?_
        refine JL.done hQ ?_
        obtain rfl := Option.some.inj hF
        refine JQ.mask [false, true, true] [true, true] ?_
        exact JQ.next rfl ⟨v975, xs976, rfl, rfl, rfl, rfl, rfl, rfl, rfl, rfl, rfl, rfl, rfl, hch977, hs963⟩
       ·refine JC.cond_f (b := decide (x_961 < (y862.1.length : Int))) rfl hc966 ?_
        refine JC.exit (JQ.exit_then (JQ.exit_then (JQ.exit_block ?_)))
        obtain rfl := Option.some.inj hF
        have ehr964 := hr964 _ rfl
        subst ehr964
        exact JQ.join out_962 ⟨vout_962, xsout_962, rfl, rfl, rfl, rfl, rfl, rfl, rfl, rfl, hout_962, hs963, rfl⟩
      ·rintro out_928 H929 f bs gs ⟨vout_928, xsout_928, hf2, hf7, hf12, hf27, hf28, hf29, rfl, rfl, hout_928, hs929, rfl⟩
       have hF := hKr930
       try dsimp only at hF
       refine (JQ.norm (i := 2) hf2 (JQ.norm (i := 7) hf7 (JQ.norm (i := 12) hf12 (JQ.norm (i := 27) hf27 (JQ.norm (i := 28) hf28 (JQ.norm (i := 29) hf29 ?_))))))
       refine JQ.go (JC.region (by rfl) ?_)
       intro hQ
       refine JL.move .none rfl ?_
       refine JL.move .none rfl ?_
       refine JL.nilCheck rfl .none rfl ?_
       refine JL.fieldAddr fo_184_1 rfl .none rfl ?_
       refine JL.loadOwn 0 az_115 rfl rfl rfl .none rfl ?_
       refine JL.move .none rfl ?_
       refine JL.formG 0 rfl (fun a978 n979 c980 hh981 => ?_)
       dsimp only at hh981
       subst hh981
       refine JL.buildSlice (e := 23) (l := [(.slice a978 n979 c980)]) (by kernel_rfl) .none rfl ?_
       intro b982
       obtain ⟨l983, hl983, hF⟩ := bind_some hF
       refine JL.freezeG 0 (R := RInt) rfl RInt.mono hout_928 rfl ?_
       intro H984 hs984 hg985
       refine JL.appO (R := (RSl 1 RInt)) 0 0 (l := out_852) (m := [out_928]) ap_115 rfl ⟨rfl, rfl⟩ rfl (CH.mono (RSl.mono RInt.mono) (HSub.trans hs863 (HSub.trans hs929 hs984)) hout_852) rfl rfl rfl (CH.cons (cs := [(.slice a978 n979 c980)]) rfl ⟨_, rfl, hg985⟩ CH.nil) rfl (one_cons (SL.one hg985) one_nil) hl983 .none rfl ?_
       intro v986 xs987 hch988
       refine JL.nilCheck rfl .none rfl ?_
       refine JL.fieldAddr fo_184_1 rfl .none rfl ?_
       refine JL.oneG 0 rfl (fun ho989 => ?_)
       refine JL.storeOwn 1 (cs := [v986]) az_115 rfl ho989.2 rfl (one_cons ho989.1 one_nil) rfl rfl .none ?_
       refine JL.done hQ (JQ.normal_block (JQ.go (JC.fresh (fun f => f 2 = .pointer (some ⟨b1, 0, none⟩) ∧ f 7 = .pointer (some ⟨b23, 0, none⟩) ∧ f 27 = (.slice a8 f_.Dome.Gores.length c9) ∧ f 28 = .int .i64 (f_.Dome.Gores.length : Int) ∧ f 29 = .int .i64 x_851) ⟨rfl, rfl, rfl, rfl, rfl⟩ ?_)))
       rintro f ⟨hf2, hf7, hf27, hf28, hf29⟩
       refine (JC.norm (i := 2) hf2 (JC.norm (i := 7) hf7 (JC.norm (i := 27) hf27 (JC.norm (i := 28) hf28 (JC.norm (i := 29) hf29 ?_)))))
       refine JC.region (by rfl) ?_
       intro hQ
       refine JL.bin rfl rfl rfl .none rfl ?_
       refine JL.move .none rfl ?_
       refine JL.done hQ ?_
       obtain rfl := Option.some.inj hF
       refine JQ.mask [false, true, true] [true] ?_
       exact JQ.next rfl ⟨v986, xs987, rfl, rfl, rfl, rfl, rfl, rfl, rfl, hch988, (HSub.trans hs853 (HSub.trans hs863 (HSub.trans hs929 hs984)))⟩
    ·refine JC.cond_f (b := decide (x_851 < (f_.Dome.Gores.length : Int))) rfl hc856 ?_
     refine JC.exit (JQ.exit_then (JQ.exit_then (JQ.exit_block ?_)))
     obtain rfl := Option.some.inj hF
     have ehr854 := hr854 _ rfl
     subst ehr854
     refine JQ.mask [true, false] [true] ?_
     exact JQ.join out_852 ⟨vout_852, xsout_852, rfl, rfl, rfl, hout_852, hs853, rfl⟩
   ·rintro out_574 H575 f bs gs ⟨vout_574, xsout_574, hf7, rfl, rfl, hout_574, hs575, rfl⟩
    have hF := hKr576
    try dsimp only at hF
    refine (JQ.norm (i := 7) hf7 ?_)
    refine JQ.go (JC.seq (JC.region (by rfl) ?_))
    intro hQ
    refine JL.move .none rfl ?_
    refine JL.assign .none rfl ?_
    refine JL.assign .none rfl ?_
    refine JL.done hQ (JQ.go (JC.ret (JQ.freezeG 0 (R := (RSl 1 RInt)) rfl (RSl.mono RInt.mono) hout_574 rfl ?_)))
    intro H990 hs990 hg991
    refine JQ.freezeC 0 (l := [(.slice a5 f_.Dome.Bolts.length c6), (.slice a8 f_.Dome.Gores.length c9), .int .i64 f_.Dome.Loss, (.slice a11 f_.Dome.Rounds.length c12), (.slice a14 f_.Dome.Widths.length c15), .int .i64 f_.Dome.Slope, .int .i64 f_.Period, .int .i64 f_.Run, .int .i64 f_.Near, (.slice a17 f_.Starts.length c18), (.slice a20 f_.Times.length c21), vout_574]) rfl ?_
    intro H992 hs992 hc993
    obtain rfl := Option.some.inj hF
    exact JQ.outH rfl (.tmp (.tmp .nil)) ⟨(.pointer (some ⟨b23, 0, none⟩)), rfl, ⟨_, _, _, rfl, hc993, ⟨(.slice a5 f_.Dome.Bolts.length c6), (.slice a8 f_.Dome.Gores.length c9), (.slice a11 f_.Dome.Rounds.length c12), (.slice a14 f_.Dome.Widths.length c15), (.slice a17 f_.Starts.length c18), (.slice a20 f_.Times.length c21), vout_574, rfl, (SL.mono R_Bolt_mono (HSub.trans hs575 (HSub.trans hs990 hs992)) hf__0), (SL.mono RInt.mono (HSub.trans hs575 (HSub.trans hs990 hs992)) hf__1), (SL.mono R_Span_mono (HSub.trans hs575 (HSub.trans hs990 hs992)) hf__3), (SL.mono RInt.mono (HSub.trans hs575 (HSub.trans hs990 hs992)) hf__4), (SL.mono RInt.mono (HSub.trans hs575 (HSub.trans hs990 hs992)) hf__9), (SL.mono RInt.mono (HSub.trans hs575 (HSub.trans hs990 hs992)) hf__10), (SL.mono (RSl.mono RInt.mono) hs992 hg991)⟩⟩⟩
-- 112 (*ferrule/seams.ring).modulo
def F_seams_ring_modulo (n : Nat) (r : seams_ring) (n_ : Int) : Option Int :=
 (nz r.Figure.Period).bind fun _ => (nz r.Figure.Period).bind fun _ => some ((w64 ((n_.tmod r.Figure.Period) + r.Figure.Period)).tmod r.Figure.Period)
theorem c_seams_ring_modulo (n : Nat) (H : Hp) (r : seams_ring) (r_v0 : Value) (hr_0 : SL H 4 R_Bolt r_v0 r.Figure.Dome.Bolts) (r_v1 : Value) (hr_1 : SL H 1 RInt r_v1 r.Figure.Dome.Gores) (r_v3 : Value) (hr_3 : SL H 2 R_Span r_v3 r.Figure.Dome.Rounds) (r_v4 : Value) (hr_4 : SL H 1 RInt r_v4 r.Figure.Dome.Widths) (r_v9 : Value) (hr_9 : SL H 1 RInt r_v9 r.Figure.Starts) (r_v10 : Value) (hr_10 : SL H 1 RInt r_v10 r.Figure.Times) (r_v11 : Value) (hr_11 : SL H 1 (RSl 1 RInt) r_v11 r.moves) (r_b r_o : Nat) (r_c : Cells H r_b r_o [r_v0, r_v1, .int .i64 r.Figure.Dome.Loss, r_v3, r_v4, .int .i64 r.Figure.Dome.Slope, .int .i64 r.Figure.Period, .int .i64 r.Figure.Run, .int .i64 r.Figure.Near, r_v9, r_v10, r_v11]) (n_ : Int) (y : Int) (hF : F_seams_ring_modulo n r n_ = some y) : SC Try.prog 112 [.pointer (some ⟨r_b, r_o, none⟩), .int .i64 n_] (.int .i64 y) H := by
 rw [F_seams_ring_modulo] at hF
 refine SC.of (N := 24) Try.func112 rfl rfl rfl fun w => ?_
 refine JC.seq (JC.region (by rfl) ?_)
 intro hQ
 refine JL.assign .none rfl ?_
 refine JL.done hQ (JQ.go (JC.seq (JC.draw (by rfl) mo_ (by kernel_rfl) ?_)))
 intro hQ
 refine JL.move .none rfl ?_
 refine JL.move .none rfl ?_
 refine JL.nilCheck rfl .none rfl ?_
 refine JL.fieldAddr fo_184_0 rfl .none rfl ?_
 refine JL.fieldAddr fo_28_1 rfl .none rfl ?_
 refine JL.loadH 6 az_3 rfl r_c rfl .none rfl ?_
 obtain ⟨u3, hu3, hF⟩ := bind_some hF
 refine JL.div rfl rfl (nz_some hu3) rfl .none rfl ?_
 refine JL.move .none rfl ?_
 refine JL.nilCheck rfl .none rfl ?_
 refine JL.fieldAddr fo_184_0 rfl .none rfl ?_
 refine JL.fieldAddr fo_28_1 rfl .none rfl ?_
 refine JL.loadH 6 az_3 rfl r_c rfl .none rfl ?_
 refine JL.bin rfl rfl rfl .none rfl ?_
 refine JL.move .none rfl ?_
 refine JL.nilCheck rfl .none rfl ?_
 refine JL.fieldAddr fo_184_0 rfl .none rfl ?_
 refine JL.fieldAddr fo_28_1 rfl .none rfl ?_
 refine JL.loadH 6 az_3 rfl r_c rfl .none rfl ?_
 obtain ⟨u4, hu4, hF⟩ := bind_some hF
 refine JL.div rfl rfl (nz_some hu4) rfl .none rfl ?_
 refine JL.assign .none rfl ?_
 refine JL.doneQ hQ ?_
 refine JQ.go (JC.fresh (fun f => f 4 = .int .i64 ((w64 ((n_.tmod r.Figure.Period) + r.Figure.Period)).tmod r.Figure.Period)) rfl ?_)
 rintro f hf4
 refine (JC.norm (i := 4) hf4 ?_)
 refine JC.ret ?_
 obtain rfl := Option.some.inj hF
 exact JQ.outS rfl (.tmp .nil) rfl
-- 165 (*ferrule/seams.ring).far
def F_seams_ring_far (n : Nat) (r : seams_ring) (a : Int) (b : Int) : Option Int :=
 (F_seams_ring_modulo n r (w64 (a - b))).bind fun y1 => (F_seams_ring_modulo n r (w64 (b - a))).bind fun y2 => some (min y1 y2)
theorem c_seams_ring_far (n : Nat) (H : Hp) (r : seams_ring) (r_v0 : Value) (hr_0 : SL H 4 R_Bolt r_v0 r.Figure.Dome.Bolts) (r_v1 : Value) (hr_1 : SL H 1 RInt r_v1 r.Figure.Dome.Gores) (r_v3 : Value) (hr_3 : SL H 2 R_Span r_v3 r.Figure.Dome.Rounds) (r_v4 : Value) (hr_4 : SL H 1 RInt r_v4 r.Figure.Dome.Widths) (r_v9 : Value) (hr_9 : SL H 1 RInt r_v9 r.Figure.Starts) (r_v10 : Value) (hr_10 : SL H 1 RInt r_v10 r.Figure.Times) (r_v11 : Value) (hr_11 : SL H 1 (RSl 1 RInt) r_v11 r.moves) (r_b r_o : Nat) (r_c : Cells H r_b r_o [r_v0, r_v1, .int .i64 r.Figure.Dome.Loss, r_v3, r_v4, .int .i64 r.Figure.Dome.Slope, .int .i64 r.Figure.Period, .int .i64 r.Figure.Run, .int .i64 r.Figure.Near, r_v9, r_v10, r_v11]) (a : Int) (b : Int) (y : Int) (hF : F_seams_ring_far n r a b = some y) : SC Try.prog 165 [.pointer (some ⟨r_b, r_o, none⟩), .int .i64 a, .int .i64 b] (.int .i64 y) H := by
 rw [F_seams_ring_far] at hF
 refine SC.of (N := 18) Try.func165 rfl rfl rfl fun w => ?_
 refine JC.seq (JC.region (by rfl) ?_)
 intro hQ
 refine JL.assign .none rfl ?_
 refine JL.done hQ (JQ.go (JC.seq (JC.region (by rfl) ?_)))
 intro hQ
 refine JL.move .none rfl ?_
 refine JL.move .none rfl ?_
 refine JL.move .none rfl ?_
 refine JL.bin rfl rfl rfl .none rfl ?_
 obtain ⟨y1, hy1, hF⟩ := bind_some hF
 refine JL.callS (c_seams_ring_modulo n H r r_v0 hr_0 r_v1 hr_1 r_v3 hr_3 r_v4 hr_4 r_v9 hr_9 r_v10 hr_10 r_v11 hr_11 r_b r_o r_c (w64 (a - b)) y1 hy1) rfl en_112 .none rfl ?_
 refine JL.move .none rfl ?_
 refine JL.move .none rfl ?_
 refine JL.move .none rfl ?_
 refine JL.bin rfl rfl rfl .none rfl ?_
 obtain ⟨y2, hy2, hF⟩ := bind_some hF
 refine JL.callS (c_seams_ring_modulo n H r r_v0 hr_0 r_v1 hr_1 r_v3 hr_3 r_v4 hr_4 r_v9 hr_9 r_v10 hr_10 r_v11 hr_11 r_b r_o r_c (w64 (b - a)) y2 hy2) rfl en_112 .none rfl ?_
 refine JL.min rfl rfl .none rfl ?_
 refine JL.assign .none rfl ?_
 refine JL.done hQ (JQ.go (JC.fresh (fun f => f 6 = .int .i64 (min y1 y2)) rfl ?_))
 rintro f hf6
 refine (JC.norm (i := 6) hf6 ?_)
 refine JC.ret ?_
 obtain rfl := Option.some.inj hF
 exact JQ.outS rfl (.tmp .nil) rfl
-- 111 (*ferrule/seams.ring).meets
def F_seams_ring_meets_s1 (n : Nat) (r : seams_ring) (later : Int) (near : Int) (y1 : List Int) : Int × Int → Option ((Int × Int) ⊕ Int)
 | (good_86, x_87) => if decide (x_87 < (y1.length : Int)) = true then ((geti y1 x_87).bind fun y92 => (F_seams_ring_far n r y92 later).bind fun y97 => (if decide (y97 ≤ near) = true then (some (w64 (good_86 + 1))) else (some good_86)).bind fun good_99 => some (Sum.inl (good_99, (w64 (x_87 + 1))))) else (some (Sum.inr good_86))
def F_seams_ring_meets (n : Nat) (r : seams_ring) (seam : Int) (later : Int) (near : Int) : Option Int :=
 (geti r.moves seam).bind fun y1 => (loopO n (F_seams_ring_meets_s1 n r later near y1) (0, 0)).bind fun good_53 => (geti r.moves seam).bind fun y103 => if (good_53 == (y103.length : Int)) = true then (some 1) else (if (good_53 == 0) = true then (some 2) else (some 3))
theorem c_seams_ring_meets (n : Nat) (H : Hp) (r : seams_ring) (r_v0 : Value) (hr_0 : SL H 4 R_Bolt r_v0 r.Figure.Dome.Bolts) (r_v1 : Value) (hr_1 : SL H 1 RInt r_v1 r.Figure.Dome.Gores) (r_v3 : Value) (hr_3 : SL H 2 R_Span r_v3 r.Figure.Dome.Rounds) (r_v4 : Value) (hr_4 : SL H 1 RInt r_v4 r.Figure.Dome.Widths) (r_v9 : Value) (hr_9 : SL H 1 RInt r_v9 r.Figure.Starts) (r_v10 : Value) (hr_10 : SL H 1 RInt r_v10 r.Figure.Times) (r_v11 : Value) (hr_11 : SL H 1 (RSl 1 RInt) r_v11 r.moves) (r_b r_o : Nat) (r_c : Cells H r_b r_o [r_v0, r_v1, .int .i64 r.Figure.Dome.Loss, r_v3, r_v4, .int .i64 r.Figure.Dome.Slope, .int .i64 r.Figure.Period, .int .i64 r.Figure.Run, .int .i64 r.Figure.Near, r_v9, r_v10, r_v11]) (seam : Int) (later : Int) (near : Int) (y : Int) (hF : F_seams_ring_meets n r seam later near = some y) : SC Try.prog 111 [.pointer (some ⟨r_b, r_o, none⟩), .int .i64 seam, .int .i64 later, .int .i64 near] (.int .i64 y) H := by
 rw [F_seams_ring_meets] at hF
 refine SC.of (N := 46) Try.func111 rfl rfl rfl fun w => ?_
 refine JC.seq (JC.region (by rfl) ?_)
 intro hQ
 refine JL.assign .none rfl ?_
 refine JL.done hQ (JQ.go (JC.seq (JC.region (by rfl) ?_)))
 intro hQ
 refine JL.assign .none rfl ?_
 refine JL.done hQ (JQ.go (JC.seq (JC.seq (JC.region (by rfl) ?_))))
 intro hQ
 refine JL.move .none rfl ?_
 refine JL.nilCheck rfl .none rfl ?_
 refine JL.fieldAddr fo_184_1 rfl .none rfl ?_
 refine JL.loadH 11 az_115 rfl r_c rfl .none rfl ?_
 refine JL.move .none rfl ?_
 obtain ⟨y1, hy1, hF⟩ := bind_some hF
 refine JL.indexSL (R := (RSl 1 RInt)) sl_115 hr_11 rfl hy1 .none rfl ?_
 rintro b2 o3 cs4 hc5 - ⟨y1_v0, rfl, hy1_0⟩
 refine JL.loadH 0 az_23 rfl hc5 rfl .none rfl ?_
 refine JL.lenSL (R := RInt) ul_23 hy1_0 .none rfl ?_
 refine JL.move .none rfl ?_
 refine JL.done hQ (JQ.go ?_)
 obtain ⟨r55, hlr55, hKr55⟩ := bind_some hF
 refine JC.join (fun (good_53 : Int) H54 f bs gs => f 0 = .pointer (some ⟨r_b, r_o, none⟩) ∧ f 1 = .int .i64 seam ∧ f 9 = .int .i64 good_53 ∧ bs = [] ∧ gs = [] ∧ HSub H H54 ∧ good_53 = r55) ?_ ?_
 ·skip
  refine JC.block (JC.loop hlr55 (fun (x : Int × Int) H88 f bs gs => match x with | (good_86, x_87) => f 0 = .pointer (some ⟨r_b, r_o, none⟩) ∧ f 1 = .int .i64 seam ∧ f 2 = .int .i64 later ∧ f 3 = .int .i64 near ∧ f 9 = .int .i64 good_86 ∧ f 18 = y1_v0 ∧ f 19 = .int .i64 (y1.length : Int) ∧ f 20 = .int .i64 x_87 ∧ bs = [] ∧ gs = [] ∧ HSub H H88) ⟨rfl, rfl, rfl, rfl, rfl, rfl, rfl, rfl, rfl, rfl, (HSub.refl _)⟩ ?_)
  rintro ⟨good_86, x_87⟩ x90 H88 f bs gs ⟨hf0, hf1, hf2, hf3, hf9, hf18, hf19, hf20, rfl, rfl, hs88⟩ hF hr89
  rw [F_seams_ring_meets_s1] at hF
  refine (JC.norm (i := 0) hf0 (JC.norm (i := 1) hf1 (JC.norm (i := 2) hf2 (JC.norm (i := 3) hf3 (JC.norm (i := 9) hf9 (JC.norm (i := 18) hf18 (JC.norm (i := 19) hf19 (JC.norm (i := 20) hf20 ?_))))))))
  refine JC.seq (JC.region (by rfl) ?_)
  intro hQ
  refine JL.bin rfl rfl rfl .none rfl ?_
  refine JL.done hQ (JQ.go (JC.seq ?_))
  rcases ite_some hF with ⟨hc91, hF⟩ | ⟨hc91, hF⟩
  ·refine JC.cond_t (b := decide (x_87 < (y1.length : Int))) rfl hc91 ?_
   refine JC.skip (JQ.go (JC.seq (JC.block (JC.seq (JC.region (by rfl) ?_)))))
   intro hQ
   obtain ⟨y92, hy92, hF⟩ := bind_some hF
   refine JL.indexSL (R := RInt) sl_23 (SL.mono RInt.mono hs88 hy1_0) rfl hy92 .none rfl ?_
   rintro b93 o94 cs95 hc96 - rfl
   refine JL.loadH 0 az_3 rfl hc96 rfl .none rfl ?_
   refine JL.assign .none rfl ?_
   refine JL.done hQ (JQ.go (JC.seq (JC.region (by rfl) ?_)))
   intro hQ
   refine JL.move .none rfl ?_
   refine JL.move .none rfl ?_
   refine JL.move .none rfl ?_
   obtain ⟨y97, hy97, hF⟩ := bind_some hF
   refine JL.callS (c_seams_ring_far n H88 r r_v0 (SL.mono R_Bolt_mono hs88 hr_0) r_v1 (SL.mono RInt.mono hs88 hr_1) r_v3 (SL.mono R_Span_mono hs88 hr_3) r_v4 (SL.mono RInt.mono hs88 hr_4) r_v9 (SL.mono RInt.mono hs88 hr_9) r_v10 (SL.mono RInt.mono hs88 hr_10) r_v11 (SL.mono (RSl.mono RInt.mono) hs88 hr_11) r_b r_o (Cells.mono hs88 r_c) y92 later y97 hy97) rfl en_165 .none rfl ?_
   refine JL.move .none rfl ?_
   refine JL.bin rfl rfl rfl .none rfl ?_
   refine JL.done hQ (JQ.go (JC.fresh (fun f => f 0 = .pointer (some ⟨r_b, r_o, none⟩) ∧ f 1 = .int .i64 seam ∧ f 2 = .int .i64 later ∧ f 3 = .int .i64 near ∧ f 9 = .int .i64 good_86 ∧ f 18 = y1_v0 ∧ f 19 = .int .i64 (y1.length : Int) ∧ f 20 = .int .i64 x_87 ∧ f 29 = .bool (decide (y97 ≤ near))) ⟨rfl, rfl, rfl, rfl, rfl, rfl, rfl, rfl, rfl⟩ ?_))
   rintro f ⟨hf0, hf1, hf2, hf3, hf9, hf18, hf19, hf20, hf29⟩
   refine (JC.norm (i := 0) hf0 (JC.norm (i := 1) hf1 (JC.norm (i := 2) hf2 (JC.norm (i := 3) hf3 (JC.norm (i := 9) hf9 (JC.norm (i := 18) hf18 (JC.norm (i := 19) hf19 (JC.norm (i := 20) hf20 (JC.norm (i := 29) hf29 ?_)))))))))
   obtain ⟨r101, hlr101, hKr101⟩ := bind_some hF
   refine JC.join (fun (good_99 : Int) H100 f bs gs => f 0 = .pointer (some ⟨r_b, r_o, none⟩) ∧ f 1 = .int .i64 seam ∧ f 2 = .int .i64 later ∧ f 3 = .int .i64 near ∧ f 9 = .int .i64 good_99 ∧ f 18 = y1_v0 ∧ f 19 = .int .i64 (y1.length : Int) ∧ f 20 = .int .i64 x_87 ∧ bs = [] ∧ gs = [] ∧ HSub H88 H100 ∧ good_99 = r101) ?_ ?_
   ·have hF := hlr101
    rcases ite_some hF with ⟨hc102, hF⟩ | ⟨hc102, hF⟩
    ·refine JC.cond_t (b := decide (y97 ≤ near)) rfl hc102 ?_
     refine JC.region (by rfl) ?_
     intro hQ
     refine JL.move .none rfl ?_
     refine JL.bin rfl rfl rfl .none rfl ?_
     refine JL.assign .none rfl ?_
     refine JL.done hQ ?_
     obtain rfl := Option.some.inj hF
     exact JQ.join (w64 (good_86 + 1)) ⟨rfl, rfl, rfl, rfl, rfl, rfl, rfl, rfl, rfl, rfl, (HSub.refl _), rfl⟩
    ·refine JC.cond_f (b := decide (y97 ≤ near)) rfl hc102 ?_
     refine JC.skip ?_
     obtain rfl := Option.some.inj hF
     exact JQ.join good_86 ⟨rfl, rfl, rfl, rfl, rfl, rfl, rfl, rfl, rfl, rfl, (HSub.refl _), rfl⟩
   ·rintro good_99 H100 f bs gs ⟨hf0, hf1, hf2, hf3, hf9, hf18, hf19, hf20, rfl, rfl, hs100, rfl⟩
    have hF := hKr101
    try dsimp only at hF
    refine (JQ.norm (i := 0) hf0 (JQ.norm (i := 1) hf1 (JQ.norm (i := 2) hf2 (JQ.norm (i := 3) hf3 (JQ.norm (i := 9) hf9 (JQ.norm (i := 18) hf18 (JQ.norm (i := 19) hf19 (JQ.norm (i := 20) hf20 ?_))))))))
    refine JQ.normal_block (JQ.go (JC.region (by rfl) ?_))
    intro hQ
    refine JL.bin rfl rfl rfl .none rfl ?_
    refine JL.move .none rfl ?_
    refine JL.done hQ ?_
    obtain rfl := Option.some.inj hF
    exact JQ.next rfl ⟨rfl, rfl, rfl, rfl, rfl, rfl, rfl, rfl, rfl, rfl, (HSub.trans hs88 hs100)⟩
  ·refine JC.cond_f (b := decide (x_87 < (y1.length : Int))) rfl hc91 ?_
   refine JC.exit (JQ.exit_then (JQ.exit_then (JQ.exit_block ?_)))
   obtain rfl := Option.some.inj hF
   have ehr89 := hr89 _ rfl
   subst ehr89
   exact JQ.join good_86 ⟨rfl, rfl, rfl, rfl, rfl, hs88, rfl⟩
 ·rintro good_53 H54 f bs gs ⟨hf0, hf1, hf9, rfl, rfl, hs54, rfl⟩
  have hF := hKr55
  try dsimp only at hF
  refine (JQ.norm (i := 0) hf0 (JQ.norm (i := 1) hf1 (JQ.norm (i := 9) hf9 ?_)))
  refine JQ.go (JC.seq (JC.seq (JC.region (by rfl) ?_)))
  intro hQ
  refine JL.move .none rfl ?_
  refine JL.done hQ (JQ.go (JC.block (JC.seq (JC.region (by rfl) ?_))))
  intro hQ
  refine JL.move .none rfl ?_
  refine JL.nilCheck rfl .none rfl ?_
  refine JL.fieldAddr fo_184_1 rfl .none rfl ?_
  refine JL.loadH 11 az_115 rfl (Cells.mono hs54 r_c) rfl .none rfl ?_
  refine JL.move .none rfl ?_
  obtain ⟨y103, hy103, hF⟩ := bind_some hF
  refine JL.indexSL (R := (RSl 1 RInt)) sl_115 (SL.mono (RSl.mono RInt.mono) hs54 hr_11) rfl hy103 .none rfl ?_
  rintro b104 o105 cs106 hc107 - ⟨y103_v0, rfl, hy103_0⟩
  refine JL.loadH 0 az_23 rfl hc107 rfl .none rfl ?_
  refine JL.lenSL (R := RInt) ul_23 hy103_0 .none rfl ?_
  refine JL.bin rfl rfl rfl .none rfl ?_
  refine JL.assign .none rfl ?_
  refine JL.done hQ (JQ.go (JC.fresh (fun f => f 33 = .int .i64 good_53 ∧ f 34 = .bool (good_53 == (y103.length : Int))) ⟨rfl, rfl⟩ ?_))
  rintro f ⟨hf33, hf34⟩
  refine (JC.norm (i := 33) hf33 (JC.norm (i := 34) hf34 ?_))
  rcases ite_some hF with ⟨hc108, hF⟩ | ⟨hc108, hF⟩
  ·refine JC.cond_t (b := (good_53 == (y103.length : Int))) rfl hc108 ?_
   refine JC.seq (JC.region (by rfl) ?_)
   intro hQ
   refine JL.assign .none rfl ?_
   refine JL.done hQ (JQ.go (JC.ret (JQ.ret_block (JQ.ret_then ?_))))
   obtain rfl := Option.some.inj hF
   exact JQ.outS rfl (.tmp .nil) rfl
  ·refine JC.cond_f (b := (good_53 == (y103.length : Int))) rfl hc108 ?_
   refine JC.seq (JC.region (by rfl) ?_)
   intro hQ
   refine JL.bin rfl rfl rfl .none rfl ?_
   refine JL.assign .none rfl ?_
   refine JL.done hQ (JQ.go ?_)
   rcases ite_some hF with ⟨hc109, hF⟩ | ⟨hc109, hF⟩
   ·refine JC.cond_t (b := (good_53 == 0)) rfl hc109 ?_
    refine JC.seq (JC.region (by rfl) ?_)
    intro hQ
    refine JL.assign .none rfl ?_
    refine JL.done hQ (JQ.go (JC.ret (JQ.ret_block (JQ.ret_then ?_))))
    obtain rfl := Option.some.inj hF
    exact JQ.outS rfl (.tmp .nil) rfl
   ·refine JC.cond_f (b := (good_53 == 0)) rfl hc109 ?_
    refine JC.skip (JQ.normal_block (JQ.go (JC.seq (JC.region (by rfl) ?_))))
    intro hQ
    refine JL.assign .none rfl ?_
    refine JL.done hQ (JQ.go (JC.ret ?_))
    obtain rfl := Option.some.inj hF
    exact JQ.outS rfl (.tmp .nil) rfl
-- 116 (*ferrule/seams.ring).steps
theorem steps_nils {H : Hp} (k : Nat) : CH H 1 (RSl 1 RInt) (List.replicate k (.slice none 0 0)) (List.replicate k ([] : List Int)) :=
 ⟨by simp, fun i x hi => by
  rw [List.getElem?_replicate] at hi
  split at hi
  ·rename_i hlt
   obtain rfl : [] = x := by simpa using hi
   exact ⟨[.slice none 0 0], rfl, ⟨_, rfl, SL.nil⟩, fun j u hu => by
    cases j with
    | zero => simp at hu; subst hu; simp [hlt]
    | succ j => simp at hu⟩
  ·cases hi⟩
theorem steps_nil (k : Nat) : ∀ j : Nat, (0 : Int) ≤ (j : Int) → j < (List.replicate k (Value.slice none 0 0)).length → (List.replicate k (Value.slice none 0 0))[j]? = some (.slice none 0 0) := fun j _ hj => by
 rw [List.length_replicate] at hj; rw [List.getElem?_replicate, if_pos hj]
def F_seams_ring_steps_s2 (n : Nat) (r : seams_ring) (near : Int) (seam : Int) : Int × List Int → Option ((Int × List Int) ⊕ List Int)
 | (x, l) => if decide (x < r.Figure.Period) = true then ((F_seams_ring_meets n r seam x near).bind fun y => (if (y == 1) = true then ((lim (l ++ [x])).bind fun l2 => some l2) else some l).bind fun l2 => some (Sum.inl (w64 (x + 1), l2))) else (some (Sum.inr l))
def F_seams_ring_steps_s1 (n : Nat) (r : seams_ring) (near : Int) : Int × List (List Int) → Option ((Int × List (List Int)) ⊕ List (List Int))
 | (x, out) => if decide (x < (r.moves.length : Int)) = true then ((geti out x).bind fun _ => (loopO n (F_seams_ring_steps_s2 n r near x) (0, [])).bind fun l => some (Sum.inl (w64 (x + 1), setx out x l))) else (some (Sum.inr out))
def F_seams_ring_steps (n : Nat) (r : seams_ring) (near : Int) : Option (List (List Int)) :=
 (mkn (r.moves.length : Int)).bind fun _ => (loopO n (F_seams_ring_steps_s1 n r near) (0, List.replicate r.moves.length [])).bind fun l => some l
theorem c_seams_ring_steps (n : Nat) (H : Hp) (r : seams_ring) (r_v0 : Value) (hr_0 : SL H 4 R_Bolt r_v0 r.Figure.Dome.Bolts) (r_v1 : Value) (hr_1 : SL H 1 RInt r_v1 r.Figure.Dome.Gores) (r_v3 : Value) (hr_3 : SL H 2 R_Span r_v3 r.Figure.Dome.Rounds) (r_v4 : Value) (hr_4 : SL H 1 RInt r_v4 r.Figure.Dome.Widths) (r_v9 : Value) (hr_9 : SL H 1 RInt r_v9 r.Figure.Starts) (r_v10 : Value) (hr_10 : SL H 1 RInt r_v10 r.Figure.Times) (r_v11 : Value) (hr_11 : SL H 1 (RSl 1 RInt) r_v11 r.moves) (r_b r_o : Nat) (r_c : Cells H r_b r_o [r_v0, r_v1, .int .i64 r.Figure.Dome.Loss, r_v3, r_v4, .int .i64 r.Figure.Dome.Slope, .int .i64 r.Figure.Period, .int .i64 r.Figure.Run, .int .i64 r.Figure.Near, r_v9, r_v10, r_v11]) (near : Int) (y : List (List Int)) (hF : F_seams_ring_steps n r near = some y) : HC Try.prog 116 [.pointer (some ⟨r_b, r_o, none⟩), .int .i64 near] H (fun H' ra_v0 => SL H' 1 (RSl 1 RInt) ra_v0 y) := by
 rw [F_seams_ring_steps] at hF
 refine HC.of (N := 49) Try.func116 rfl rfl rfl fun w => ?_
 refine JC.seq (JC.region (by rfl) ?_)
 intro hQ
 refine JL.assign .none rfl ?_
 refine JL.done hQ (JQ.go (JC.seq (JC.region (by rfl) ?_)))
 intro hQ
 refine JL.move .none rfl ?_
 refine JL.nilCheck rfl .none rfl ?_
 refine JL.fieldAddr fo_184_1 rfl .none rfl ?_
 refine JL.loadH 11 az_115 rfl r_c rfl .none rfl ?_
 refine JL.lenSL (R := RSl 1 RInt) ul_115 hr_11 .none rfl ?_
 obtain ⟨u1, hu1, hF⟩ := bind_some hF
 refine JL.makeG2 (R := RRaw) (z0 := .slice none 0 0) ap_115 ze_23 rfl (fun _ => rfl) rfl rfl hu1 .none rfl ?_
 intro v xs hch
 refine JL.assign .none rfl ?_
 refine JL.done hQ (JQ.go (JC.seq (JC.seq (JC.region (by rfl) ?_))))
 intro hQ
 refine JL.move .none rfl ?_
 refine JL.nilCheck rfl .none rfl ?_
 refine JL.fieldAddr fo_184_1 rfl .none rfl ?_
 refine JL.loadH 11 az_115 rfl r_c rfl .none rfl ?_
 refine JL.lenSL (R := RSl 1 RInt) ul_115 hr_11 .none rfl ?_
 refine JL.move .none rfl ?_
 refine JL.done hQ (JQ.go ?_)
 obtain rfl := hch.raw_eq
 obtain ⟨r1, hl1, hK1⟩ := bind_some hF
 refine JC.join (fun (out : List (List Int)) H1 f bs gs => ∃ (xs : List Value), f 5 = v ∧ bs = [] ∧ gs = [⟨v, 23, 1, out.length, xs⟩] ∧ CH H1 1 (RSl 1 RInt) xs out ∧ HSub H H1 ∧ out = r1) ?_ ?_
 ·skip
  refine JC.block (JC.loop hl1 (fun (z : Int × List (List Int)) H1 f bs gs => match z with | (x, out) => ∃ (xs : List Value), f 0 = .pointer (some ⟨r_b, r_o, none⟩) ∧ f 1 = .int .i64 near ∧ f 5 = v ∧ f 18 = .int .i64 (r.moves.length : Int) ∧ f 19 = .int .i64 x ∧ bs = [] ∧ gs = [⟨v, 23, 1, out.length, xs⟩] ∧ CH H1 1 (RSl 1 RInt) xs out ∧ (0 ≤ x ∧ x ≤ 2000000) ∧ (∀ j : Nat, x ≤ (j : Int) → j < xs.length → xs[j]? = some (.slice none 0 0)) ∧ HSub H H1) ⟨List.replicate r.moves.length (.slice none 0 0), rfl, rfl, rfl, rfl, rfl, rfl, by simp, steps_nils _, ⟨by omega, by omega⟩, steps_nil _, HSub.refl _⟩ ?_)
  rintro ⟨x, out⟩ x2 H1 f bs gs ⟨xs, hf0, hf1, hf5, hf18, hf19, rfl, rfl, hch, hx0, hnil, hs1⟩ hF hr
  rw [F_seams_ring_steps_s1] at hF
  refine (JC.norm (i := 0) hf0 (JC.norm (i := 1) hf1 (JC.norm (i := 5) hf5 (JC.norm (i := 18) hf18 (JC.norm (i := 19) hf19 ?_)))))
  refine JC.seq (JC.region (by rfl) ?_)
  intro hQ
  refine JL.bin rfl rfl rfl .none rfl ?_
  refine JL.done hQ (JQ.go (JC.seq ?_))
  rcases ite_some hF with ⟨hc, hF⟩ | ⟨hc, hF⟩
  ·refine JC.cond_t (b := decide (x < (r.moves.length : Int))) rfl hc ?_
   refine JC.skip (JQ.go (JC.seq (JC.block (JC.seq (JC.region (by rfl) ?_)))))
   intro hQ
   refine JL.move .none rfl ?_
   refine JL.assign .none rfl ?_
   refine JL.done hQ (JQ.go (JC.seq (JC.region (by rfl) ?_)))
   intro hQ
   refine JL.move .none rfl ?_
   refine JL.nilCheck rfl .none rfl ?_
   refine JL.fieldAddr fo_184_0 rfl .none rfl ?_
   refine JL.fieldAddr fo_28_1 rfl .none rfl ?_
   refine JL.loadH 6 az_3 rfl (Cells.mono hs1 r_c) rfl .none rfl ?_
   refine JL.move .none rfl ?_
   refine JL.done hQ (JQ.go ?_)
   obtain ⟨y0, hy0, hF⟩ := bind_some hF
   obtain ⟨l0, hl0, hF⟩ := bind_some hF
   have hxl : x.toNat < out.length := by
    unfold geti at hy0
    split at hy0
    ·exact (List.getElem?_eq_some_iff.1 hy0).1
    ·cases hy0
   have hxx : xs.length = out.length := by have := hch.1; omega
   have hx2 : xs[x.toNat]? = some (.slice none 0 0) := hnil x.toNat (by omega) (by omega)
   have hxs : xs = xs.set x.toNat (.slice none 0 0) := by
    apply List.ext_getElem?
    intro i
    rw [List.getElem?_set]
    by_cases hi : x.toNat = i
    ·rw [if_pos hi, if_pos (by omega), ← hi]; exact hx2
    ·rw [if_neg hi]
   have hnx : (setx out x []).length = out.length := setx_len _ _ _
   refine JC.newNil (e := 3) (sz := 1) ?_
   refine JC.join (fun (l : List Int) H2 f bs gs => ∃ (v2 : Value) (xs2 : List Value), f 0 = .pointer (some ⟨r_b, r_o, none⟩) ∧ f 1 = .int .i64 near ∧ f 5 = v ∧ f 18 = .int .i64 (r.moves.length : Int) ∧ f 19 = .int .i64 x ∧ bs = [] ∧ gs = [⟨v2, 3, 1, l.length, xs2⟩, ⟨v, 23, 1, out.length, xs.set x.toNat v2⟩] ∧ CH H2 1 RInt xs2 l ∧ HSub H1 H2 ∧ l = l0) ?_ ?_
   ·skip
    refine JC.block (JC.loop hl0 (fun (z : Int × List Int) H2 f bs gs => match z with | (x2, l) => ∃ (v2 : Value) (xs2 : List Value), f 0 = .pointer (some ⟨r_b, r_o, none⟩) ∧ f 1 = .int .i64 near ∧ f 5 = v ∧ f 6 = .int .i64 x ∧ f 18 = .int .i64 (r.moves.length : Int) ∧ f 19 = .int .i64 x ∧ f 26 = .int .i64 r.Figure.Period ∧ f 27 = .int .i64 x2 ∧ bs = [] ∧ gs = [⟨v2, 3, 1, l.length, xs2⟩, ⟨v, 23, 1, out.length, xs.set x.toNat v2⟩] ∧ CH H2 1 RInt xs2 l ∧ HSub H1 H2) ⟨.slice none 0 0, [], rfl, rfl, rfl, rfl, rfl, rfl, rfl, rfl, rfl, by rw [← hxs]; rfl, CH.nil, HSub.refl _⟩ ?_)
    rintro ⟨x3, l⟩ x4 H2 f bs gs ⟨v2, xs2, hf0, hf1, hf5, hf6, hf18, hf19, hf26, hf27, rfl, rfl, hch2, hs12⟩ hF hr2
    have hs2 := hs1.trans hs12
    rw [F_seams_ring_steps_s2] at hF
    refine (JC.norm (i := 0) hf0 (JC.norm (i := 1) hf1 (JC.norm (i := 5) hf5 (JC.norm (i := 6) hf6 (JC.norm (i := 18) hf18 (JC.norm (i := 19) hf19 (JC.norm (i := 26) hf26 (JC.norm (i := 27) hf27 ?_))))))))
    refine JC.seq (JC.region (by rfl) ?_)
    intro hQ
    refine JL.bin rfl rfl rfl .none rfl ?_
    refine JL.done hQ (JQ.go (JC.seq ?_))
    rcases ite_some hF with ⟨hc2, hF⟩ | ⟨hc2, hF⟩
    ·refine JC.cond_t (b := decide (x3 < r.Figure.Period)) rfl hc2 ?_
     refine JC.skip (JQ.go (JC.seq (JC.block (JC.seq (JC.region (by rfl) ?_)))))
     intro hQ
     refine JL.move .none rfl ?_
     refine JL.assign .none rfl ?_
     refine JL.done hQ (JQ.go (JC.seq (JC.region (by rfl) ?_)))
     intro hQ
     refine JL.move .none rfl ?_
     refine JL.move .none rfl ?_
     refine JL.move .none rfl ?_
     refine JL.move .none rfl ?_
     obtain ⟨y5, hy5, hF⟩ := bind_some hF
     refine JL.callS (c_seams_ring_meets n H2 r r_v0 (SL.mono R_Bolt_mono hs2 hr_0) r_v1 (SL.mono RInt.mono hs2 hr_1) r_v3 (SL.mono R_Span_mono hs2 hr_3) r_v4 (SL.mono RInt.mono hs2 hr_4) r_v9 (SL.mono RInt.mono hs2 hr_9) r_v10 (SL.mono RInt.mono hs2 hr_10) r_v11 (SL.mono (RSl.mono RInt.mono) hs2 hr_11) r_b r_o (Cells.mono hs2 r_c) x x3 near y5 hy5) rfl en_111 .none rfl ?_
     refine JL.bin rfl rfl rfl .none rfl ?_
     refine JL.done hQ (JQ.go ?_)
     obtain ⟨r6, hl6, hK6⟩ := bind_some hF
     refine JC.join (fun (l2 : List Int) H3 f bs gs => ∃ (v2 : Value) (xs2 : List Value), f 0 = .pointer (some ⟨r_b, r_o, none⟩) ∧ f 1 = .int .i64 near ∧ f 5 = v ∧ f 6 = .int .i64 x ∧ f 18 = .int .i64 (r.moves.length : Int) ∧ f 19 = .int .i64 x ∧ f 26 = .int .i64 r.Figure.Period ∧ f 27 = .int .i64 x3 ∧ bs = [] ∧ gs = [⟨v2, 3, 1, l2.length, xs2⟩, ⟨v, 23, 1, out.length, xs.set x.toNat v2⟩] ∧ CH H3 1 RInt xs2 l2 ∧ HSub H2 H3 ∧ l2 = r6) ?_ ?_
     ·have hF := hl6
      rcases ite_some hF with ⟨hc3, hF⟩ | ⟨hc3, hF⟩
      ·refine JC.cond_t (b := (y5 == 1)) rfl hc3 ?_
       refine JC.region (by rfl) ?_
       intro hQ
       refine JL.move .none rfl ?_
       refine JL.move .none rfl ?_
       refine JL.move .none rfl ?_
       refine JL.move .none rfl ?_
       have hlen : (xs.set x.toNat v2).length = out.length := by rw [List.length_set]; exact hxx
       have hgi : geti (xs.set x.toNat v2) x = some v2 := by
        unfold geti
        rw [if_pos hx0.1, List.getElem?_set, if_pos rfl, if_pos (by omega)]
       refine JL.indexG 1 (l := xs.set x.toNat v2) sl_115 rfl rfl hlen.symm rfl hgi .none rfl ?_
       intro b7 hb7
       refine JL.loadG (R := RRaw) (i := x) (l := xs.set x.toNat v2) (y := v2) (off := 0) 1 az_23 rfl rfl rfl hb7 (CH.raw _) hgi (by rintro cs rfl; rfl) .none rfl ?_
       refine JL.move .none rfl ?_
       refine JL.buildSlice (e := 3) (l := [.int .i64 x3]) (by kernel_rfl) .none rfl ?_
       intro b8
       obtain ⟨l9, hl9, hF⟩ := bind_some hF
       refine JL.appO (R := RInt) 0 0 (l := l) (m := [x3]) ap_23 rfl ⟨rfl, rfl⟩ rfl hch2 rfl rfl rfl (CH.cons (cs := [.int .i64 x3]) rfl rfl CH.nil) rfl (one_cons rfl one_nil) hl9 .none rfl ?_
       intro v10 xs10 hch10
       refine JL.indexG 1 (l := xs.set x.toNat v2) sl_115 rfl rfl hlen.symm rfl hgi .none rfl ?_
       intro b11 hb11
       refine JL.formG 0 rfl (fun a12 n12 c12 hh12 => ?_)
       dsimp only at hh12
       subst hh12
       refine JL.storeG (R := RRaw) (i := x) (l := xs.set x.toNat v2) (y := v2) (y' := .slice a12 n12 c12) (off := 0) 1 az_23 rfl rfl rfl rfl (one_cons rfl one_nil) rfl hb11 (CH.raw _) hlen.symm hgi rfl (by rintro cs rfl; rfl) .none ?_
       intro xs13 hch13
       refine JL.done hQ ?_
       obtain rfl := hch13.raw_eq
       obtain rfl := Option.some.inj hF
       refine JQ.mask [false] [true, true] ?_
       refine JQ.join l9 ⟨.slice a12 n12 c12, xs10, rfl, rfl, rfl, rfl, rfl, rfl, rfl, rfl, rfl, ?_, hch10, HSub.refl _, rfl⟩
       have e1 : setx (xs.set x.toNat v2) x (.slice a12 n12 c12) = xs.set x.toNat (.slice a12 n12 c12) := by unfold setx; rw [List.set_set]
       rw [e1]
       show [_, _] = [_, _]
       have e2 : (xs.set x.toNat (.slice a12 n12 c12)).length = out.length := by rw [List.length_set]; exact hxx
       rw [e2]
      ·refine JC.cond_f (b := (y5 == 1)) rfl hc3 ?_
       refine JC.skip ?_
       obtain rfl := Option.some.inj hF
       exact JQ.join l ⟨v2, xs2, rfl, rfl, rfl, rfl, rfl, rfl, rfl, rfl, rfl, rfl, hch2, HSub.refl _, rfl⟩
     ·rintro l2 H3 f bs gs ⟨v3, xs3, hf0, hf1, hf5, hf6, hf18, hf19, hf26, hf27, rfl, rfl, hch3, hs23, rfl⟩
      have hF := hK6
      refine (JQ.norm (i := 0) hf0 (JQ.norm (i := 1) hf1 (JQ.norm (i := 5) hf5 (JQ.norm (i := 6) hf6 (JQ.norm (i := 18) hf18 (JQ.norm (i := 19) hf19 (JQ.norm (i := 26) hf26 (JQ.norm (i := 27) hf27 ?_))))))))
      refine JQ.normal_block (JQ.go (JC.region (by rfl) ?_))
      intro hQ
      refine JL.bin rfl rfl rfl .none rfl ?_
      refine JL.move .none rfl ?_
      refine JL.done hQ ?_
      obtain rfl := Option.some.inj hF
      exact JQ.next rfl ⟨v3, xs3, rfl, rfl, rfl, rfl, rfl, rfl, rfl, rfl, rfl, rfl, hch3, hs12.trans hs23⟩
    ·refine JC.cond_f (b := decide (x3 < r.Figure.Period)) rfl hc2 ?_
     refine JC.exit (JQ.exit_then (JQ.exit_then (JQ.exit_block ?_)))
     obtain rfl := Option.some.inj hF
     have ehr2 := hr2 _ rfl
     subst ehr2
     exact JQ.join l ⟨v2, xs2, rfl, rfl, rfl, rfl, rfl, rfl, rfl, hch2, hs12, rfl⟩
   ·rintro l H2 f bs gs ⟨v2, xs2, hf0, hf1, hf5, hf18, hf19, rfl, rfl, hch2, hs12, rfl⟩
    refine (JQ.norm (i := 0) hf0 (JQ.norm (i := 1) hf1 (JQ.norm (i := 5) hf5 (JQ.norm (i := 18) hf18 (JQ.norm (i := 19) hf19 ?_)))))
    refine JQ.normal_block (JQ.go (JC.region (by rfl) ?_))
    intro hQ
    refine JL.bin rfl rfl rfl .none rfl ?_
    refine JL.move .none rfl ?_
    refine JL.freezeG 0 (R := RInt) rfl RInt.mono hch2 rfl ?_
    intro H3 hs23 hg3
    refine JL.done hQ ?_
    obtain rfl := Option.some.inj hF
    have hw : w64 (x + 1) = x + 1 := w64_small (mkn_some hu1).2 (of_decide_eq_true hc) hx0
    refine JQ.next rfl ⟨xs.set x.toNat v2, rfl, rfl, rfl, rfl, rfl, rfl, ?_, ?_, ?_, ?_, hs1.trans (hs12.trans hs23)⟩
    ·rw [setx_len]; rfl
    ·exact (CH.mono (RSl.mono RInt.mono) (hs12.trans hs23) hch).set1 ⟨_, rfl, hg3⟩
    ·rw [hw]; have := of_decide_eq_true hc; have := (mkn_some hu1).2; omega
    ·intro j hj hjl
     rw [hw] at hj
     rw [List.length_set] at hjl
     rw [List.getElem?_set, if_neg (by omega)]
     exact hnil j (by omega) hjl
  ·refine JC.cond_f (b := decide (x < (r.moves.length : Int))) rfl hc ?_
   refine JC.exit (JQ.exit_then (JQ.exit_then (JQ.exit_block ?_)))
   obtain rfl := Option.some.inj hF
   have ehr := hr _ rfl
   subst ehr
   exact JQ.join out ⟨xs, rfl, rfl, rfl, hch, hs1, rfl⟩
 ·rintro out H1 f bs gs ⟨xs, hf5, rfl, rfl, hch, hs1, rfl⟩
  have hF := hK1
  refine (JQ.norm (i := 5) hf5 ?_)
  refine JQ.go (JC.seq (JC.region (by rfl) ?_))
  intro hQ
  refine JL.move .none rfl ?_
  refine JL.assign .none rfl ?_
  refine JL.done hQ (JQ.go (JC.ret (JQ.freezeG 0 (R := (RSl 1 RInt)) rfl (RSl.mono RInt.mono) hch rfl ?_)))
  intro H2 hs2 hg2
  obtain rfl := Option.some.inj hF
  exact JQ.outH rfl (.tmp .nil) hg2
end Go.Proofs.Yteihdclpiekmaaa
end
