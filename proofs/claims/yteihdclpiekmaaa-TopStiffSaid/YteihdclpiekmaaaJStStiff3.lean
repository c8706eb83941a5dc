/-
  A part of the proof of StStiff: the texts StGenK2, StGenK3.
-/
import Derived.Test.YteihdclpiekmaaaJStStiff2
section
set_option maxRecDepth 100000
set_option maxHeartbeats 40000000
namespace Go.Proofs.Yteihdclpiekmaaa
open Go Go.RowKit Go.Dec
set_option linter.unusedVariables false
-- 50 ferrule/ferruleref04.Check
def F_ref04_Check (n : Nat) (f_ : Figure) : Option Int :=
 (F_ref02_Check n f_.Dome).bind fun y2 => if (y2 != 0) = true then (some y2) else ((if ((((((decide (f_.Period < 1)) || (decide (60 < f_.Period))) || (decide (f_.Run < 0))) || (decide (2000 < f_.Run))) || (decide (f_.Near < 0))) || (decide ((w64 (f_.Period.tdiv 2)) < f_.Near))) = true then (some true) else ((F_ref04_all n f_.Starts (f_.Dome.Gores.length : Int) 0 (w64 (f_.Period - 1))).bind fun y18 => some (!y18)) : Option Bool).bind fun p15 => (if p15 = true then (some true) else ((F_ref04_all n f_.Times (f_.Dome.Gores.length : Int) 1 99).bind fun y23 => some (!y23)) : Option Bool).bind fun p20 => if p20 = true then (some 40) else (some 0))
theorem c_ref04_Check (n : Nat) (H : Hp) (f_ : Figure) (f__v0 : Value) (hf__0 : SL H 4 R_Bolt f__v0 f_.Dome.Bolts) (f__v1 : Value) (hf__1 : SL H 1 RInt f__v1 f_.Dome.Gores) (f__v3 : Value) (hf__3 : SL H 2 R_Span f__v3 f_.Dome.Rounds) (f__v4 : Value) (hf__4 : SL H 1 RInt f__v4 f_.Dome.Widths) (f__v9 : Value) (hf__9 : SL H 1 RInt f__v9 f_.Starts) (f__v10 : Value) (hf__10 : SL H 1 RInt f__v10 f_.Times) (y : Int) (hF : F_ref04_Check n f_ = some y) : SC Try.prog 50 [.agg [f__v0, f__v1, .int .i64 f_.Dome.Loss, f__v3, f__v4, .int .i64 f_.Dome.Slope, .int .i64 f_.Period, .int .i64 f_.Run, .int .i64 f_.Near, f__v9, f__v10].toArray] (.int .i64 y) H := by
 rw [F_ref04_Check] at hF
 refine SC.of (N := 63) Try.func50 rfl rfl rfl fun w => ?_
 refine JC.seq (JC.region (by rfl) ?_)
 intro hQ
 refine JL.box (cs := [f__v0, f__v1, .int .i64 f_.Dome.Loss, f__v3, f__v4, .int .i64 f_.Dome.Slope, .int .i64 f_.Period, .int .i64 f_.Run, .int .i64 f_.Near, f__v9, f__v10]) rfl .none rfl ?_
 intro b1
 refine JL.assign .none rfl ?_
 refine JL.done hQ (JQ.go (JC.seq (JC.seq (JC.region (by rfl) ?_))))
 intro hQ
 refine JL.fieldAddr fo_28_0 rfl .none rfl ?_
 refine JL.loadOwn 0 az_26 rfl rfl rfl .none rfl ?_
 obtain ⟨y2, hy2, hF⟩ := bind_some hF
 refine JL.callS (c_ref02_Check n H f_.Dome f__v0 hf__0 f__v1 hf__1 f__v3 hf__3 f__v4 hf__4 y2 hy2) rfl en_103 .none rfl ?_
 refine JL.assign .none rfl ?_
 refine JL.done hQ (JQ.go (JC.seq (JC.region (by rfl) ?_)))
 intro hQ
 refine JL.move .none rfl ?_
 refine JL.bin rfl rfl rfl .none rfl ?_
 refine JL.done hQ (JQ.go ?_)
 rcases ite_some hF with ⟨hc3, hF⟩ | ⟨hc3, hF⟩
 ·refine JC.cond_t (b := (y2 != 0)) rfl hc3 ?_
  refine JC.seq (JC.region (by rfl) ?_)
  intro hQ
  refine JL.move .none rfl ?_
  refine JL.assign .none rfl ?_
  refine JL.done hQ (JQ.go (JC.ret (JQ.ret_then ?_)))
  obtain rfl := Option.some.inj hF
  exact JQ.outS rfl (.tmp .nil) rfl
 ·refine JC.cond_f (b := (y2 != 0)) rfl hc3 ?_
  refine JC.skip (JQ.go (JC.seq (JC.region (by rfl) ?_)))
  intro hQ
  refine JL.fieldAddr fo_28_0 rfl .none rfl ?_
  refine JL.fieldAddr fo_26_1 rfl .none rfl ?_
  refine JL.loadOwn 0 az_23 rfl rfl rfl .none rfl ?_
  refine JL.lenSL (R := RInt) ul_23 hf__1 .none rfl ?_
  refine JL.assign .none rfl ?_
  refine JL.done hQ (JQ.go (JC.fresh (fun f => f 1 = .pointer (some ⟨b1, 0, none⟩) ∧ f 2 = .int .i64 0 ∧ f 4 = .int .i64 (f_.Dome.Gores.length : Int)) ⟨rfl, rfl, rfl⟩ ?_))
  rintro f ⟨hf1, hf2, hf4⟩
  refine (JC.norm (i := 1) hf1 (JC.norm (i := 2) hf2 (JC.norm (i := 4) hf4 ?_)))
  refine JC.seq (JC.seq (JC.region (by rfl) ?_))
  intro hQ
  refine JL.fieldAddr fo_28_1 rfl .none rfl ?_
  refine JL.loadOwn 0 az_3 rfl rfl rfl .none rfl ?_
  refine JL.bin rfl rfl rfl .none rfl ?_
  refine JL.move .none rfl ?_
  refine JL.cut 4 (fun f => f 1 = .pointer (some ⟨b1, 0, none⟩) ∧ f 4 = .int .i64 (f_.Dome.Gores.length : Int) ∧ f 22 = .bool ((decide (f_.Period < 1)) || (decide (60 < f_.Period)))) ?_ ?_
  ·intro hJ4
   rcases bcases (decide (f_.Period < 1)) with hc5 | hc5
   ·skip
    refine JL.skip (.bool rfl rfl rfl hc5) rfl ?_
    refine JL.skip (.bool rfl rfl rfl hc5) rfl ?_
    refine JL.skip (.bool rfl rfl rfl hc5) rfl ?_
    refine JL.pick_t (b := decide (f_.Period < 1)) rfl hc5 .none rfl ?_
    exact hJ4 _ ⟨rfl, rfl, or_t hc5 rfl⟩
   ·skip
    refine JL.fieldAddr fo_28_1 rfl (.some rfl rfl rfl hc5) rfl ?_
    refine JL.loadOwn 0 az_3 rfl rfl rfl (.some rfl rfl rfl hc5) rfl ?_
    refine JL.bin rfl rfl rfl (.some rfl rfl rfl hc5) rfl ?_
    refine JL.pick_f (b := decide (f_.Period < 1)) rfl hc5 .none rfl ?_
    exact hJ4 _ ⟨rfl, rfl, or_f hc5 rfl⟩
  ·rintro f ⟨hf1, hf4, hf22⟩
   refine (JL.norm (i := 1) hf1 (JL.norm (i := 4) hf4 (JL.norm (i := 22) hf22 ?_)))
   refine JL.move .none rfl ?_
   refine JL.cut 4 (fun f => f 1 = .pointer (some ⟨b1, 0, none⟩) ∧ f 4 = .int .i64 (f_.Dome.Gores.length : Int) ∧ f 27 = .bool (((decide (f_.Period < 1)) || (decide (60 < f_.Period))) || (decide (f_.Run < 0)))) ?_ ?_
   ·intro hJ6
    rcases bcases ((decide (f_.Period < 1)) || (decide (60 < f_.Period))) with hc7 | hc7
    ·skip
     refine JL.skip (.bool rfl rfl rfl hc7) rfl ?_
     refine JL.skip (.bool rfl rfl rfl hc7) rfl ?_
     refine JL.skip (.bool rfl rfl rfl hc7) rfl ?_
     refine JL.pick_t (b := ((decide (f_.Period < 1)) || (decide (60 < f_.Period)))) rfl hc7 .none rfl ?_
     exact hJ6 _ ⟨rfl, rfl, or_t hc7 rfl⟩
    ·skip
     refine JL.fieldAddr fo_28_2 rfl (.some rfl rfl rfl hc7) rfl ?_
     refine JL.loadOwn 0 az_3 rfl rfl rfl (.some rfl rfl rfl hc7) rfl ?_
     refine JL.bin rfl rfl rfl (.some rfl rfl rfl hc7) rfl ?_
     refine JL.pick_f (b := ((decide (f_.Period < 1)) || (decide (60 < f_.Period)))) rfl hc7 .none rfl ?_
     exact hJ6 _ ⟨rfl, rfl, or_f hc7 rfl⟩
   ·rintro f ⟨hf1, hf4, hf27⟩
    refine (JL.norm (i := 1) hf1 (JL.norm (i := 4) hf4 (JL.norm (i := 27) hf27 ?_)))
    refine JL.move .none rfl ?_
    refine JL.cut 4 (fun f => f 1 = .pointer (some ⟨b1, 0, none⟩) ∧ f 4 = .int .i64 (f_.Dome.Gores.length : Int) ∧ f 32 = .bool ((((decide (f_.Period < 1)) || (decide (60 < f_.Period))) || (decide (f_.Run < 0))) || (decide (2000 < f_.Run)))) ?_ ?_
    ·intro hJ8
     rcases bcases (((decide (f_.Period < 1)) || (decide (60 < f_.Period))) || (decide (f_.Run < 0))) with hc9 | hc9
     ·skip
      refine JL.skip (.bool rfl rfl rfl hc9) rfl ?_
      refine JL.skip (.bool rfl rfl rfl hc9) rfl ?_
      refine JL.skip (.bool rfl rfl rfl hc9) rfl ?_
      refine JL.pick_t (b := (((decide (f_.Period < 1)) || (decide (60 < f_.Period))) || (decide (f_.Run < 0)))) rfl hc9 .none rfl ?_
      exact hJ8 _ ⟨rfl, rfl, or_t hc9 rfl⟩
     ·skip
      refine JL.fieldAddr fo_28_2 rfl (.some rfl rfl rfl hc9) rfl ?_
      refine JL.loadOwn 0 az_3 rfl rfl rfl (.some rfl rfl rfl hc9) rfl ?_
      refine JL.bin rfl rfl rfl (.some rfl rfl rfl hc9) rfl ?_
      refine JL.pick_f (b := (((decide (f_.Period < 1)) || (decide (60 < f_.Period))) || (decide (f_.Run < 0)))) rfl hc9 .none rfl ?_
      exact hJ8 _ ⟨rfl, rfl, or_f hc9 rfl⟩
    ·rintro f ⟨hf1, hf4, hf32⟩
     refine (JL.norm (i := 1) hf1 (JL.norm (i := 4) hf4 (JL.norm (i := 32) hf32 ?_)))
     refine JL.move .none rfl ?_
     refine JL.cut 4 (fun f => f 1 = .pointer (some ⟨b1, 0, none⟩) ∧ f 4 = .int .i64 (f_.Dome.Gores.length : Int) ∧ f 37 = .bool (((((decide (f_.Period < 1)) || (decide (60 < f_.Period))) || (decide (f_.Run < 0))) || (decide (2000 < f_.Run))) || (decide (f_.Near < 0)))) ?_ ?_
     ·intro hJ10
      rcases bcases ((((decide (f_.Period < 1)) || (decide (60 < f_.Period))) || (decide (f_.Run < 0))) || (decide (2000 < f_.Run))) with hc11 | hc11
      ·skip
       refine JL.skip (.bool rfl rfl rfl hc11) rfl ?_
       refine JL.skip (.bool rfl rfl rfl hc11) rfl ?_
       refine JL.skip (.bool rfl rfl rfl hc11) rfl ?_
       refine JL.pick_t (b := ((((decide (f_.Period < 1)) || (decide (60 < f_.Period))) || (decide (f_.Run < 0))) || (decide (2000 < f_.Run)))) rfl hc11 .none rfl ?_
       exact hJ10 _ ⟨rfl, rfl, or_t hc11 rfl⟩
      ·skip
       refine JL.fieldAddr fo_28_3 rfl (.some rfl rfl rfl hc11) rfl ?_
       refine JL.loadOwn 0 az_3 rfl rfl rfl (.some rfl rfl rfl hc11) rfl ?_
       refine JL.bin rfl rfl rfl (.some rfl rfl rfl hc11) rfl ?_
       refine JL.pick_f (b := ((((decide (f_.Period < 1)) || (decide (60 < f_.Period))) || (decide (f_.Run < 0))) || (decide (2000 < f_.Run)))) rfl hc11 .none rfl ?_
       exact hJ10 _ ⟨rfl, rfl, or_f hc11 rfl⟩
     ·rintro f ⟨hf1, hf4, hf37⟩
      refine (JL.norm (i := 1) hf1 (JL.norm (i := 4) hf4 (JL.norm (i := 37) hf37 ?_)))
      refine JL.move .none rfl ?_
      refine JL.cut 7 (fun f => f 1 = .pointer (some ⟨b1, 0, none⟩) ∧ f 4 = .int .i64 (f_.Dome.Gores.length : Int) ∧ f 45 = .bool ((((((decide (f_.Period < 1)) || (decide (60 < f_.Period))) || (decide (f_.Run < 0))) || (decide (2000 < f_.Run))) || (decide (f_.Near < 0))) || (decide ((w64 (f_.Period.tdiv 2)) < f_.Near)))) ?_ ?_
      ·intro hJ12
       rcases bcases (((((decide (f_.Period < 1)) || (decide (60 < f_.Period))) || (decide (f_.Run < 0))) || (decide (2000 < f_.Run))) || (decide (f_.Near < 0))) with hc13 | hc13
       ·skip
        refine JL.skip (.bool rfl rfl rfl hc13) rfl ?_
        refine JL.skip (.bool rfl rfl rfl hc13) rfl ?_
        refine JL.skip (.bool rfl rfl rfl hc13) rfl ?_
        refine JL.skip (.bool rfl rfl rfl hc13) rfl ?_
        refine JL.skip (.bool rfl rfl rfl hc13) rfl ?_
        refine JL.skip (.bool rfl rfl rfl hc13) rfl ?_
        refine JL.pick_t (b := (((((decide (f_.Period < 1)) || (decide (60 < f_.Period))) || (decide (f_.Run < 0))) || (decide (2000 < f_.Run))) || (decide (f_.Near < 0)))) rfl hc13 .none rfl ?_
        exact hJ12 _ ⟨rfl, rfl, or_t hc13 rfl⟩
       ·skip
        refine JL.fieldAddr fo_28_3 rfl (.some rfl rfl rfl hc13) rfl ?_
        refine JL.loadOwn 0 az_3 rfl rfl rfl (.some rfl rfl rfl hc13) rfl ?_
        refine JL.fieldAddr fo_28_1 rfl (.some rfl rfl rfl hc13) rfl ?_
        refine JL.loadOwn 0 az_3 rfl rfl rfl (.some rfl rfl rfl hc13) rfl ?_
        refine JL.div rfl rfl (by decide) rfl (.some rfl rfl rfl hc13) rfl ?_
        refine JL.bin rfl rfl rfl (.some rfl rfl rfl hc13) rfl ?_
        refine JL.pick_f (b := (((((decide (f_.Period < 1)) || (decide (60 < f_.Period))) || (decide (f_.Run < 0))) || (decide (2000 < f_.Run))) || (decide (f_.Near < 0)))) rfl hc13 .none rfl ?_
        exact hJ12 _ ⟨rfl, rfl, or_f hc13 rfl⟩
      ·rintro f ⟨hf1, hf4, hf45⟩
       refine (JL.norm (i := 1) hf1 (JL.norm (i := 4) hf4 (JL.norm (i := 45) hf45 ?_)))
       refine JL.move .none rfl ?_
       obtain ⟨p15, hp15, hF⟩ := bind_some hF
       refine JL.cut 9 (fun f => f 1 = .pointer (some ⟨b1, 0, none⟩) ∧ f 4 = .int .i64 (f_.Dome.Gores.length : Int) ∧ f 55 = .bool p15) ?_ ?_
       ·intro hJ16
        rcases ite_some hp15 with ⟨hc17, hF⟩ | ⟨hc17, hF⟩
        ·skip
         refine JL.skip (.bool rfl rfl rfl hc17) rfl ?_
         refine JL.skip (.bool rfl rfl rfl hc17) rfl ?_
         refine JL.skip (.bool rfl rfl rfl hc17) rfl ?_
         refine JL.skip (.bool rfl rfl rfl hc17) rfl ?_
         refine JL.skip (.bool rfl rfl rfl hc17) rfl ?_
         refine JL.skip (.bool rfl rfl rfl hc17) rfl ?_
         refine JL.skip (.bool rfl rfl rfl hc17) rfl ?_
         refine JL.skip (.bool rfl rfl rfl hc17) rfl ?_
         refine JL.pick_t (b := ((((((decide (f_.Period < 1)) || (decide (60 < f_.Period))) || (decide (f_.Run < 0))) || (decide (2000 < f_.Run))) || (decide (f_.Near < 0))) || (decide ((w64 (f_.Period.tdiv 2)) < f_.Near)))) rfl hc17 .none rfl ?_
         obtain rfl := Option.some.inj hF
         exact hJ16 _ ⟨rfl, rfl, rfl⟩
        ·skip
         refine JL.fieldAddr fo_28_4 rfl (.some rfl rfl rfl hc17) rfl ?_
         refine JL.loadOwn 0 az_23 rfl rfl rfl (.some rfl rfl rfl hc17) rfl ?_
         refine JL.move (.some rfl rfl rfl hc17) rfl ?_
         refine JL.fieldAddr fo_28_1 rfl (.some rfl rfl rfl hc17) rfl ?_
         refine JL.loadOwn 0 az_3 rfl rfl rfl (.some rfl rfl rfl hc17) rfl ?_
         refine JL.bin rfl rfl rfl (.some rfl rfl rfl hc17) rfl ?_
         obtain ⟨y18, hy18, hF⟩ := bind_some hF
         refine JL.callS (c_ref04_all n H f_.Starts f__v9 hf__9 (f_.Dome.Gores.length : Int) 0 (w64 (f_.Period - 1)) y18 hy18) rfl en_104 (.some rfl rfl rfl hc17) rfl ?_
         refine JL.not rfl (.some rfl rfl rfl hc17) rfl ?_
         refine JL.pick_f (b := ((((((decide (f_.Period < 1)) || (decide (60 < f_.Period))) || (decide (f_.Run < 0))) || (decide (2000 < f_.Run))) || (decide (f_.Near < 0))) || (decide ((w64 (f_.Period.tdiv 2)) < f_.Near)))) rfl hc17 .none rfl ?_
         obtain rfl := Option.some.inj hF
         exact hJ16 _ ⟨rfl, rfl, rfl⟩
       ·rintro f ⟨hf1, hf4, hf55⟩
        refine (JL.norm (i := 1) hf1 (JL.norm (i := 4) hf4 (JL.norm (i := 55) hf55 ?_)))
        refine JL.move .none rfl ?_
        obtain ⟨p20, hp20, hF⟩ := bind_some hF
        refine JL.cut 6 (fun f => f 62 = .bool p20) ?_ ?_
        ·intro hJ21
         rcases ite_some hp20 with ⟨hc22, hF⟩ | ⟨hc22, hF⟩
         ·skip
          refine JL.skip (.bool rfl rfl rfl hc22) rfl ?_
          refine JL.skip (.bool rfl rfl rfl hc22) rfl ?_
          refine JL.skip (.bool rfl rfl rfl hc22) rfl ?_
          refine JL.skip (.bool rfl rfl rfl hc22) rfl ?_
          refine JL.skip (.bool rfl rfl rfl hc22) rfl ?_
          refine JL.pick_t (b := p15) rfl hc22 .none rfl ?_
          obtain rfl := Option.some.inj hF
          exact hJ21 _ (rfl)
         ·skip
          refine JL.fieldAddr fo_28_5 rfl (.some rfl rfl rfl hc22) rfl ?_
          refine JL.loadOwn 0 az_23 rfl rfl rfl (.some rfl rfl rfl hc22) rfl ?_
          refine JL.move (.some rfl rfl rfl hc22) rfl ?_
          obtain ⟨y23, hy23, hF⟩ := bind_some hF
          refine JL.callS (c_ref04_all n H f_.Times f__v10 hf__10 (f_.Dome.Gores.length : Int) 1 99 y23 hy23) rfl en_104 (.some rfl rfl rfl hc22) rfl ?_
          refine JL.not rfl (.some rfl rfl rfl hc22) rfl ?_
          refine JL.pick_f (b := p15) rfl hc22 .none rfl ?_
          obtain rfl := Option.some.inj hF
          exact hJ21 _ (rfl)
        ·rintro f hf62
         refine (JL.norm (i := 62) hf62 ?_)
         refine JL.done hQ (JQ.go ?_)
         rcases ite_some hF with ⟨hc24, hF⟩ | ⟨hc24, hF⟩
         ·refine JC.cond_t (b := p20) rfl hc24 ?_
          refine JC.seq (JC.region (by rfl) ?_)
          intro hQ
          refine JL.assign .none rfl ?_
          refine JL.done hQ (JQ.go (JC.ret (JQ.ret_then ?_)))
          obtain rfl := Option.some.inj hF
          exact JQ.outS rfl (.tmp .nil) rfl
         ·refine JC.cond_f (b := p20) rfl hc24 ?_
          refine JC.skip (JQ.go (JC.seq (JC.region (by rfl) ?_)))
          intro hQ
          refine JL.assign .none rfl ?_
          refine JL.done hQ (JQ.go (JC.ret ?_))
          obtain rfl := Option.some.inj hF
          exact JQ.outS rfl (.tmp .nil) rfl
-- 9 ferrule/ferrulelaw04.Far
def F_law04_Far (n : Nat) (f_ : Figure) : Option Bool :=
 (F_law04_FarRing n f_).bind fun y2 => (if y2 = true then (some true) else ((F_ref04_Check n f_).bind fun y13 => some ((y13 == 0) && ((decide (5 < (f_.Starts.length : Int))) || (decide (8 < f_.Period))))) : Option Bool).bind fun p10 => some p10
theorem c_law04_Far (n : Nat) (H : Hp) (f_ : Figure) (f__v0 : Value) (hf__0 : SL H 4 R_Bolt f__v0 f_.Dome.Bolts) (f__v1 : Value) (hf__1 : SL H 1 RInt f__v1 f_.Dome.Gores) (f__v3 : Value) (hf__3 : SL H 2 R_Span f__v3 f_.Dome.Rounds) (f__v4 : Value) (hf__4 : SL H 1 RInt f__v4 f_.Dome.Widths) (f__v9 : Value) (hf__9 : SL H 1 RInt f__v9 f_.Starts) (f__v10 : Value) (hf__10 : SL H 1 RInt f__v10 f_.Times) (y : Bool) (hF : F_law04_Far n f_ = some y) : SC Try.prog 9 [.agg [f__v0, f__v1, .int .i64 f_.Dome.Loss, f__v3, f__v4, .int .i64 f_.Dome.Slope, .int .i64 f_.Period, .int .i64 f_.Run, .int .i64 f_.Near, f__v9, f__v10].toArray] (.bool y) H := by
 rw [F_law04_Far] at hF
 refine SC.of (N := 21) Try.func9 rfl rfl rfl fun w => ?_
 refine JC.seq (JC.region (by rfl) ?_)
 intro hQ
 refine JL.box (cs := [f__v0, f__v1, .int .i64 f_.Dome.Loss, f__v3, f__v4, .int .i64 f_.Dome.Slope, .int .i64 f_.Period, .int .i64 f_.Run, .int .i64 f_.Near, f__v9, f__v10]) rfl .none rfl ?_
 intro b1
 refine JL.assign .none rfl ?_
 refine JL.done hQ (JQ.go (JC.seq (JC.region (by rfl) ?_)))
 intro hQ
 refine JL.loadOwn 0 az_28 rfl rfl rfl .none rfl ?_
 obtain ⟨y2, hy2, hF⟩ := bind_some hF
 refine JL.callS (c_law04_FarRing n H f_ f__v0 hf__0 f__v1 hf__1 f__v3 hf__3 f__v4 hf__4 f__v9 hf__9 f__v10 hf__10 y2 hy2) rfl en_49 .none rfl ?_
 refine JL.move .none rfl ?_
 obtain ⟨p10, hp10, hF⟩ := bind_some hF
 refine JL.cut 15 (fun f => f 20 = .bool p10) ?_ ?_
 ·intro hJ11
  rcases ite_some hp10 with ⟨hc12, hF⟩ | ⟨hc12, hF⟩
  ·skip
   refine JL.skip (.bool rfl rfl rfl hc12) rfl ?_
   refine JL.skip (.bool rfl rfl rfl hc12) rfl ?_
   refine JL.skip (.bool rfl rfl rfl hc12) rfl ?_
   refine JL.skip (.bool rfl rfl rfl hc12) rfl ?_
   refine JL.skip (.no rfl rfl rfl) rfl ?_
   refine JL.skip (.no rfl rfl rfl) rfl ?_
   refine JL.skip (.no rfl rfl rfl) rfl ?_
   refine JL.skip (.no rfl rfl rfl) rfl ?_
   refine JL.skip (.no rfl rfl rfl) rfl ?_
   refine JL.skip (.no rfl rfl rfl) rfl ?_
   refine JL.skip (.no rfl rfl rfl) rfl ?_
   refine JL.skip (.no rfl rfl rfl) rfl ?_
   refine JL.skip (.no rfl rfl rfl) rfl ?_
   refine JL.skip (.bool rfl rfl rfl hc12) rfl ?_
   refine JL.pick_t (b := y2) rfl hc12 .none rfl ?_
   obtain rfl := Option.some.inj hF
   exact hJ11 _ (rfl)
  ·skip
   refine JL.loadOwn 0 az_28 rfl rfl rfl (.some rfl rfl rfl hc12) rfl ?_
   obtain ⟨y13, hy13, hF⟩ := bind_some hF
   refine JL.callS (c_ref04_Check n H f_ f__v0 hf__0 f__v1 hf__1 f__v3 hf__3 f__v4 hf__4 f__v9 hf__9 f__v10 hf__10 y13 hy13) rfl en_50 (.some rfl rfl rfl hc12) rfl ?_
   refine JL.bin rfl rfl rfl (.some rfl rfl rfl hc12) rfl ?_
   refine JL.move (.some rfl rfl rfl hc12) rfl ?_
   refine JL.cut 10 (fun f => f 5 = .bool y2 ∧ f 19 = .bool ((y13 == 0) && ((decide (5 < (f_.Starts.length : Int))) || (decide (8 < f_.Period))))) ?_ ?_
   ·intro hJ16
    rcases bcases (y13 == 0) with hc17 | hc17
    ·skip
     refine JL.fieldAddr fo_28_4 rfl (.some rfl rfl rfl hc17) rfl ?_
     refine JL.loadOwn 0 az_23 rfl rfl rfl (.some rfl rfl rfl hc17) rfl ?_
     refine JL.lenSL (R := RInt) ul_23 hf__9 (.some rfl rfl rfl hc17) rfl ?_
     refine JL.bin rfl rfl rfl (.some rfl rfl rfl hc17) rfl ?_
     refine JL.move (.some rfl rfl rfl hc17) rfl ?_
     refine JL.cut 4 (fun f => f 5 = .bool y2 ∧ f 9 = .bool (y13 == 0) ∧ f 18 = .bool ((decide (5 < (f_.Starts.length : Int))) || (decide (8 < f_.Period)))) ?_ ?_
     ·intro hJ18
      rcases bcases (decide (5 < (f_.Starts.length : Int))) with hc19 | hc19
      ·skip
       refine JL.skip (.bool rfl rfl rfl hc19) rfl ?_
       refine JL.skip (.bool rfl rfl rfl hc19) rfl ?_
       refine JL.skip (.bool rfl rfl rfl hc19) rfl ?_
       refine JL.pick_t (b := decide (5 < (f_.Starts.length : Int))) rfl hc19 (.some rfl rfl rfl hc17) rfl ?_
       exact hJ18 _ ⟨rfl, rfl, or_t hc19 rfl⟩
      ·skip
       refine JL.fieldAddr fo_28_1 rfl (.some rfl rfl rfl hc19) rfl ?_
       refine JL.loadOwn 0 az_3 rfl rfl rfl (.some rfl rfl rfl hc19) rfl ?_
       refine JL.bin rfl rfl rfl (.some rfl rfl rfl hc19) rfl ?_
       refine JL.pick_f (b := decide (5 < (f_.Starts.length : Int))) rfl hc19 (.some rfl rfl rfl hc17) rfl ?_
       exact hJ18 _ ⟨rfl, rfl, or_f hc19 rfl⟩
     ·rintro f ⟨hf5, hf9, hf18⟩
      refine (JL.norm (i := 5) hf5 (JL.norm (i := 9) hf9 (JL.norm (i := 18) hf18 ?_)))
      refine JL.pick_t (b := (y13 == 0)) rfl hc17 (.some rfl rfl rfl hc12) rfl ?_
      exact hJ16 _ ⟨rfl, and_t hc17 rfl⟩
    ·skip
     refine JL.skip (.bool rfl rfl rfl hc17) rfl ?_
     refine JL.skip (.bool rfl rfl rfl hc17) rfl ?_
     refine JL.skip (.bool rfl rfl rfl hc17) rfl ?_
     refine JL.skip (.bool rfl rfl rfl hc17) rfl ?_
     refine JL.skip (.bool rfl rfl rfl hc17) rfl ?_
     refine JL.skip (.no rfl rfl rfl) rfl ?_
     refine JL.skip (.no rfl rfl rfl) rfl ?_
     refine JL.skip (.no rfl rfl rfl) rfl ?_
     refine JL.skip (.bool rfl rfl rfl hc17) rfl ?_
     refine JL.pick_f (b := (y13 == 0)) rfl hc17 (.some rfl rfl rfl hc12) rfl ?_
     exact hJ16 _ ⟨rfl, and_f hc17 rfl⟩
   ·rintro f ⟨hf5, hf19⟩
    refine (JL.norm (i := 5) hf5 (JL.norm (i := 19) hf19 ?_))
    refine JL.pick_f (b := y2) rfl hc12 .none rfl ?_
    obtain rfl := Option.some.inj hF
    exact hJ11 _ (rfl)
 ·rintro f hf20
  refine (JL.norm (i := 20) hf20 ?_)
  refine JL.assign .none rfl ?_
  refine JL.done hQ (JQ.go (JC.ret ?_))
  obtain rfl := Option.some.inj hF
  exact JQ.outS rfl (.tmp .nil) rfl
-- 159 ferrule/ferruleref02.numbers
def F_ref02_numbers_s1 (n : Nat) (b : Bolt) : Int × List Int → Option ((Int × List Int) ⊕ (List Int))
 | (s_134, out_135) => if decide (s_134 ≤ b.Stretch.High) = true then ((F_ref02_Can n b s_134).bind fun y140 => (if y140 = true then ((lim (out_135 ++ [s_134])).bind fun l152 => some l152) else (some out_135)).bind fun out_147 => some (Sum.inl ((w64 (s_134 + 1)), out_147))) else (some (Sum.inr out_135))
def F_ref02_numbers (n : Nat) (b : Bolt) : Option (List Int) :=
 (loopO n (F_ref02_numbers_s1 n b) (b.Stretch.Low, ([] : List Int))).bind fun out_91 => some out_91
theorem c_ref02_numbers (n : Nat) (H : Hp) (b : Bolt) (b_v2 : Value) (hb_2 : SL H 3 R_Strip b_v2 b.Strips) (y : (List Int)) (hF : F_ref02_numbers n b = some y) : HC Try.prog 159 [.agg [.int .i64 b.Stretch.Low, .int .i64 b.Stretch.High, b_v2, .int .i64 b.Wrong].toArray] H (fun H' ra_v0 => SL H' 1 RInt ra_v0 y) := by
 rw [F_ref02_numbers] at hF
 refine HC.of (N := 23) Try.func159 rfl rfl rfl fun w => ?_
 refine JC.seq (JC.region (by rfl) ?_)
 intro hQ
 refine JL.box (cs := [.int .i64 b.Stretch.Low, .int .i64 b.Stretch.High, b_v2, .int .i64 b.Wrong]) rfl .none rfl ?_
 intro b1
 refine JL.assign .none rfl ?_
 refine JL.done hQ (JQ.go (JC.seq (JC.region (by rfl) ?_)))
 intro hQ
 refine JL.assign .none rfl ?_
 refine JL.done hQ (JQ.go (JC.seq (JC.seq (JC.region (by rfl) ?_))))
 intro hQ
 refine JL.fieldAddr fo_179_0 rfl .none rfl ?_
 refine JL.fieldAddr fo_39_0 rfl .none rfl ?_
 refine JL.loadOwn 0 az_3 rfl rfl rfl .none rfl ?_
 refine JL.assign .none rfl ?_
 refine JL.done hQ (JQ.go (JC.newNil (e := 3) (sz := 1) ?_))
 obtain ⟨r93, hlr93, hKr93⟩ := bind_some hF
 refine JC.join (fun (out_91 : List Int) H92 f bs gs => ∃ (vout_91 : Value) (xsout_91 : List Value), f 3 = vout_91 ∧ bs = [] ∧ gs = [⟨vout_91, 3, 1, out_91.length, xsout_91⟩] ∧ CH H92 1 RInt xsout_91 out_91 ∧ HSub H H92 ∧ out_91 = r93) ?_ ?_
 ·skip
  refine JC.block (JC.loop hlr93 (fun (x : Int × List Int) H136 f bs gs => match x with | (s_134, out_135) => ∃ (vout_135 : Value) (xsout_135 : List Value), f 1 = .pointer (some ⟨b1, 0, none⟩) ∧ f 3 = vout_135 ∧ f 4 = .int .i64 s_134 ∧ bs = [(b1, .cells [.int .i64 b.Stretch.Low, .int .i64 b.Stretch.High, b_v2, .int .i64 b.Wrong].toArray 179)] ∧ gs = [⟨vout_135, 3, 1, out_135.length, xsout_135⟩] ∧ CH H136 1 RInt xsout_135 out_135 ∧ HSub H H136) ⟨(.slice none 0 0), [], rfl, rfl, rfl, rfl, rfl, CH.nil, (HSub.refl _)⟩ ?_)
  rintro ⟨s_134, out_135⟩ x138 H136 f bs gs ⟨vout_135, xsout_135, hf1, hf3, hf4, rfl, rfl, hout_135, hs136⟩ hF hr137
  rw [F_ref02_numbers_s1] at hF
  refine (JC.norm (i := 1) hf1 (JC.norm (i := 3) hf3 (JC.norm (i := 4) hf4 ?_)))
  refine JC.seq (JC.seq (JC.region (by rfl) ?_))
  intro hQ
  refine JL.move .none rfl ?_
  refine JL.fieldAddr fo_179_0 rfl .none rfl ?_
  refine JL.fieldAddr fo_39_1 rfl .none rfl ?_
  refine JL.loadOwn 0 az_3 rfl rfl rfl .none rfl ?_
  refine JL.bin rfl rfl rfl .none rfl ?_
  refine JL.done hQ (JQ.go ?_)
  rcases ite_some hF with ⟨hc139, hF⟩ | ⟨hc139, hF⟩
  ·refine JC.cond_t (b := decide (s_134 ≤ b.Stretch.High)) rfl hc139 ?_
   refine JC.skip (JQ.go (JC.seq (JC.block (JC.seq (JC.region (by rfl) ?_)))))
   intro hQ
   refine JL.loadOwn 0 az_179 rfl rfl rfl .none rfl ?_
   refine JL.move .none rfl ?_
   obtain ⟨y140, hy140, hF⟩ := bind_some hF
   refine JL.callS (c_ref02_Can n H136 b b_v2 (SL.mono R_Strip_mono hs136 hb_2) s_134 y140 hy140) rfl en_154 .none rfl ?_
   refine JL.done hQ (JQ.go ?_)
   obtain ⟨r149, hlr149, hKr149⟩ := bind_some hF
   refine JC.join (fun (out_147 : List Int) H148 f bs gs => ∃ (vout_147 : Value) (xsout_147 : List Value), f 1 = .pointer (some ⟨b1, 0, none⟩) ∧ f 3 = vout_147 ∧ f 4 = .int .i64 s_134 ∧ bs = [(b1, .cells [.int .i64 b.Stretch.Low, .int .i64 b.Stretch.High, b_v2, .int .i64 b.Wrong].toArray 179)] ∧ gs = [⟨vout_147, 3, 1, out_147.length, xsout_147⟩] ∧ CH H148 1 RInt xsout_147 out_147 ∧ HSub H136 H148 ∧ out_147 = r149) ?_ ?_
   ·have hF := hlr149
    rcases ite_some hF with ⟨hc150, hF⟩ | ⟨hc150, hF⟩
    ·refine JC.cond_t (b := y140) rfl hc150 ?_
     refine JC.region (by rfl) ?_
     intro hQ
     refine JL.move .none rfl ?_
     refine JL.move .none rfl ?_
     refine JL.buildSlice (e := 3) (l := [.int .i64 s_134]) (by kernel_rfl) .none rfl ?_
     intro b151
     obtain ⟨l152, hl152, hF⟩ := bind_some hF
     refine JL.appO (R := RInt) 0 0 (l := out_135) (m := [s_134]) ap_23 rfl ⟨rfl, rfl⟩ rfl hout_135 rfl rfl rfl (CH.cons (cs := [.int .i64 s_134]) rfl rfl CH.nil) rfl (one_cons rfl one_nil) hl152 .none rfl ?_
     intro v153 xs154 hch155
     refine JL.assign .none rfl ?_
     refine JL.done hQ ?_
     obtain rfl := Option.some.inj hF
     refine JQ.mask [false, true] [true] ?_
     exact JQ.join l152 ⟨v153, xs154, rfl, rfl, rfl, rfl, rfl, hch155, (HSub.refl _), rfl⟩
    ·refine JC.cond_f (b := y140) rfl hc150 ?_
     refine JC.skip ?_
     obtain rfl := Option.some.inj hF
     exact JQ.join out_135 ⟨vout_135, xsout_135, rfl, rfl, rfl, rfl, rfl, hout_135, (HSub.refl _), rfl⟩
   ·rintro out_147 H148 f bs gs ⟨vout_147, xsout_147, hf1, hf3, hf4, rfl, rfl, hout_147, hs148, rfl⟩
    have hF := hKr149
    try dsimp only at hF
    refine (JQ.norm (i := 1) hf1 (JQ.norm (i := 3) hf3 (JQ.norm (i := 4) hf4 ?_)))
    refine JQ.normal_block (JQ.go (JC.region (by rfl) ?_))
    intro hQ
    refine JL.move .none rfl ?_
    refine JL.bin rfl rfl rfl .none rfl ?_
    refine JL.assign .none rfl ?_
    refine JL.done hQ ?_
    obtain rfl := Option.some.inj hF
    exact JQ.next rfl ⟨vout_147, xsout_147, rfl, rfl, rfl, rfl, rfl, hout_147, (HSub.trans hs136 hs148)⟩
  ·refine JC.cond_f (b := decide (s_134 ≤ b.Stretch.High)) rfl hc139 ?_
   refine JC.exit (JQ.exit_then (JQ.exit_then (JQ.exit_block ?_)))
   obtain rfl := Option.some.inj hF
   have ehr137 := hr137 _ rfl
   subst ehr137
   refine JQ.mask [false] [true] ?_
   exact JQ.join out_135 ⟨vout_135, xsout_135, rfl, rfl, rfl, hout_135, hs136, rfl⟩
 ·rintro out_91 H92 f bs gs ⟨vout_91, xsout_91, hf3, rfl, rfl, hout_91, hs92, rfl⟩
  have hF := hKr93
  try dsimp only at hF
  refine (JQ.norm (i := 3) hf3 ?_)
  refine JQ.go (JC.seq (JC.region (by rfl) ?_))
  intro hQ
  refine JL.move .none rfl ?_
  refine JL.assign .none rfl ?_
  refine JL.done hQ (JQ.go (JC.ret (JQ.freezeG 0 (R := RInt) rfl RInt.mono hout_91 rfl ?_)))
  intro H156 hs156 hg157
  obtain rfl := Option.some.inj hF
  exact JQ.outH rfl (.tmp .nil) hg157
-- 189 ferrule/ferruleref02.truths
def F_ref02_truths_s1 (n : Nat) (rec : Dome → List Int → Option (List (List Int))) (d : Dome) (first : List Int) (y15 : (List Int)) : Int × List (List Int) → Option ((Int × List (List Int)) ⊕ (List (List Int)))
 | (i_570, out_571) => if decide (i_570 < (y15.length : Int)) = true then ((lim (([] : List Int) ++ first)).bind fun l578 => (geti y15 i_570).bind fun y582 => (lim (l578 ++ [y582])).bind fun l588 => (rec d l588).bind fun y594 => (lim (out_571 ++ y594)).bind fun l596 => some (Sum.inl ((w64 (i_570 + 1)), l596))) else (some (Sum.inr out_571))
def F_ref02_truths : Nat → Dome → List Int → Option (List (List Int))
 | 0, _, _ => none
 | n + 1, d, first => (fun rec => if ((first.length : Int) == (d.Bolts.length : Int)) = true then (some [first]) else ((geti d.Bolts (first.length : Int)).bind fun y10 => (F_ref02_numbers n y10).bind fun y15 => (loopO n (F_ref02_truths_s1 n rec d first y15) (0, ([] : List (List Int)))).bind fun out_385 => some out_385)) (F_ref02_truths n)
theorem c_ref02_truths (n : Nat) : ∀ (H : Hp) (d : Dome) (d_v0 : Value) (hd_0 : SL H 4 R_Bolt d_v0 d.Bolts) (d_v1 : Value) (hd_1 : SL H 1 RInt d_v1 d.Gores) (d_v3 : Value) (hd_3 : SL H 2 R_Span d_v3 d.Rounds) (d_v4 : Value) (hd_4 : SL H 1 RInt d_v4 d.Widths) (first : List Int) (first_v0 : Value) (hfirst_0 : SL H 1 RInt first_v0 first) (y : (List (List Int))) (hF : F_ref02_truths n d first = some y), HC Try.prog 189 [.agg [d_v0, d_v1, .int .i64 d.Loss, d_v3, d_v4, .int .i64 d.Slope].toArray, first_v0] H (fun H' ra_v0 => SL H' 1 (RSl 1 RInt) ra_v0 y) := by
 induction n with
 | zero => intro H d d_v0 hd_0 d_v1 hd_1 d_v3 hd_3 d_v4 hd_4 first first_v0 hfirst_0 y hF; simp [F_ref02_truths] at hF
 | succ n ih =>
 intro H d d_v0 hd_0 d_v1 hd_1 d_v3 hd_3 d_v4 hd_4 first first_v0 hfirst_0 y hF
 rw [F_ref02_truths] at hF
 dsimp only at hF
 refine HC.of (N := 43) Try.func189 rfl rfl rfl fun w => ?_
 refine JC.seq (JC.region (by rfl) ?_)
 intro hQ
 refine JL.box (cs := [d_v0, d_v1, .int .i64 d.Loss, d_v3, d_v4, .int .i64 d.Slope]) rfl .none rfl ?_
 intro b1
 refine JL.assign .none rfl ?_
 refine JL.done hQ (JQ.go (JC.seq (JC.seq (JC.region (by rfl) ?_))))
 intro hQ
 refine JL.move .none rfl ?_
 refine JL.lenSL (R := RInt) ul_23 hfirst_0 .none rfl ?_
 refine JL.fieldAddr fo_26_0 rfl .none rfl ?_
 refine JL.loadOwn 0 az_22 rfl rfl rfl .none rfl ?_
 refine JL.lenSL (R := R_Bolt) ul_22 hd_0 .none rfl ?_
 refine JL.bin rfl rfl rfl .none rfl ?_
 refine JL.done hQ (JQ.go ?_)
 rcases ite_some hF with ⟨hc2, hF⟩ | ⟨hc2, hF⟩
 ·refine JC.cond_t (b := ((first.length : Int) == (d.Bolts.length : Int))) rfl hc2 ?_
  refine JC.seq (JC.region (by rfl) ?_)
  intro hQ
  refine JL.move .none rfl ?_
  obtain ⟨a3, c4, rfl, hh5⟩ := hfirst_0
  have hfirst_0 : SL H 1 RInt (.slice a3 first.length c4) first := ⟨a3, c4, rfl, hh5⟩
  refine JL.buildSlice (e := 23) (l := [(.slice a3 first.length c4)]) (by kernel_rfl) .none rfl ?_
  intro b6
  refine JL.assign .none rfl ?_
  refine JL.done hQ (JQ.go (JC.ret (JQ.ret_then (JQ.freezeC 0 (l := [(.slice a3 first.length c4)]) rfl ?_))))
  intro H7 hs7 hc8
  have hg9 : SL H7 1 (RSl 1 RInt) (.slice (some ⟨b6, 0, none⟩) 1 1) [first] := CH.sl (l := [first]) (CH.cons (cs := [(.slice a3 first.length c4)]) rfl ⟨_, rfl, (SL.mono RInt.mono hs7 hfirst_0)⟩ CH.nil) hc8 ⟨by simp, by simp⟩
  obtain rfl := Option.some.inj hF
  exact JQ.outH rfl (.tmp .nil) hg9
 ·refine JC.cond_f (b := ((first.length : Int) == (d.Bolts.length : Int))) rfl hc2 ?_
  refine JC.skip (JQ.go (JC.seq (JC.region (by rfl) ?_)))
  intro hQ
  refine JL.assign .none rfl ?_
  refine JL.done hQ (JQ.go (JC.seq (JC.region (by rfl) ?_)))
  intro hQ
  refine JL.fieldAddr fo_26_0 rfl .none rfl ?_
  refine JL.loadOwn 0 az_22 rfl rfl rfl .none rfl ?_
  refine JL.move .none rfl ?_
  refine JL.lenSL (R := RInt) ul_23 hfirst_0 .none rfl ?_
  obtain ⟨y10, hy10, hF⟩ := bind_some hF
  refine JL.indexSL (R := R_Bolt) sl_22 hd_0 rfl hy10 .none rfl ?_
  rintro b11 o12 cs13 hc14 - ⟨y10_v2, rfl, hy10_2⟩
  refine JL.loadH 0 az_179 rfl hc14 rfl .none rfl ?_
  obtain ⟨y15, hy15, hF⟩ := bind_some hF
  refine JL.callH (c_ref02_numbers n H y10 y10_v2 hy10_2 y15 hy15) rfl en_159 .none rfl ?_
  intro H16 y15a_v0 hs16 hy15a_0
  refine JL.assign .none rfl ?_
  refine JL.done hQ (JQ.go (JC.fresh (fun f => f 1 = first_v0 ∧ f 2 = .pointer (some ⟨b1, 0, none⟩) ∧ f 4 = .slice none 0 0 ∧ f 5 = .slice none 0 0 ∧ f 6 = y15a_v0) ⟨rfl, rfl, rfl, rfl, rfl⟩ ?_))
  rintro f ⟨hf1, hf2, hf4, hf5, hf6⟩
  refine (JC.norm (i := 1) hf1 (JC.norm (i := 2) hf2 (JC.norm (i := 4) hf4 (JC.norm (i := 5) hf5 (JC.norm (i := 6) hf6 ?_)))))
  refine JC.seq (JC.seq (JC.region (by rfl) ?_))
  intro hQ
  refine JL.assign .none rfl ?_
  refine JL.done hQ (JQ.go (JC.newNil (e := 23) (sz := 1) ?_))
  obtain ⟨r387, hlr387, hKr387⟩ := bind_some hF
  refine JC.join (fun (out_385 : List (List Int)) H386 f bs gs => ∃ (vout_385 : Value) (xsout_385 : List Value), f 5 = vout_385 ∧ bs = [] ∧ gs = [⟨vout_385, 23, 1, out_385.length, xsout_385⟩] ∧ CH H386 1 (RSl 1 RInt) xsout_385 out_385 ∧ HSub H16 H386 ∧ out_385 = r387) ?_ ?_
  ·skip
   refine JC.block (JC.loop hlr387 (fun (x : Int × List (List Int)) H572 f bs gs => match x with | (i_570, out_571) => ∃ (vout_571 : Value) (xsout_571 : List Value), f 1 = first_v0 ∧ f 2 = .pointer (some ⟨b1, 0, none⟩) ∧ f 5 = vout_571 ∧ f 6 = y15a_v0 ∧ f 7 = .int .i64 i_570 ∧ bs = [(b1, .cells [d_v0, d_v1, .int .i64 d.Loss, d_v3, d_v4, .int .i64 d.Slope].toArray 26)] ∧ gs = [⟨vout_571, 23, 1, out_571.length, xsout_571⟩] ∧ CH H572 1 (RSl 1 RInt) xsout_571 out_571 ∧ HSub H16 H572) ⟨(.slice none 0 0), [], rfl, rfl, rfl, rfl, rfl, rfl, rfl, CH.nil, (HSub.refl _)⟩ ?_)
   rintro ⟨i_570, out_571⟩ x574 H572 f bs gs ⟨vout_571, xsout_571, hf1, hf2, hf5, hf6, hf7, rfl, rfl, hout_571, hs572⟩ hF hr573
   rw [F_ref02_truths_s1] at hF
   refine (JC.norm (i := 1) hf1 (JC.norm (i := 2) hf2 (JC.norm (i := 5) hf5 (JC.norm (i := 6) hf6 (JC.norm (i := 7) hf7 ?_)))))
   refine JC.seq (JC.seq (JC.region (by rfl) ?_))
   intro hQ
   refine JL.move .none rfl ?_
   refine JL.move .none rfl ?_
   refine JL.lenSL (R := RInt) ul_23 (SL.mono RInt.mono hs572 hy15a_0) .none rfl ?_
   refine JL.bin rfl rfl rfl .none rfl ?_
   refine JL.done hQ (JQ.go ?_)
   rcases ite_some hF with ⟨hc575, hF⟩ | ⟨hc575, hF⟩
   ·refine JC.cond_t (b := decide (i_570 < (y15.length : Int))) rfl hc575 ?_
    refine JC.skip (JQ.go (JC.seq (JC.block ?_)))
    obtain ⟨l578, hl578, hF⟩ := bind_some hF
    obtain ⟨y582, hy582, hF⟩ := bind_some hF
    obtain ⟨l588, hl588, hF⟩ := bind_some hF
    obtain ⟨y594, hy594, hF⟩ := bind_some hF
    obtain ⟨l596, hl596, hF⟩ := bind_some hF
    refine JC.mixed 14 14 #[false, false, false, false, false, false, false, false, false, false, false, false, false, false] [(b1, .cells [d_v0, d_v1, .int .i64 d.Loss, d_v3, d_v4, .int .i64 d.Slope].toArray 26)] (by rfl) mo_ (by kernel_rfl) (by kernel_rfl) ?_
    intro hQ hE
    refine JA.cut 4 #[true, true, true, true, true, true, true, true, true, true, false, false, false, false] (fun H630 f bs gs => ∃ (b617 : Nat) (v611 : Value) (xs612 : List Value), f 1 = first_v0 ∧ f 2 = .pointer (some ⟨b1, 0, none⟩) ∧ f 5 = vout_571 ∧ f 6 = y15a_v0 ∧ f 7 = .int .i64 i_570 ∧ f 29 = vout_571 ∧ f 30 = .agg [d_v0, d_v1, .int .i64 d.Loss, d_v3, d_v4, .int .i64 d.Slope].toArray ∧ f 33 = v611 ∧ f 38 = .slice (some ⟨b617, 0, none⟩) 1 1 ∧ bs = [(b617, .cells [.int .i64 y582].toArray 3), (b1, .cells [d_v0, d_v1, .int .i64 d.Loss, d_v3, d_v4, .int .i64 d.Slope].toArray 26)] ∧ gs = [⟨v611, 3, 1, l578.length, xs612⟩, ⟨vout_571, 23, 1, out_571.length, xsout_571⟩] ∧ CH H630 1 RInt xs612 l578 ∧ HSub H572 H630) ?_ ?_
    ·rintro H630 f bs gs ⟨b617, v611, xs612, hf1, hf2, hf5, hf6, hf7, hf29, hf30, hf33, hf38, rfl, rfl, hm631, hs630⟩
     refine (JA.norm (i := 1) hf1 (JA.norm (i := 2) hf2 (JA.norm (i := 5) hf5 (JA.norm (i := 6) hf6 (JA.norm (i := 7) hf7 (JA.norm (i := 29) hf29 (JA.norm (i := 30) hf30 (JA.norm (i := 33) hf33 (JA.norm (i := 38) hf38 ?_)))))))))
     refine JA.many [10] (by kernel_rfl) (by simp) (all_one ⟨_, #[true, true, true, true, true, true, true, true, true, true, true, false, false, false], rfl, (by kernel_rfl), ?_⟩)
     refine JL.appO (R := RInt) 0 0 (l := l578) (m := [y582]) ap_23 rfl ⟨rfl, rfl⟩ rfl hm631 rfl rfl rfl (CH.cons (cs := [.int .i64 y582]) rfl rfl CH.nil) rfl (one_cons rfl one_nil) hl588 .none rfl ?_
     intro v632 xs633 hch634
     refine JA.after hE hs630 (.cons _ (.cons_cons _ (List.nil_sublist _))) ?_
     refine JA.many [11] (by kernel_rfl) (by simp) (all_one ⟨_, #[true, true, true, true, true, true, true, true, true, true, true, true, false, false], rfl, (by kernel_rfl), ?_⟩)
     refine JL.freezeG 0 (R := RInt) rfl RInt.mono hch634 rfl ?_
     intro H635 hs635 hg636
     refine JL.callH (ih H635 d d_v0 (SL.mono R_Bolt_mono (HSub.trans hs16 (HSub.trans hs572 (HSub.trans hs630 hs635))) hd_0) d_v1 (SL.mono RInt.mono (HSub.trans hs16 (HSub.trans hs572 (HSub.trans hs630 hs635))) hd_1) d_v3 (SL.mono R_Span_mono (HSub.trans hs16 (HSub.trans hs572 (HSub.trans hs630 hs635))) hd_3) d_v4 (SL.mono RInt.mono (HSub.trans hs16 (HSub.trans hs572 (HSub.trans hs630 hs635))) hd_4) l588 v632 hg636 y594 hy594) rfl en_189 .none rfl ?_
     intro H637 y594a_v0 hs637 hy594a_0
     refine JA.after hE (HSub.trans hs630 (HSub.trans hs635 hs637)) (.cons _ (.cons_cons _ (List.nil_sublist _))) ?_
     refine JA.many [12] (by kernel_rfl) (by simp) (all_one ⟨_, #[true, true, true, true, true, true, true, true, true, true, true, true, true, false], rfl, (by kernel_rfl), ?_⟩)
     refine JL.appD (R := (RSl 1 RInt)) 0 (l := out_571) (m := y594) ap_115 rfl ⟨rfl, rfl⟩ rfl (CH.mono (RSl.mono RInt.mono) (HSub.trans hs630 (HSub.trans hs635 hs637)) hout_571) rfl hy594a_0 (RSl.one _) hl596 .none rfl ?_
     intro v638 xs639 hch640
     refine JA.after hE (HSub.trans hs630 (HSub.trans hs635 hs637)) (.cons _ (.cons_cons _ (List.nil_sublist _))) ?_
     refine JA.take 13 (listed' := #[true, true, true, true, true, true, true, true, true, true, true, true, true, true]) hQ rfl (by kernel_rfl) (by kernel_rfl) (by kernel_rfl) (by kernel_rfl) (by kernel_rfl) hE (HSub.trans hs630 (HSub.trans hs635 hs637)) (.cons _ (.cons_cons _ (List.nil_sublist _))) ?_
     refine JL.assign .none rfl ?_
     refine JA.cont ?_
     refine JA.done hQ (by kernel_rfl) ?_
     refine JQ.normal_block (JQ.go (JC.region (by rfl) ?_))
     intro hQ
     refine JL.move .none rfl ?_
     refine JL.bin rfl rfl rfl .none rfl ?_
     refine JL.assign .none rfl ?_
     refine JL.done hQ ?_
     obtain rfl := Option.some.inj hF
     refine JQ.mask [false, true] [true] ?_
     exact JQ.next rfl ⟨v638, xs639, rfl, rfl, rfl, rfl, rfl, rfl, rfl, hch640, (HSub.trans hs572 (HSub.trans hs630 (HSub.trans hs635 hs637)))⟩
    intro nd629_0
    refine JA.cut 5 #[true, true, true, true, false, true, true, true, true, true, false, false, false, false] (fun H641 f bs gs => ∃ (b614 : Nat) (v608 : Value), f 1 = first_v0 ∧ f 2 = .pointer (some ⟨b1, 0, none⟩) ∧ f 5 = vout_571 ∧ f 6 = y15a_v0 ∧ f 7 = .int .i64 i_570 ∧ f 29 = vout_571 ∧ f 30 = .agg [d_v0, d_v1, .int .i64 d.Loss, d_v3, d_v4, .int .i64 d.Slope].toArray ∧ f 31 = v608 ∧ f 32 = first_v0 ∧ f 38 = .slice (some ⟨b614, 0, none⟩) 1 1 ∧ bs = [(b614, .cells [.int .i64 y582].toArray 3), (b1, .cells [d_v0, d_v1, .int .i64 d.Loss, d_v3, d_v4, .int .i64 d.Slope].toArray 26)] ∧ gs = [⟨v608, 3, 1, 0, []⟩, ⟨vout_571, 23, 1, out_571.length, xsout_571⟩] ∧ HSub H572 H641) ?_ ?_
    ·rintro H641 f bs gs ⟨b614, v608, hf1, hf2, hf5, hf6, hf7, hf29, hf30, hf31, hf32, hf38, rfl, rfl, hs641⟩
     refine (JA.norm (i := 1) hf1 (JA.norm (i := 2) hf2 (JA.norm (i := 5) hf5 (JA.norm (i := 6) hf6 (JA.norm (i := 7) hf7 (JA.norm (i := 29) hf29 (JA.norm (i := 30) hf30 (JA.norm (i := 31) hf31 (JA.norm (i := 32) hf32 (JA.norm (i := 38) hf38 ?_))))))))))
     refine JA.many [4] (by kernel_rfl) (by simp) (all_one ⟨_, #[true, true, true, true, true, true, true, true, true, true, false, false, false, false], rfl, (by kernel_rfl), ?_⟩)
     refine JL.appD (R := RInt) 0 (l := ([] : List Int)) (m := first) ap_23 rfl ⟨rfl, rfl⟩ rfl CH.nil rfl (SL.mono RInt.mono (HSub.trans hs16 (HSub.trans hs572 hs641)) hfirst_0) (RInt.one _) hl578 .none rfl ?_
     intro v642 xs643 hch644
     refine JA.after hE hs641 (.cons _ (.cons_cons _ (List.nil_sublist _))) ?_
     exact nd629_0 _ _ _ _ ⟨b614, v642, xs643, rfl, rfl, rfl, rfl, rfl, rfl, rfl, rfl, rfl, rfl, rfl, hch644, hs641⟩
    intro nd629_1
    refine JA.take 0 (listed' := #[true, false, false, false, false, false, false, false, false, false, false, false, false, false]) hQ rfl (by kernel_rfl) (by kernel_rfl) (by kernel_rfl) (by kernel_rfl) (by kernel_rfl) hE (HSub.refl _) (.cons_cons _ (List.nil_sublist _)) ?_
    refine JL.move .none rfl ?_
    refine JA.cont ?_
    refine JA.take 1 (listed' := #[true, true, false, false, false, false, false, false, false, false, false, false, false, false]) hQ rfl (by kernel_rfl) (by kernel_rfl) (by kernel_rfl) (by kernel_rfl) (by kernel_rfl) hE (HSub.refl _) (.cons_cons _ (List.nil_sublist _)) ?_
    refine JL.loadOwn 0 az_26 rfl rfl rfl .none rfl ?_
    refine JA.cont ?_
    refine JA.take 3 (listed' := #[true, true, false, true, false, false, false, false, false, false, false, false, false, false]) hQ rfl (by kernel_rfl) (by kernel_rfl) (by kernel_rfl) (by kernel_rfl) (by kernel_rfl) hE (HSub.refl _) (.cons_cons _ (List.nil_sublist _)) ?_
    refine JL.move .none rfl ?_
    refine JA.cont ?_
    refine JA.take 5 (listed' := #[true, true, false, true, false, true, false, false, false, false, false, false, false, false]) hQ rfl (by kernel_rfl) (by kernel_rfl) (by kernel_rfl) (by kernel_rfl) (by kernel_rfl) hE (HSub.refl _) (.cons_cons _ (List.nil_sublist _)) ?_
    refine JL.move .none rfl ?_
    refine JA.cont ?_
    refine JA.take 6 (listed' := #[true, true, false, true, false, true, true, false, false, false, false, false, false, false]) hQ rfl (by kernel_rfl) (by kernel_rfl) (by kernel_rfl) (by kernel_rfl) (by kernel_rfl) hE (HSub.refl _) (.cons_cons _ (List.nil_sublist _)) ?_
    refine JL.move .none rfl ?_
    refine JA.cont ?_
    refine JA.take 7 (listed' := #[true, true, false, true, false, true, true, true, false, false, false, false, false, false]) hQ rfl (by kernel_rfl) (by kernel_rfl) (by kernel_rfl) (by kernel_rfl) (by kernel_rfl) hE (HSub.refl _) (.cons_cons _ (List.nil_sublist _)) ?_
    refine JL.indexSL (R := RInt) sl_23 (SL.mono RInt.mono hs572 hy15a_0) rfl hy582 .none rfl ?_
    rintro b649 o650 cs651 hc652 - rfl
    refine JA.cont ?_
    refine JA.take 8 (listed' := #[true, true, false, true, false, true, true, true, true, false, false, false, false, false]) hQ rfl (by kernel_rfl) (by kernel_rfl) (by kernel_rfl) (by kernel_rfl) (by kernel_rfl) hE (HSub.refl _) (.cons_cons _ (List.nil_sublist _)) ?_
    refine JL.loadH 0 az_3 rfl hc652 rfl .none rfl ?_
    refine JA.cont ?_
    refine JA.many [2, 9] (by kernel_rfl) (by simp) (all_cons ⟨_, #[true, true, true, true, false, true, true, true, true, false, false, false, false, false], rfl, (by kernel_rfl), ?_⟩ (all_one ⟨_, #[true, true, false, true, false, true, true, true, true, true, false, false, false, false], rfl, (by kernel_rfl), ?_⟩))
    ·skip
     refine JL.emptySlice ap_23 .none rfl ?_
     intro v653
     refine JA.after hE (HSub.refl _) (.cons_cons _ (List.nil_sublist _)) ?_
     refine JA.many [4, 9] (by kernel_rfl) (by simp) (all_cons ⟨_, #[true, true, true, true, true, true, true, true, true, false, false, false, false, false], rfl, (by kernel_rfl), ?_⟩ (all_one ⟨_, #[true, true, true, true, false, true, true, true, true, true, false, false, false, false], rfl, (by kernel_rfl), ?_⟩))
     ·skip
      refine JL.appD (R := RInt) 0 (l := ([] : List Int)) (m := first) ap_23 rfl ⟨rfl, rfl⟩ rfl CH.nil rfl (SL.mono RInt.mono (HSub.trans hs16 hs572) hfirst_0) (RInt.one _) hl578 .none rfl ?_
      intro v655 xs656 hch657
      refine JA.after hE (HSub.refl _) (.cons_cons _ (List.nil_sublist _)) ?_
      refine JA.many [9] (by kernel_rfl) (by simp) (all_one ⟨_, #[true, true, true, true, true, true, true, true, true, true, false, false, false, false], rfl, (by kernel_rfl), ?_⟩)
      refine JL.buildSlice (e := 3) (l := [.int .i64 y582]) (by kernel_rfl) .none rfl ?_
      intro b658
      refine JA.after hE (HSub.refl _) (.cons _ (.cons_cons _ (List.nil_sublist _))) ?_
      exact nd629_0 _ _ _ _ ⟨b658, v655, xs656, rfl, rfl, rfl, rfl, rfl, rfl, rfl, rfl, rfl, rfl, rfl, hch657, (HSub.refl _)⟩
     ·skip
      refine JL.buildSlice (e := 3) (l := [.int .i64 y582]) (by kernel_rfl) .none rfl ?_
      intro b659
      refine JA.after hE (HSub.refl _) (.cons _ (.cons_cons _ (List.nil_sublist _))) ?_
      exact nd629_1 _ _ _ _ ⟨b659, v653, rfl, rfl, rfl, rfl, rfl, rfl, rfl, rfl, rfl, rfl, rfl, rfl, (HSub.refl _)⟩
    ·skip
     refine JL.buildSlice (e := 3) (l := [.int .i64 y582]) (by kernel_rfl) .none rfl ?_
     intro b660
     refine JA.after hE (HSub.refl _) (.cons _ (.cons_cons _ (List.nil_sublist _))) ?_
     refine JA.many [2] (by kernel_rfl) (by simp) (all_one ⟨_, #[true, true, true, true, false, true, true, true, true, true, false, false, false, false], rfl, (by kernel_rfl), ?_⟩)
     refine JL.emptySlice ap_23 .none rfl ?_
     intro v661
     refine JA.after hE (HSub.refl _) (.cons _ (.cons_cons _ (List.nil_sublist _))) ?_
     exact nd629_1 _ _ _ _ ⟨b660, v661, rfl, rfl, rfl, rfl, rfl, rfl, rfl, rfl, rfl, rfl, rfl, rfl, (HSub.refl _)⟩
   ·refine JC.cond_f (b := decide (i_570 < (y15.length : Int))) rfl hc575 ?_
    refine JC.exit (JQ.exit_then (JQ.exit_then (JQ.exit_block ?_)))
    obtain rfl := Option.some.inj hF
    have ehr573 := hr573 _ rfl
    subst ehr573
    refine JQ.mask [false] [true] ?_
    exact JQ.join out_571 ⟨vout_571, xsout_571, rfl, rfl, rfl, hout_571, hs572, rfl⟩
  ·rintro out_385 H386 f bs gs ⟨vout_385, xsout_385, hf5, rfl, rfl, hout_385, hs386, rfl⟩
   have hF := hKr387
   try dsimp only at hF
   refine (JQ.norm (i := 5) hf5 ?_)
   refine JQ.go (JC.seq (JC.region (by rfl) ?_))
   intro hQ
   refine JL.move .none rfl ?_
   refine JL.assign .none rfl ?_
   refine JL.done hQ (JQ.go (JC.ret (JQ.freezeG 0 (R := (RSl 1 RInt)) rfl (RSl.mono RInt.mono) hout_385 rfl ?_)))
   intro H663 hs663 hg664
   obtain rfl := Option.some.inj hF
   exact JQ.outH rfl (.tmp .nil) hg664
-- 158 ferrule/ferruleref02.known
def F_ref02_known (n : Nat) (d : Dome) (bolt : Int) (row : Int) : Option ((List (List Int)) × Int) :=
 (F_ref02_Check n d).bind fun y2 => if (y2 != 0) = true then (some (([] : List (List Int)), y2)) else ((F_ref02_within n bolt 0 (w64 ((d.Bolts.length : Int) - 1))).bind fun y4 => (if (!y4) = true then (some true) else ((F_ref02_within n row 0 (w64 ((d.Rounds.length : Int) - 1))).bind fun y9 => some (!y9)) : Option Bool).bind fun p6 => if p6 = true then (some (([] : List (List Int)), 1)) else ((F_ref02_truths n d ([] : List Int)).bind fun y11 => if ((y11.length : Int) == 0) = true then (some (([] : List (List Int)), 3)) else (some (y11, 0))))
theorem c_ref02_known (n : Nat) (H : Hp) (d : Dome) (d_v0 : Value) (hd_0 : SL H 4 R_Bolt d_v0 d.Bolts) (d_v1 : Value) (hd_1 : SL H 1 RInt d_v1 d.Gores) (d_v3 : Value) (hd_3 : SL H 2 R_Span d_v3 d.Rounds) (d_v4 : Value) (hd_4 : SL H 1 RInt d_v4 d.Widths) (bolt : Int) (row : Int) (y : (List (List Int)) × Int) (hF : F_ref02_known n d bolt row = some y) : HC Try.prog 158 [.agg [d_v0, d_v1, .int .i64 d.Loss, d_v3, d_v4, .int .i64 d.Slope].toArray, .int .i64 bolt, .int .i64 row] H (fun H' v => ∃ ra_v0 : Value, v = .tuple [ra_v0, .int .i64 y.2].toArray ∧ SL H' 1 (RSl 1 RInt) ra_v0 y.1) := by
 rw [F_ref02_known] at hF
 refine HC.of (N := 37) Try.func158 rfl rfl rfl fun w => ?_
 refine JC.seq (JC.region (by rfl) ?_)
 intro hQ
 refine JL.box (cs := [d_v0, d_v1, .int .i64 d.Loss, d_v3, d_v4, .int .i64 d.Slope]) rfl .none rfl ?_
 intro b1
 refine JL.assign .none rfl ?_
 refine JL.assign .none rfl ?_
 refine JL.done hQ (JQ.go (JC.seq (JC.seq (JC.region (by rfl) ?_))))
 intro hQ
 refine JL.loadOwn 0 az_26 rfl rfl rfl .none rfl ?_
 obtain ⟨y2, hy2, hF⟩ := bind_some hF
 refine JL.callS (c_ref02_Check n H d d_v0 hd_0 d_v1 hd_1 d_v3 hd_3 d_v4 hd_4 y2 hy2) rfl en_103 .none rfl ?_
 refine JL.assign .none rfl ?_
 refine JL.done hQ (JQ.go (JC.seq (JC.region (by rfl) ?_)))
 intro hQ
 refine JL.move .none rfl ?_
 refine JL.bin rfl rfl rfl .none rfl ?_
 refine JL.done hQ (JQ.go ?_)
 rcases ite_some hF with ⟨hc3, hF⟩ | ⟨hc3, hF⟩
 ·refine JC.cond_t (b := (y2 != 0)) rfl hc3 ?_
  refine JC.seq (JC.region (by rfl) ?_)
  intro hQ
  refine JL.move .none rfl ?_
  refine JL.assign .none rfl ?_
  refine JL.assign .none rfl ?_
  refine JL.done hQ (JQ.go (JC.ret (JQ.ret_then ?_)))
  obtain rfl := Option.some.inj hF
  exact JQ.outH rfl (.tmp (.tmp .nil)) ⟨(.slice none 0 0), rfl, SL.nil⟩
 ·refine JC.cond_f (b := (y2 != 0)) rfl hc3 ?_
  refine JC.skip (JQ.go (JC.seq (JC.seq (JC.region (by rfl) ?_))))
  intro hQ
  refine JL.move .none rfl ?_
  refine JL.fieldAddr fo_26_0 rfl .none rfl ?_
  refine JL.loadOwn 0 az_22 rfl rfl rfl .none rfl ?_
  refine JL.lenSL (R := R_Bolt) ul_22 hd_0 .none rfl ?_
  refine JL.bin rfl rfl rfl .none rfl ?_
  obtain ⟨y4, hy4, hF⟩ := bind_some hF
  refine JL.callS (c_ref02_within n H bolt 0 (w64 ((d.Bolts.length : Int) - 1)) y4 hy4) rfl en_155 .none rfl ?_
  refine JL.not rfl .none rfl ?_
  refine JL.move .none rfl ?_
  obtain ⟨p6, hp6, hF⟩ := bind_some hF
  refine JL.cut 8 (fun f => f 3 = .pointer (some ⟨b1, 0, none⟩) ∧ f 30 = .bool p6) ?_ ?_
  ·intro hJ7
   rcases ite_some hp6 with ⟨hc8, hF⟩ | ⟨hc8, hF⟩
   ·skip
    refine JL.skip (.bool rfl rfl rfl hc8) rfl ?_
    refine JL.skip (.bool rfl rfl rfl hc8) rfl ?_
    refine JL.skip (.bool rfl rfl rfl hc8) rfl ?_
    refine JL.skip (.bool rfl rfl rfl hc8) rfl ?_
    refine JL.skip (.bool rfl rfl rfl hc8) rfl ?_
    refine JL.skip (.bool rfl rfl rfl hc8) rfl ?_
    refine JL.skip (.bool rfl rfl rfl hc8) rfl ?_
    refine JL.pick_t (b := (!y4)) rfl hc8 .none rfl ?_
    obtain rfl := Option.some.inj hF
    exact hJ7 _ ⟨rfl, rfl⟩
   ·skip
    refine JL.move (.some rfl rfl rfl hc8) rfl ?_
    refine JL.fieldAddr fo_26_3 rfl (.some rfl rfl rfl hc8) rfl ?_
    refine JL.loadOwn 0 az_24 rfl rfl rfl (.some rfl rfl rfl hc8) rfl ?_
    refine JL.lenSL (R := R_Span) ul_24 hd_3 (.some rfl rfl rfl hc8) rfl ?_
    refine JL.bin rfl rfl rfl (.some rfl rfl rfl hc8) rfl ?_
    obtain ⟨y9, hy9, hF⟩ := bind_some hF
    refine JL.callS (c_ref02_within n H row 0 (w64 ((d.Rounds.length : Int) - 1)) y9 hy9) rfl en_155 (.some rfl rfl rfl hc8) rfl ?_
    refine JL.not rfl (.some rfl rfl rfl hc8) rfl ?_
    refine JL.pick_f (b := (!y4)) rfl hc8 .none rfl ?_
    obtain rfl := Option.some.inj hF
    exact hJ7 _ ⟨rfl, rfl⟩
  ·rintro f ⟨hf3, hf30⟩
   refine (JL.norm (i := 3) hf3 (JL.norm (i := 30) hf30 ?_))
   refine JL.done hQ (JQ.go ?_)
   rcases ite_some hF with ⟨hc10, hF⟩ | ⟨hc10, hF⟩
   ·refine JC.cond_t (b := p6) rfl hc10 ?_
    refine JC.seq (JC.region (by rfl) ?_)
    intro hQ
    refine JL.assign .none rfl ?_
    refine JL.assign .none rfl ?_
    refine JL.done hQ (JQ.go (JC.ret (JQ.ret_then ?_)))
    obtain rfl := Option.some.inj hF
    exact JQ.outH rfl (.tmp (.tmp .nil)) ⟨(.slice none 0 0), rfl, SL.nil⟩
   ·refine JC.cond_f (b := p6) rfl hc10 ?_
    refine JC.skip (JQ.go (JC.seq (JC.region (by rfl) ?_)))
    intro hQ
    refine JL.loadOwn 0 az_26 rfl rfl rfl .none rfl ?_
    obtain ⟨y11, hy11, hF⟩ := bind_some hF
    refine JL.callH (c_ref02_truths n H d d_v0 hd_0 d_v1 hd_1 d_v3 hd_3 d_v4 hd_4 ([] : List Int) (.slice none 0 0) SL.nil y11 hy11) rfl en_189 .none rfl ?_
    intro H12 y11a_v0 hs12 hy11a_0
    refine JL.assign .none rfl ?_
    refine JL.done hQ (JQ.go (JC.seq (JC.seq (JC.region (by rfl) ?_))))
    intro hQ
    refine JL.move .none rfl ?_
    refine JL.lenSL (R := (RSl 1 RInt)) ul_115 hy11a_0 .none rfl ?_
    refine JL.bin rfl rfl rfl .none rfl ?_
    refine JL.done hQ (JQ.go ?_)
    rcases ite_some hF with ⟨hc13, hF⟩ | ⟨hc13, hF⟩
    ·refine JC.cond_t (b := ((y11.length : Int) == 0)) rfl hc13 ?_
     refine JC.seq (JC.region (by rfl) ?_)
     intro hQ
     refine JL.assign .none rfl ?_
     refine JL.assign .none rfl ?_
     refine JL.done hQ (JQ.go (JC.ret (JQ.ret_then ?_)))
     obtain rfl := Option.some.inj hF
     exact JQ.outH rfl (.tmp (.tmp .nil)) ⟨(.slice none 0 0), rfl, SL.nil⟩
    ·refine JC.cond_f (b := ((y11.length : Int) == 0)) rfl hc13 ?_
     refine JC.skip (JQ.go (JC.seq (JC.region (by rfl) ?_)))
     intro hQ
     refine JL.move .none rfl ?_
     refine JL.assign .none rfl ?_
     refine JL.assign .none rfl ?_
     refine JL.done hQ (JQ.go (JC.ret ?_))
     obtain rfl := Option.some.inj hF
     exact JQ.outH rfl (.tmp (.tmp .nil)) ⟨y11a_v0, rfl, hy11a_0⟩
end Go.Proofs.Yteihdclpiekmaaa
end
section
set_option maxRecDepth 100000
set_option maxHeartbeats 40000000
namespace Go.Proofs.Yteihdclpiekmaaa
open Go Go.RowKit Go.Dec
set_option linter.unusedVariables false
-- 105 ferrule/ferruleref02.Stretches
def F_ref02_Stretches (n : Nat) (d : Dome) (bolt : Int) : Option ((List Int) × Int) :=
 (F_ref02_known n d bolt 0).bind fun y2 => if (y2.2 != 0) = true then (some (([] : List Int), y2.2)) else ((geti d.Bolts bolt).bind fun y6 => (F_ref02_numbers n y6).bind fun y11 => some (y11, 0))
theorem c_ref02_Stretches (n : Nat) (H : Hp) (d : Dome) (d_v0 : Value) (hd_0 : SL H 4 R_Bolt d_v0 d.Bolts) (d_v1 : Value) (hd_1 : SL H 1 RInt d_v1 d.Gores) (d_v3 : Value) (hd_3 : SL H 2 R_Span d_v3 d.Rounds) (d_v4 : Value) (hd_4 : SL H 1 RInt d_v4 d.Widths) (bolt : Int) (y : (List Int) × Int) (hF : F_ref02_Stretches n d bolt = some y) : HC Try.prog 105 [.agg [d_v0, d_v1, .int .i64 d.Loss, d_v3, d_v4, .int .i64 d.Slope].toArray, .int .i64 bolt] H (fun H' v => ∃ ra_v0 : Value, v = .tuple [ra_v0, .int .i64 y.2].toArray ∧ SL H' 1 RInt ra_v0 y.1) := by
 rw [F_ref02_Stretches] at hF
 refine HC.of (N := 23) Try.func105 rfl rfl rfl fun w => ?_
 refine JC.seq (JC.region (by rfl) ?_)
 intro hQ
 refine JL.box (cs := [d_v0, d_v1, .int .i64 d.Loss, d_v3, d_v4, .int .i64 d.Slope]) rfl .none rfl ?_
 intro b1
 refine JL.assign .none rfl ?_
 refine JL.assign .none rfl ?_
 refine JL.done hQ (JQ.go (JC.seq (JC.seq (JC.region (by rfl) ?_))))
 intro hQ
 refine JL.loadOwn 0 az_26 rfl rfl rfl .none rfl ?_
 refine JL.move .none rfl ?_
 obtain ⟨y2, hy2, hF⟩ := bind_some hF
 refine JL.callH (c_ref02_known n H d d_v0 hd_0 d_v1 hd_1 d_v3 hd_3 d_v4 hd_4 bolt 0 y2 hy2) rfl en_158 .none rfl ?_
 rintro H3 vv4 hs3 ⟨y2a_v0, rfl, hy2a_0⟩
 refine JL.move .none rfl ?_
 refine JL.extract rfl rfl .none rfl ?_
 refine JL.extract rfl rfl .none rfl ?_
 refine JL.assign .none rfl ?_
 refine JL.assign .none rfl ?_
 refine JL.done hQ (JQ.go (JC.seq (JC.region (by rfl) ?_)))
 intro hQ
 refine JL.move .none rfl ?_
 refine JL.bin rfl rfl rfl .none rfl ?_
 refine JL.done hQ (JQ.go (JC.fresh (fun f => f 1 = .int .i64 bolt ∧ f 2 = .pointer (some ⟨b1, 0, none⟩) ∧ f 4 = .slice none 0 0 ∧ f 5 = .int .i64 0 ∧ f 7 = .int .i64 y2.2 ∧ f 15 = .bool (y2.2 != 0)) ⟨rfl, rfl, rfl, rfl, rfl, rfl⟩ ?_))
 rintro f ⟨hf1, hf2, hf4, hf5, hf7, hf15⟩
 refine (JC.norm (i := 1) hf1 (JC.norm (i := 2) hf2 (JC.norm (i := 4) hf4 (JC.norm (i := 5) hf5 (JC.norm (i := 7) hf7 (JC.norm (i := 15) hf15 ?_))))))
 rcases ite_some hF with ⟨hc5, hF⟩ | ⟨hc5, hF⟩
 ·refine JC.cond_t (b := (y2.2 != 0)) rfl hc5 ?_
  refine JC.seq (JC.region (by rfl) ?_)
  intro hQ
  refine JL.move .none rfl ?_
  refine JL.assign .none rfl ?_
  refine JL.assign .none rfl ?_
  refine JL.done hQ (JQ.go (JC.ret (JQ.ret_then ?_)))
  obtain rfl := Option.some.inj hF
  exact JQ.outH rfl (.tmp (.tmp .nil)) ⟨(.slice none 0 0), rfl, SL.nil⟩
 ·refine JC.cond_f (b := (y2.2 != 0)) rfl hc5 ?_
  refine JC.skip (JQ.go (JC.seq (JC.region (by rfl) ?_)))
  intro hQ
  refine JL.fieldAddr fo_26_0 rfl .none rfl ?_
  refine JL.loadOwn 0 az_22 rfl rfl rfl .none rfl ?_
  refine JL.move .none rfl ?_
  obtain ⟨y6, hy6, hF⟩ := bind_some hF
  refine JL.indexSL (R := R_Bolt) sl_22 (SL.mono R_Bolt_mono hs3 hd_0) rfl hy6 .none rfl ?_
  rintro b7 o8 cs9 hc10 - ⟨y6_v2, rfl, hy6_2⟩
  refine JL.loadH 0 az_179 rfl hc10 rfl .none rfl ?_
  obtain ⟨y11, hy11, hF⟩ := bind_some hF
  refine JL.callH (c_ref02_numbers n H3 y6 y6_v2 hy6_2 y11 hy11) rfl en_159 .none rfl ?_
  intro H12 y11a_v0 hs12 hy11a_0
  refine JL.assign .none rfl ?_
  refine JL.assign .none rfl ?_
  refine JL.done hQ (JQ.go (JC.ret ?_))
  obtain rfl := Option.some.inj hF
  exact JQ.outH rfl (.tmp (.tmp .nil)) ⟨y11a_v0, rfl, hy11a_0⟩
-- 51 ferrule/ferruleref04.check
def F_ref04_check (n : Nat) (f_ : Figure) (seam : Int) : Option Int :=
 (F_ref04_Check n f_).bind fun y2 => if (y2 != 0) = true then (some y2) else (if ((decide (seam < 0)) || (decide ((f_.Starts.length : Int) ≤ seam))) = true then (some 1) else ((F_ref02_Stretches n f_.Dome 0).bind fun y7 => some y7.2))
theorem c_ref04_check (n : Nat) (H : Hp) (f_ : Figure) (f__v0 : Value) (hf__0 : SL H 4 R_Bolt f__v0 f_.Dome.Bolts) (f__v1 : Value) (hf__1 : SL H 1 RInt f__v1 f_.Dome.Gores) (f__v3 : Value) (hf__3 : SL H 2 R_Span f__v3 f_.Dome.Rounds) (f__v4 : Value) (hf__4 : SL H 1 RInt f__v4 f_.Dome.Widths) (f__v9 : Value) (hf__9 : SL H 1 RInt f__v9 f_.Starts) (f__v10 : Value) (hf__10 : SL H 1 RInt f__v10 f_.Times) (seam : Int) (y : Int) (hF : F_ref04_check n f_ seam = some y) : SC Try.prog 51 [.agg [f__v0, f__v1, .int .i64 f_.Dome.Loss, f__v3, f__v4, .int .i64 f_.Dome.Slope, .int .i64 f_.Period, .int .i64 f_.Run, .int .i64 f_.Near, f__v9, f__v10].toArray, .int .i64 seam] (.int .i64 y) H := by
 rw [F_ref04_check] at hF
 refine SC.of (N := 29) Try.func51 rfl rfl rfl fun w => ?_
 refine JC.seq (JC.region (by rfl) ?_)
 intro hQ
 refine JL.box (cs := [f__v0, f__v1, .int .i64 f_.Dome.Loss, f__v3, f__v4, .int .i64 f_.Dome.Slope, .int .i64 f_.Period, .int .i64 f_.Run, .int .i64 f_.Near, f__v9, f__v10]) rfl .none rfl ?_
 intro b1
 refine JL.assign .none rfl ?_
 refine JL.done hQ (JQ.go (JC.seq (JC.seq (JC.region (by rfl) ?_))))
 intro hQ
 refine JL.loadOwn 0 az_28 rfl rfl rfl .none rfl ?_
 obtain ⟨y2, hy2, hF⟩ := bind_some hF
 refine JL.callS (c_ref04_Check n H f_ f__v0 hf__0 f__v1 hf__1 f__v3 hf__3 f__v4 hf__4 f__v9 hf__9 f__v10 hf__10 y2 hy2) rfl en_50 .none rfl ?_
 refine JL.assign .none rfl ?_
 refine JL.done hQ (JQ.go (JC.seq (JC.region (by rfl) ?_)))
 intro hQ
 refine JL.move .none rfl ?_
 refine JL.bin rfl rfl rfl .none rfl ?_
 refine JL.done hQ (JQ.go ?_)
 rcases ite_some hF with ⟨hc3, hF⟩ | ⟨hc3, hF⟩
 ·refine JC.cond_t (b := (y2 != 0)) rfl hc3 ?_
  refine JC.seq (JC.region (by rfl) ?_)
  intro hQ
  refine JL.move .none rfl ?_
  refine JL.assign .none rfl ?_
  refine JL.done hQ (JQ.go (JC.ret (JQ.ret_then ?_)))
  obtain rfl := Option.some.inj hF
  exact JQ.outS rfl (.tmp .nil) rfl
 ·refine JC.cond_f (b := (y2 != 0)) rfl hc3 ?_
  refine JC.skip (JQ.go (JC.seq (JC.seq (JC.region (by rfl) ?_))))
  intro hQ
  refine JL.move .none rfl ?_
  refine JL.bin rfl rfl rfl .none rfl ?_
  refine JL.move .none rfl ?_
  refine JL.cut 6 (fun f => f 2 = .pointer (some ⟨b1, 0, none⟩) ∧ f 21 = .bool ((decide (seam < 0)) || (decide ((f_.Starts.length : Int) ≤ seam)))) ?_ ?_
  ·intro hJ4
   rcases bcases (decide (seam < 0)) with hc5 | hc5
   ·skip
    refine JL.skip (.bool rfl rfl rfl hc5) rfl ?_
    refine JL.skip (.bool rfl rfl rfl hc5) rfl ?_
    refine JL.skip (.bool rfl rfl rfl hc5) rfl ?_
    refine JL.skip (.bool rfl rfl rfl hc5) rfl ?_
    refine JL.skip (.bool rfl rfl rfl hc5) rfl ?_
    refine JL.pick_t (b := decide (seam < 0)) rfl hc5 .none rfl ?_
    exact hJ4 _ ⟨rfl, or_t hc5 rfl⟩
   ·skip
    refine JL.move (.some rfl rfl rfl hc5) rfl ?_
    refine JL.fieldAddr fo_28_4 rfl (.some rfl rfl rfl hc5) rfl ?_
    refine JL.loadOwn 0 az_23 rfl rfl rfl (.some rfl rfl rfl hc5) rfl ?_
    refine JL.lenSL (R := RInt) ul_23 hf__9 (.some rfl rfl rfl hc5) rfl ?_
    refine JL.bin rfl rfl rfl (.some rfl rfl rfl hc5) rfl ?_
    refine JL.pick_f (b := decide (seam < 0)) rfl hc5 .none rfl ?_
    exact hJ4 _ ⟨rfl, or_f hc5 rfl⟩
  ·rintro f ⟨hf2, hf21⟩
   refine (JL.norm (i := 2) hf2 (JL.norm (i := 21) hf21 ?_))
   refine JL.done hQ (JQ.go ?_)
   rcases ite_some hF with ⟨hc6, hF⟩ | ⟨hc6, hF⟩
   ·refine JC.cond_t (b := ((decide (seam < 0)) || (decide ((f_.Starts.length : Int) ≤ seam)))) rfl hc6 ?_
    refine JC.seq (JC.region (by rfl) ?_)
    intro hQ
    refine JL.assign .none rfl ?_
    refine JL.done hQ (JQ.go (JC.ret (JQ.ret_then ?_)))
    obtain rfl := Option.some.inj hF
    exact JQ.outS rfl (.tmp .nil) rfl
   ·refine JC.cond_f (b := ((decide (seam < 0)) || (decide ((f_.Starts.length : Int) ≤ seam)))) rfl hc6 ?_
    refine JC.skip (JQ.go (JC.seq (JC.region (by rfl) ?_)))
    intro hQ
    refine JL.fieldAddr fo_28_0 rfl .none rfl ?_
    refine JL.loadOwn 0 az_26 rfl rfl rfl .none rfl ?_
    obtain ⟨y7, hy7, hF⟩ := bind_some hF
    refine JL.callH (c_ref02_Stretches n H f_.Dome f__v0 hf__0 f__v1 hf__1 f__v3 hf__3 f__v4 hf__4 0 y7 hy7) rfl en_105 .none rfl ?_
    rintro H8 vv9 hs8 ⟨y7a_v0, rfl, hy7a_0⟩
    refine JL.move .none rfl ?_
    refine JL.extract rfl rfl .none rfl ?_
    refine JL.extract rfl rfl .none rfl ?_
    refine JL.assign .none rfl ?_
    refine JL.assign .none rfl ?_
    refine JL.done hQ (JQ.go (JC.seq (JC.region (by rfl) ?_)))
    intro hQ
    refine JL.move .none rfl ?_
    refine JL.assign .none rfl ?_
    refine JL.done hQ (JQ.go (JC.ret ?_))
    obtain rfl := Option.some.inj hF
    exact JQ.outS rfl (.tmp .nil) rfl
-- 10 ferrule/ferruleref04.CheckTruth
def F_ref04_CheckTruth (n : Nat) (f_ : Figure) : Option Int :=
 (F_ref04_check n f_ 0).bind fun y2 => some y2
theorem c_ref04_CheckTruth (n : Nat) (H : Hp) (f_ : Figure) (f__v0 : Value) (hf__0 : SL H 4 R_Bolt f__v0 f_.Dome.Bolts) (f__v1 : Value) (hf__1 : SL H 1 RInt f__v1 f_.Dome.Gores) (f__v3 : Value) (hf__3 : SL H 2 R_Span f__v3 f_.Dome.Rounds) (f__v4 : Value) (hf__4 : SL H 1 RInt f__v4 f_.Dome.Widths) (f__v9 : Value) (hf__9 : SL H 1 RInt f__v9 f_.Starts) (f__v10 : Value) (hf__10 : SL H 1 RInt f__v10 f_.Times) (y : Int) (hF : F_ref04_CheckTruth n f_ = some y) : SC Try.prog 10 [.agg [f__v0, f__v1, .int .i64 f_.Dome.Loss, f__v3, f__v4, .int .i64 f_.Dome.Slope, .int .i64 f_.Period, .int .i64 f_.Run, .int .i64 f_.Near, f__v9, f__v10].toArray] (.int .i64 y) H := by
 rw [F_ref04_CheckTruth] at hF
 refine SC.of (N := 5) Try.func10 rfl rfl rfl fun w => ?_
 refine JC.seq (JC.region (by rfl) ?_)
 intro hQ
 refine JL.box (cs := [f__v0, f__v1, .int .i64 f_.Dome.Loss, f__v3, f__v4, .int .i64 f_.Dome.Slope, .int .i64 f_.Period, .int .i64 f_.Run, .int .i64 f_.Near, f__v9, f__v10]) rfl .none rfl ?_
 intro b1
 refine JL.assign .none rfl ?_
 refine JL.done hQ (JQ.go (JC.seq (JC.region (by rfl) ?_)))
 intro hQ
 refine JL.loadOwn 0 az_28 rfl rfl rfl .none rfl ?_
 obtain ⟨y2, hy2, hF⟩ := bind_some hF
 refine JL.callS (c_ref04_check n H f_ f__v0 hf__0 f__v1 hf__1 f__v3 hf__3 f__v4 hf__4 f__v9 hf__9 f__v10 hf__10 0 y2 hy2) rfl en_51 .none rfl ?_
 refine JL.assign .none rfl ?_
 refine JL.done hQ (JQ.go (JC.ret ?_))
 obtain rfl := Option.some.inj hF
 exact JQ.outS rfl (.tmp .nil) rfl
-- 52 ferrule/ferrulelaw02.Example
def F_law02_Example (n : Nat)  : Option Dome :=
 some (Dome.mk [(Bolt.mk (Span.mk 0 20) [(Strip.mk 1000 (Span.mk 1005 1010))] 0), (Bolt.mk (Span.mk 0 10) ([] : List Strip) 0)] [0, 0, 1, 1] 5 [(Span.mk 400 404), (Span.mk 600 650), (Span.mk 803 806)] [110, 165, 210] 50)
theorem c_law02_Example (n : Nat) (H : Hp)  (y : Dome) (hF : F_law02_Example n = some y) : HC Try.prog 52 [] H (fun H' v => ∃ ra_v0 ra_v1 ra_v3 ra_v4 : Value, v = .agg [ra_v0, ra_v1, .int .i64 y.Loss, ra_v3, ra_v4, .int .i64 y.Slope].toArray ∧ SL H' 4 R_Bolt ra_v0 y.Bolts ∧ SL H' 1 RInt ra_v1 y.Gores ∧ SL H' 2 R_Span ra_v3 y.Rounds ∧ SL H' 1 RInt ra_v4 y.Widths) := by
 rw [F_law02_Example] at hF
 refine HC.of (N := 16) Try.func52 rfl rfl rfl fun w => ?_
 refine JC.seq (JC.region (by rfl) ?_)
 intro hQ
 refine JL.alloc ze_26 .none rfl ?_
 intro b1
 refine JL.done hQ (JQ.go (JC.seq (JC.region (by rfl) ?_)))
 intro hQ
 refine JL.build (l := [.int .i64 0, .int .i64 20]) (by kernel_rfl) .none rfl ?_
 refine JL.build (l := [.int .i64 1005, .int .i64 1010]) (by kernel_rfl) .none rfl ?_
 refine JL.build (l := [.int .i64 1000, .int .i64 1005, .int .i64 1010]) (by kernel_rfl) .none rfl ?_
 refine JL.buildSlice (e := 176) (l := [.int .i64 1000, .int .i64 1005, .int .i64 1010]) (by kernel_rfl) .none rfl ?_
 intro b2
 refine JL.build (l := [.int .i64 0, .int .i64 20, .slice (some ⟨b2, 0, none⟩) 1 1, .int .i64 0]) (by kernel_rfl) .none rfl ?_
 refine JL.build (l := [.int .i64 0, .int .i64 10]) (by kernel_rfl) .none rfl ?_
 refine JL.build (l := [.int .i64 0, .int .i64 10, .slice none 0 0, .int .i64 0]) (by kernel_rfl) .none rfl ?_
 refine JL.buildSlice (e := 179) (l := [.int .i64 0, .int .i64 20, .slice (some ⟨b2, 0, none⟩) 1 1, .int .i64 0, .int .i64 0, .int .i64 10, .slice none 0 0, .int .i64 0]) (by kernel_rfl) .none rfl ?_
 intro b3
 refine JL.buildSlice (e := 3) (l := [.int .i64 0, .int .i64 0, .int .i64 1, .int .i64 1]) (by kernel_rfl) .none rfl ?_
 intro b4
 refine JL.build (l := [.int .i64 400, .int .i64 404]) (by kernel_rfl) .none rfl ?_
 refine JL.build (l := [.int .i64 600, .int .i64 650]) (by kernel_rfl) .none rfl ?_
 refine JL.build (l := [.int .i64 803, .int .i64 806]) (by kernel_rfl) .none rfl ?_
 refine JL.buildSlice (e := 39) (l := [.int .i64 400, .int .i64 404, .int .i64 600, .int .i64 650, .int .i64 803, .int .i64 806]) (by kernel_rfl) .none rfl ?_
 intro b5
 refine JL.buildSlice (e := 3) (l := [.int .i64 110, .int .i64 165, .int .i64 210]) (by kernel_rfl) .none rfl ?_
 intro b6
 refine JL.build (l := [.slice (some ⟨b3, 0, none⟩) 2 2, .slice (some ⟨b4, 0, none⟩) 4 4, .int .i64 5, .slice (some ⟨b5, 0, none⟩) 3 3, .slice (some ⟨b6, 0, none⟩) 3 3, .int .i64 50]) (by kernel_rfl) .none rfl ?_
 refine JL.storeOwn 5 (cs := [.slice (some ⟨b3, 0, none⟩) 2 2, .slice (some ⟨b4, 0, none⟩) 4 4, .int .i64 5, .slice (some ⟨b5, 0, none⟩) 3 3, .slice (some ⟨b6, 0, none⟩) 3 3, .int .i64 50]) az_26 rfl rfl rfl (one_cons rfl (one_cons rfl (one_cons rfl (one_cons rfl (one_cons rfl (one_cons rfl one_nil)))))) rfl rfl .none ?_
 refine JL.done hQ (JQ.go (JC.fresh (fun f => f 0 = .pointer (some ⟨b1, 0, none⟩)) rfl ?_))
 rintro f hf0
 refine (JC.norm (i := 0) hf0 ?_)
 refine JC.ret (JQ.freezeC 4 (l := [.int .i64 1000, .int .i64 1005, .int .i64 1010]) rfl ?_)
 intro H7 hs7 hc8
 have hg9 : SL H7 3 R_Strip (.slice (some ⟨b2, 0, none⟩) 1 1) [(Strip.mk 1000 (Span.mk 1005 1010))] := CH.sl (l := [(Strip.mk 1000 (Span.mk 1005 1010))]) (CH.cons (cs := [.int .i64 1000, .int .i64 1005, .int .i64 1010]) rfl rfl CH.nil) hc8 ⟨by simp, by simp⟩
 refine JQ.freezeC 3 (l := [.int .i64 0, .int .i64 20, (.slice (some ⟨b2, 0, none⟩) 1 1), .int .i64 0, .int .i64 0, .int .i64 10, .slice none 0 0, .int .i64 0]) rfl ?_
 intro H10 hs10 hc11
 have hg12 : SL H10 4 R_Bolt (.slice (some ⟨b3, 0, none⟩) 2 2) [(Bolt.mk (Span.mk 0 20) [(Strip.mk 1000 (Span.mk 1005 1010))] 0), (Bolt.mk (Span.mk 0 10) ([] : List Strip) 0)] := CH.sl (l := [(Bolt.mk (Span.mk 0 20) [(Strip.mk 1000 (Span.mk 1005 1010))] 0), (Bolt.mk (Span.mk 0 10) ([] : List Strip) 0)]) (CH.cons (cs := [.int .i64 0, .int .i64 20, (.slice (some ⟨b2, 0, none⟩) 1 1), .int .i64 0]) rfl ⟨(.slice (some ⟨b2, 0, none⟩) 1 1), rfl, (SL.mono R_Strip_mono hs10 hg9)⟩ (CH.cons (cs := [.int .i64 0, .int .i64 10, .slice none 0 0, .int .i64 0]) rfl ⟨.slice none 0 0, rfl, SL.nil⟩ CH.nil)) hc11 ⟨by simp, by simp⟩
 refine JQ.freezeC 2 (l := [.int .i64 0, .int .i64 0, .int .i64 1, .int .i64 1]) rfl ?_
 intro H13 hs13 hc14
 have hg15 : SL H13 1 RInt (.slice (some ⟨b4, 0, none⟩) 4 4) [0, 0, 1, 1] := CH.sl (l := [0, 0, 1, 1]) (CH.cons (cs := [.int .i64 0]) rfl rfl (CH.cons (cs := [.int .i64 0]) rfl rfl (CH.cons (cs := [.int .i64 1]) rfl rfl (CH.cons (cs := [.int .i64 1]) rfl rfl CH.nil)))) hc14 ⟨by simp, by simp⟩
 refine JQ.freezeC 1 (l := [.int .i64 400, .int .i64 404, .int .i64 600, .int .i64 650, .int .i64 803, .int .i64 806]) rfl ?_
 intro H16 hs16 hc17
 have hg18 : SL H16 2 R_Span (.slice (some ⟨b5, 0, none⟩) 3 3) [(Span.mk 400 404), (Span.mk 600 650), (Span.mk 803 806)] := CH.sl (l := [(Span.mk 400 404), (Span.mk 600 650), (Span.mk 803 806)]) (CH.cons (cs := [.int .i64 400, .int .i64 404]) rfl rfl (CH.cons (cs := [.int .i64 600, .int .i64 650]) rfl rfl (CH.cons (cs := [.int .i64 803, .int .i64 806]) rfl rfl CH.nil))) hc17 ⟨by simp, by simp⟩
 refine JQ.freezeC 0 (l := [.int .i64 110, .int .i64 165, .int .i64 210]) rfl ?_
 intro H19 hs19 hc20
 have hg21 : SL H19 1 RInt (.slice (some ⟨b6, 0, none⟩) 3 3) [110, 165, 210] := CH.sl (l := [110, 165, 210]) (CH.cons (cs := [.int .i64 110]) rfl rfl (CH.cons (cs := [.int .i64 165]) rfl rfl (CH.cons (cs := [.int .i64 210]) rfl rfl CH.nil))) hc20 ⟨by simp, by simp⟩
 obtain rfl := Option.some.inj hF
 exact JQ.outH rfl (.cell 0 az_26 rfl rfl rfl .nil) ⟨(.slice (some ⟨b3, 0, none⟩) 2 2), (.slice (some ⟨b4, 0, none⟩) 4 4), (.slice (some ⟨b5, 0, none⟩) 3 3), (.slice (some ⟨b6, 0, none⟩) 3 3), rfl, (SL.mono R_Bolt_mono (HSub.trans hs13 (HSub.trans hs16 hs19)) hg12), (SL.mono RInt.mono (HSub.trans hs16 hs19) hg15), (SL.mono R_Span_mono hs19 hg18), hg21⟩
-- 109 ferrule/cloth.within
def F_cloth_within (n : Nat) (n_ : Int) (low : Int) (high : Int) : Option Bool :=
 some ((decide (low ≤ n_)) && (decide (n_ ≤ high)))
theorem c_cloth_within (n : Nat) (H : Hp) (n_ : Int) (low : Int) (high : Int) (y : Bool) (hF : F_cloth_within n n_ low high = some y) : SC Try.prog 109 [.int .i64 n_, .int .i64 low, .int .i64 high] (.bool y) H := by
 rw [F_cloth_within] at hF
 refine SC.of (N := 15) Try.func109 rfl rfl rfl fun w => ?_
 refine JC.seq (JC.region (by rfl) ?_)
 intro hQ
 refine JL.assign .none rfl ?_
 refine JL.done hQ (JQ.go (JC.seq (JC.region (by rfl) ?_)))
 intro hQ
 refine JL.move .none rfl ?_
 refine JL.move .none rfl ?_
 refine JL.bin rfl rfl rfl .none rfl ?_
 refine JL.move .none rfl ?_
 refine JL.cut 4 (fun f => f 14 = .bool ((decide (low ≤ n_)) && (decide (n_ ≤ high)))) ?_ ?_
 ·intro hJ1
  rcases bcases (decide (low ≤ n_)) with hc2 | hc2
  ·skip
   refine JL.move (.some rfl rfl rfl hc2) rfl ?_
   refine JL.move (.some rfl rfl rfl hc2) rfl ?_
   refine JL.bin rfl rfl rfl (.some rfl rfl rfl hc2) rfl ?_
   refine JL.pick_t (b := decide (low ≤ n_)) rfl hc2 .none rfl ?_
   exact hJ1 _ (and_t hc2 rfl)
  ·skip
   refine JL.skip (.bool rfl rfl rfl hc2) rfl ?_
   refine JL.skip (.bool rfl rfl rfl hc2) rfl ?_
   refine JL.skip (.bool rfl rfl rfl hc2) rfl ?_
   refine JL.pick_f (b := decide (low ≤ n_)) rfl hc2 .none rfl ?_
   exact hJ1 _ (and_f hc2 rfl)
 ·rintro f hf14
  refine (JL.norm (i := 14) hf14 ?_)
  refine JL.assign .none rfl ?_
  refine JL.done hQ (JQ.go (JC.ret ?_))
  obtain rfl := Option.some.inj hF
  exact JQ.outS rfl (.tmp .nil) rfl
-- 59 ferrule/cloth.isRow
def F_cloth_isRow (n : Nat) (d : Dome) (n_ : Int) : Option Bool :=
 (F_cloth_within n n_ 0 (w64 ((d.Rounds.length : Int) - 1))).bind fun y2 => some y2
theorem c_cloth_isRow (n : Nat) (H : Hp) (d : Dome) (d_v0 : Value) (hd_0 : SL H 4 R_Bolt d_v0 d.Bolts) (d_v1 : Value) (hd_1 : SL H 1 RInt d_v1 d.Gores) (d_v3 : Value) (hd_3 : SL H 2 R_Span d_v3 d.Rounds) (d_v4 : Value) (hd_4 : SL H 1 RInt d_v4 d.Widths) (n_ : Int) (y : Bool) (hF : F_cloth_isRow n d n_ = some y) : SC Try.prog 59 [.agg [d_v0, d_v1, .int .i64 d.Loss, d_v3, d_v4, .int .i64 d.Slope].toArray, .int .i64 n_] (.bool y) H := by
 rw [F_cloth_isRow] at hF
 refine SC.of (N := 11) Try.func59 rfl rfl rfl fun w => ?_
 refine JC.seq (JC.region (by rfl) ?_)
 intro hQ
 refine JL.box (cs := [d_v0, d_v1, .int .i64 d.Loss, d_v3, d_v4, .int .i64 d.Slope]) rfl .none rfl ?_
 intro b1
 refine JL.assign .none rfl ?_
 refine JL.done hQ (JQ.go (JC.seq (JC.region (by rfl) ?_)))
 intro hQ
 refine JL.move .none rfl ?_
 refine JL.fieldAddr fo_26_3 rfl .none rfl ?_
 refine JL.loadOwn 0 az_24 rfl rfl rfl .none rfl ?_
 refine JL.lenSL (R := R_Span) ul_24 hd_3 .none rfl ?_
 refine JL.bin rfl rfl rfl .none rfl ?_
 obtain ⟨y2, hy2, hF⟩ := bind_some hF
 refine JL.callS (c_cloth_within n H n_ 0 (w64 ((d.Rounds.length : Int) - 1)) y2 hy2) rfl en_109 .none rfl ?_
 refine JL.assign .none rfl ?_
 refine JL.done hQ (JQ.go (JC.ret ?_))
 obtain rfl := Option.some.inj hF
 exact JQ.outS rfl (.tmp .nil) rfl
-- 190 ferrule/cloth.isDome$1
def F_cloth_isDome_1 (n : Nat) (n_ : Int) (c_0 : Dome) : Option Bool :=
 (F_cloth_within n n_ 0 (w64 ((c_0.Bolts.length : Int) - 1))).bind fun y1 => some y1
theorem c_cloth_isDome_1 (n : Nat) (H : Hp) (n_ : Int) (c_0 : Dome) (c_0_v0 : Value) (hc_0_0 : SL H 4 R_Bolt c_0_v0 c_0.Bolts) (c_0_v1 : Value) (hc_0_1 : SL H 1 RInt c_0_v1 c_0.Gores) (c_0_v3 : Value) (hc_0_3 : SL H 2 R_Span c_0_v3 c_0.Rounds) (c_0_v4 : Value) (hc_0_4 : SL H 1 RInt c_0_v4 c_0.Widths) (c_0_b : Nat) (c_0_c : Cells H c_0_b 0 [c_0_v0, c_0_v1, .int .i64 c_0.Loss, c_0_v3, c_0_v4, .int .i64 c_0.Slope]) (y : Bool) (hF : F_cloth_isDome_1 n n_ c_0 = some y) : SC Try.prog 190 [.int .i64 n_, .pointer (some ⟨c_0_b, 0, none⟩)] (.bool y) H := by
 rw [F_cloth_isDome_1] at hF
 refine SC.of (N := 10) Try.func190 rfl rfl rfl fun w => ?_
 refine JC.seq (JC.region (by rfl) ?_)
 intro hQ
 refine JL.assign .none rfl ?_
 refine JL.done hQ (JQ.go (JC.seq (JC.region (by rfl) ?_)))
 intro hQ
 refine JL.move .none rfl ?_
 refine JL.fieldAddr fo_26_0 rfl .none rfl ?_
 refine JL.loadH 0 az_22 rfl c_0_c rfl .none rfl ?_
 refine JL.lenSL (R := R_Bolt) ul_22 hc_0_0 .none rfl ?_
 refine JL.bin rfl rfl rfl .none rfl ?_
 obtain ⟨y1, hy1, hF⟩ := bind_some hF
 refine JL.callS (c_cloth_within n H n_ 0 (w64 ((c_0.Bolts.length : Int) - 1)) y1 hy1) rfl en_109 .none rfl ?_
 refine JL.assign .none rfl ?_
 refine JL.done hQ (JQ.go (JC.ret ?_))
 obtain rfl := Option.some.inj hF
 exact JQ.outS rfl (.tmp .nil) rfl
-- 192 ferrule/cloth.isSpan
def F_cloth_isSpan (n : Nat) (s : Span) (most : Int) : Option Bool :=
 (F_cloth_within n s.Low 0 s.High).bind fun y2 => some (y2 && (decide (s.High ≤ most)))
theorem c_cloth_isSpan (n : Nat) (H : Hp) (s : Span) (most : Int) (y : Bool) (hF : F_cloth_isSpan n s most = some y) : SC Try.prog 192 [.agg [.int .i64 s.Low, .int .i64 s.High].toArray, .int .i64 most] (.bool y) H := by
 rw [F_cloth_isSpan] at hF
 refine SC.of (N := 16) Try.func192 rfl rfl rfl fun w => ?_
 refine JC.seq (JC.region (by rfl) ?_)
 intro hQ
 refine JL.box (cs := [.int .i64 s.Low, .int .i64 s.High]) rfl .none rfl ?_
 intro b1
 refine JL.assign .none rfl ?_
 refine JL.done hQ (JQ.go (JC.seq (JC.region (by rfl) ?_)))
 intro hQ
 refine JL.fieldAddr fo_39_0 rfl .none rfl ?_
 refine JL.loadOwn 0 az_3 rfl rfl rfl .none rfl ?_
 refine JL.fieldAddr fo_39_1 rfl .none rfl ?_
 refine JL.loadOwn 0 az_3 rfl rfl rfl .none rfl ?_
 obtain ⟨y2, hy2, hF⟩ := bind_some hF
 refine JL.callS (c_cloth_within n H s.Low 0 s.High y2 hy2) rfl en_109 .none rfl ?_
 refine JL.move .none rfl ?_
 refine JL.cut 5 (fun f => f 15 = .bool (y2 && (decide (s.High ≤ most)))) ?_ ?_
 ·intro hJ3
  rcases bcases y2 with hc4 | hc4
  ·skip
   refine JL.fieldAddr fo_39_1 rfl (.some rfl rfl rfl hc4) rfl ?_
   refine JL.loadOwn 0 az_3 rfl rfl rfl (.some rfl rfl rfl hc4) rfl ?_
   refine JL.move (.some rfl rfl rfl hc4) rfl ?_
   refine JL.bin rfl rfl rfl (.some rfl rfl rfl hc4) rfl ?_
   refine JL.pick_t (b := y2) rfl hc4 .none rfl ?_
   exact hJ3 _ (and_t hc4 rfl)
  ·skip
   refine JL.skip (.bool rfl rfl rfl hc4) rfl ?_
   refine JL.skip (.bool rfl rfl rfl hc4) rfl ?_
   refine JL.skip (.bool rfl rfl rfl hc4) rfl ?_
   refine JL.skip (.bool rfl rfl rfl hc4) rfl ?_
   refine JL.pick_f (b := y2) rfl hc4 .none rfl ?_
   exact hJ3 _ (and_f hc4 rfl)
 ·rintro f hf15
  refine (JL.norm (i := 15) hf15 ?_)
  refine JL.assign .none rfl ?_
  refine JL.done hQ (JQ.go (JC.ret ?_))
  obtain rfl := Option.some.inj hF
  exact JQ.outS rfl (.tmp .nil) rfl
-- 191 ferrule/cloth.isDome$2
def F_cloth_isDome_2 (n : Nat) (s : Span) : Option Bool :=
 (F_cloth_isSpan n s 40000).bind fun y2 => some y2
theorem c_cloth_isDome_2 (n : Nat) (H : Hp) (s : Span) (y : Bool) (hF : F_cloth_isDome_2 n s = some y) : SC Try.prog 191 [.agg [.int .i64 s.Low, .int .i64 s.High].toArray] (.bool y) H := by
 rw [F_cloth_isDome_2] at hF
 refine SC.of (N := 5) Try.func191 rfl rfl rfl fun w => ?_
 refine JC.seq (JC.region (by rfl) ?_)
 intro hQ
 refine JL.box (cs := [.int .i64 s.Low, .int .i64 s.High]) rfl .none rfl ?_
 intro b1
 refine JL.assign .none rfl ?_
 refine JL.done hQ (JQ.go (JC.seq (JC.region (by rfl) ?_)))
 intro hQ
 refine JL.loadOwn 0 az_39 rfl rfl rfl .none rfl ?_
 obtain ⟨y2, hy2, hF⟩ := bind_some hF
 refine JL.callS (c_cloth_isSpan n H s 40000 y2 hy2) rfl en_192 .none rfl ?_
 refine JL.assign .none rfl ?_
 refine JL.done hQ (JQ.go (JC.ret ?_))
 obtain rfl := Option.some.inj hF
 exact JQ.outS rfl (.tmp .nil) rfl
-- 193 ferrule/cloth.isDome$3
def F_cloth_isDome_3 (n : Nat) (n_ : Int) (c_0 : Dome) : Option Bool :=
 (F_cloth_within n n_ (w64 (2 * c_0.Loss)) 2000).bind fun y1 => some y1
theorem c_cloth_isDome_3 (n : Nat) (H : Hp) (n_ : Int) (c_0 : Dome) (c_0_v0 : Value) (hc_0_0 : SL H 4 R_Bolt c_0_v0 c_0.Bolts) (c_0_v1 : Value) (hc_0_1 : SL H 1 RInt c_0_v1 c_0.Gores) (c_0_v3 : Value) (hc_0_3 : SL H 2 R_Span c_0_v3 c_0.Rounds) (c_0_v4 : Value) (hc_0_4 : SL H 1 RInt c_0_v4 c_0.Widths) (c_0_b : Nat) (c_0_c : Cells H c_0_b 0 [c_0_v0, c_0_v1, .int .i64 c_0.Loss, c_0_v3, c_0_v4, .int .i64 c_0.Slope]) (y : Bool) (hF : F_cloth_isDome_3 n n_ c_0 = some y) : SC Try.prog 193 [.int .i64 n_, .pointer (some ⟨c_0_b, 0, none⟩)] (.bool y) H := by
 rw [F_cloth_isDome_3] at hF
 refine SC.of (N := 9) Try.func193 rfl rfl rfl fun w => ?_
 refine JC.seq (JC.region (by rfl) ?_)
 intro hQ
 refine JL.assign .none rfl ?_
 refine JL.done hQ (JQ.go (JC.seq (JC.region (by rfl) ?_)))
 intro hQ
 refine JL.move .none rfl ?_
 refine JL.fieldAddr fo_26_2 rfl .none rfl ?_
 refine JL.loadH 2 az_3 rfl c_0_c rfl .none rfl ?_
 refine JL.bin rfl rfl rfl .none rfl ?_
 obtain ⟨y1, hy1, hF⟩ := bind_some hF
 refine JL.callS (c_cloth_within n H n_ (w64 (2 * c_0.Loss)) 2000 y1 hy1) rfl en_109 .none rfl ?_
 refine JL.assign .none rfl ?_
 refine JL.done hQ (JQ.go (JC.ret ?_))
 obtain rfl := Option.some.inj hF
 exact JQ.outS rfl (.tmp .nil) rfl
-- 225 ferrule/cloth.all[int]$1
def F_cloth_all_int__1 (n : Nat) (x_ : Int) (c_0 : Int → Option Bool) : Option Bool :=
 (c_0 x_).bind fun y1 => some (!y1)
theorem c_cloth_all_int__1 (n : Nat) (H : Hp) (x_ : Int) (c_0 : Int → Option Bool) (c_0_v0 : Value) (hc_0_0 : FN_124 H c_0_v0 c_0) (c_0_b : Nat) (c_0_c : Cells H c_0_b 0 [c_0_v0]) (y : Bool) (hF : F_cloth_all_int__1 n x_ c_0 = some y) : SC Try.prog 225 [.int .i64 x_, .pointer (some ⟨c_0_b, 0, none⟩)] (.bool y) H := by
 rw [F_cloth_all_int__1] at hF
 refine SC.of (N := 8) Try.func225 rfl rfl rfl fun w => ?_
 refine JC.seq (JC.region (by rfl) ?_)
 intro hQ
 refine JL.assign .none rfl ?_
 refine JL.done hQ (JQ.go (JC.seq (JC.region (by rfl) ?_)))
 intro hQ
 refine JL.loadH 0 az_124 rfl c_0_c rfl .none rfl ?_
 refine JL.move .none rfl ?_
 obtain ⟨y1, hy1, hF⟩ := bind_some hF
 obtain ⟨fk2, fc3, hv4, fe5, fh6⟩ := hc_0_0
 refine JL.callV hv4 (fh6 H (HSub.refl _) x_ y1 hy1) rfl fe5 .none rfl ?_
 refine JL.not rfl .none rfl ?_
 refine JL.assign .none rfl ?_
 refine JL.done hQ (JQ.go (JC.ret ?_))
 obtain rfl := Option.some.inj hF
 exact JQ.outS rfl (.tmp .nil) rfl
-- 178 slices.IndexFunc[[]int,int]
def F_slices_IndexFunc___int_int__s1 (n : Nat) (s : List Int) (f_ : Int → Option Bool) : Int → Option (Int ⊕ (Int ⊕ Unit))
 | x_55 => if decide (x_55 < (s.length : Int)) = true then ((geti s x_55).bind fun y60 => (f_ y60).bind fun y65 => if y65 = true then (some (Sum.inr (Sum.inl x_55))) else (some (Sum.inl (w64 (x_55 + 1))))) else (some (Sum.inr (Sum.inr ())))
def F_slices_IndexFunc___int_int_ (n : Nat) (s : List Int) (f_ : Int → Option Bool) : Option Int :=
 (loopO n (F_slices_IndexFunc___int_int__s1 n s f_) 0).bind fun r34 => match r34 with | .inl o => some o | .inr _ => some (-1)
theorem c_slices_IndexFunc___int_int_ (n : Nat) (H : Hp) (s : List Int) (s_v0 : Value) (hs_0 : SL H 1 RInt s_v0 s) (f_ : Int → Option Bool) (f__k : Nat) (f__c : List Value) (f__e : Ent Try.prog f__k) (f__h : ∀ H', HSub H H' → ∀ (a0_ : Int) (y : Bool), f_ a0_ = some y → SC Try.prog f__k ([.int .i64 a0_] ++ f__c) (.bool y) H') (y : Int) (hF : F_slices_IndexFunc___int_int_ n s f_ = some y) : SC Try.prog 178 [s_v0, .func (.func f__k) #[] f__c.toArray] (.int .i64 y) H := by
 rw [F_slices_IndexFunc___int_int_] at hF
 refine SC.of (N := 19) Try.func178 rfl rfl rfl fun w => ?_
 refine JC.seq (JC.region (by rfl) ?_)
 intro hQ
 refine JL.assign .none rfl ?_
 refine JL.done hQ (JQ.go (JC.seq (JC.seq (JC.region (by rfl) ?_))))
 intro hQ
 refine JL.move .none rfl ?_
 refine JL.lenSL (R := RInt) ul_23 hs_0 .none rfl ?_
 refine JL.move .none rfl ?_
 refine JL.done hQ (JQ.go ?_)
 obtain ⟨r34, hlr34, hKr34⟩ := bind_some hF
 refine JC.join (fun (_ : Unit) H33 f bs gs => bs = [] ∧ gs = [] ∧ HSub H H33 ∧ Sum.inr () = r34) ?_ ?_
 ·skip
  refine JC.block (JC.loop hlr34 (fun (x_55 : Int) H56 f bs gs => f 0 = s_v0 ∧ f 1 = .func (.func f__k) #[] f__c.toArray ∧ f 7 = .int .i64 (s.length : Int) ∧ f 8 = .int .i64 x_55 ∧ bs = [] ∧ gs = [] ∧ HSub H H56) ⟨rfl, rfl, rfl, rfl, rfl, rfl, (HSub.refl _)⟩ ?_)
  rintro x_55 x58 H56 f bs gs ⟨hf0, hf1, hf7, hf8, rfl, rfl, hs56⟩ hF hr57
  rw [F_slices_IndexFunc___int_int__s1] at hF
  refine (JC.norm (i := 0) hf0 (JC.norm (i := 1) hf1 (JC.norm (i := 7) hf7 (JC.norm (i := 8) hf8 ?_))))
  refine JC.seq (JC.region (by rfl) ?_)
  intro hQ
  refine JL.bin rfl rfl rfl .none rfl ?_
  refine JL.done hQ (JQ.go (JC.seq ?_))
  rcases ite_some hF with ⟨hc59, hF⟩ | ⟨hc59, hF⟩
  ·refine JC.cond_t (b := decide (x_55 < (s.length : Int))) rfl hc59 ?_
   refine JC.skip (JQ.go (JC.seq (JC.block (JC.seq (JC.region (by rfl) ?_)))))
   intro hQ
   refine JL.move .none rfl ?_
   refine JL.assign .none rfl ?_
   refine JL.done hQ (JQ.go (JC.seq (JC.region (by rfl) ?_)))
   intro hQ
   refine JL.move .none rfl ?_
   refine JL.move .none rfl ?_
   refine JL.move .none rfl ?_
   obtain ⟨y60, hy60, hF⟩ := bind_some hF
   refine JL.indexSL (R := RInt) sl_23 (SL.mono RInt.mono hs56 hs_0) rfl hy60 .none rfl ?_
   rintro b61 o62 cs63 hc64 - rfl
   refine JL.loadH 0 az_3 rfl hc64 rfl .none rfl ?_
   obtain ⟨y65, hy65, hF⟩ := bind_some hF
   refine JL.callV rfl (f__h H56 hs56 y60 y65 hy65) rfl f__e .none rfl ?_
   refine JL.done hQ (JQ.go ?_)
   rcases ite_some hF with ⟨hc66, hF⟩ | ⟨hc66, hF⟩
   ·refine JC.cond_t (b := y65) rfl hc66 ?_
    refine JC.seq (JC.region (by rfl) ?_)
    intro hQ
    refine JL.move .none rfl ?_
    refine JL.assign .none rfl ?_
    refine JL.done hQ (JQ.go (JC.fresh (fun f => f 4 = .int .i64 x_55) rfl ?_))
    rintro f hf4
    refine (JC.norm (i := 4) hf4 ?_)
    refine JC.ret (JQ.ret_block (JQ.ret_then (JQ.ret_then (JQ.ret_block (JQ.ret_join (JQ.ret_then ?_))))))
    obtain rfl := Option.some.inj hF
    have ehr57 := hr57 _ rfl
    subst ehr57
    have hF := hKr34
    try dsimp only at hF
    obtain rfl := Option.some.inj hF
    exact JQ.outS rfl (.tmp .nil) rfl
   ·refine JC.cond_f (b := y65) rfl hc66 ?_
    refine JC.skip (JQ.normal_block (JQ.go (JC.region (by rfl) ?_)))
    intro hQ
    refine JL.bin rfl rfl rfl .none rfl ?_
    refine JL.move .none rfl ?_
    refine JL.done hQ ?_
    obtain rfl := Option.some.inj hF
    exact JQ.next rfl ⟨rfl, rfl, rfl, rfl, rfl, rfl, hs56⟩
  ·refine JC.cond_f (b := decide (x_55 < (s.length : Int))) rfl hc59 ?_
   refine JC.exit (JQ.exit_then (JQ.exit_then (JQ.exit_block ?_)))
   obtain rfl := Option.some.inj hF
   have ehr57 := hr57 _ rfl
   subst ehr57
   exact JQ.join () ⟨rfl, rfl, hs56, rfl⟩
 ·rintro _ H33 f bs gs ⟨rfl, rfl, hs33, rfl⟩
  have hF := hKr34
  try dsimp only at hF
  refine JQ.go (JC.seq (JC.region (by rfl) ?_))
  intro hQ
  refine JL.assign .none rfl ?_
  refine JL.done hQ (JQ.go (JC.ret ?_))
  obtain rfl := Option.some.inj hF
  exact JQ.outS rfl (.tmp .nil) rfl
-- 140 slices.ContainsFunc[[]int,int]
def F_slices_ContainsFunc___int_int_ (n : Nat) (s : List Int) (f_ : Int → Option Bool) : Option Bool :=
 (F_slices_IndexFunc___int_int_ n s f_).bind fun y1 => some (decide (0 ≤ y1))
theorem c_slices_ContainsFunc___int_int_ (n : Nat) (H : Hp) (s : List Int) (s_v0 : Value) (hs_0 : SL H 1 RInt s_v0 s) (f_ : Int → Option Bool) (f__k : Nat) (f__c : List Value) (f__e : Ent Try.prog f__k) (f__h : ∀ H', HSub H H' → ∀ (a0_ : Int) (y : Bool), f_ a0_ = some y → SC Try.prog f__k ([.int .i64 a0_] ++ f__c) (.bool y) H') (y : Bool) (hF : F_slices_ContainsFunc___int_int_ n s f_ = some y) : SC Try.prog 140 [s_v0, .func (.func f__k) #[] f__c.toArray] (.bool y) H := by
 rw [F_slices_ContainsFunc___int_int_] at hF
 refine SC.of (N := 9) Try.func140 rfl rfl rfl fun w => ?_
 refine JC.seq (JC.region (by rfl) ?_)
 intro hQ
 refine JL.assign .none rfl ?_
 refine JL.done hQ (JQ.go (JC.seq (JC.region (by rfl) ?_)))
 intro hQ
 refine JL.move .none rfl ?_
 refine JL.move .none rfl ?_
 obtain ⟨y1, hy1, hF⟩ := bind_some hF
 refine JL.callS (c_slices_IndexFunc___int_int_ n H s s_v0 hs_0 f_ f__k f__c f__e (fun H' hs' => f__h H' hs') y1 hy1) rfl en_178 .none rfl ?_
 refine JL.bin rfl rfl rfl .none rfl ?_
 refine JL.assign .none rfl ?_
 refine JL.done hQ (JQ.go (JC.ret ?_))
 obtain rfl := Option.some.inj hF
 exact JQ.outS rfl (.tmp .nil) rfl
-- 194 ferrule/cloth.all[int]
def F_cloth_all_int_ (n : Nat) (l : List Int) (is : Int → Option Bool) : Option Bool :=
 (F_slices_ContainsFunc___int_int_ n l (fun a0_ => F_cloth_all_int__1 n a0_ is)).bind fun y4 => some (!y4)
theorem c_cloth_all_int_ (n : Nat) (H : Hp) (l : List Int) (l_v0 : Value) (hl_0 : SL H 1 RInt l_v0 l) (is : Int → Option Bool) (is_k : Nat) (is_c : List Value) (is_e : Ent Try.prog is_k) (is_h : ∀ H', HSub H H' → ∀ (a0_ : Int) (y : Bool), is a0_ = some y → SC Try.prog is_k ([.int .i64 a0_] ++ is_c) (.bool y) H') (y : Bool) (hF : F_cloth_all_int_ n l is = some y) : SC Try.prog 194 [l_v0, .func (.func is_k) #[] is_c.toArray] (.bool y) H := by
 rw [F_cloth_all_int_] at hF
 refine SC.of (N := 9) Try.func194 rfl rfl rfl fun w => ?_
 refine JC.seq (JC.region (by rfl) ?_)
 intro hQ
 refine JL.box (cs := [.func (.func is_k) #[] is_c.toArray]) rfl .none rfl ?_
 intro b1
 refine JL.assign .none rfl ?_
 refine JL.done hQ (JQ.go (JC.seq (JC.region (by rfl) ?_)))
 intro hQ
 refine JL.move .none rfl ?_
 refine JL.makeFunc .none rfl ?_
 refine JL.freezeC 0 (l := [.func (.func is_k) #[] is_c.toArray]) rfl ?_
 intro H2 hs2 hc3
 obtain ⟨y4, hy4, hF⟩ := bind_some hF
 refine JL.callS (c_slices_ContainsFunc___int_int_ n H2 l l_v0 (SL.mono RInt.mono hs2 hl_0) (fun a0_ => F_cloth_all_int__1 n a0_ is) 225 [.pointer (some ⟨b1, 0, none⟩)] en_225 (fun H' hs' a0_ y' hy' => c_cloth_all_int__1 n H' a0_ is (.func (.func is_k) #[] is_c.toArray) (FN_124.mono hs' ⟨is_k, is_c, rfl, is_e, (fun H' hs' => is_h H' (HSub.trans hs2 hs'))⟩) b1 (Cells.mono hs' hc3) y' hy') y4 hy4) rfl en_140 .none rfl ?_
 refine JL.not rfl .none rfl ?_
 refine JL.assign .none rfl ?_
 refine JL.done hQ (JQ.go (JC.ret ?_))
 obtain rfl := Option.some.inj hF
 exact JQ.outS rfl (.tmp .nil) rfl
-- 226 ferrule/cloth.all[ferrule/api.Span]$1
def F_cloth_all_api_Span__1 (n : Nat) (x_ : Span) (c_0 : Span → Option Bool) : Option Bool :=
 (c_0 x_).bind fun y2 => some (!y2)
theorem c_cloth_all_api_Span__1 (n : Nat) (H : Hp) (x_ : Span) (c_0 : Span → Option Bool) (c_0_v0 : Value) (hc_0_0 : FN_133 H c_0_v0 c_0) (c_0_b : Nat) (c_0_c : Cells H c_0_b 0 [c_0_v0]) (y : Bool) (hF : F_cloth_all_api_Span__1 n x_ c_0 = some y) : SC Try.prog 226 [.agg [.int .i64 x_.Low, .int .i64 x_.High].toArray, .pointer (some ⟨c_0_b, 0, none⟩)] (.bool y) H := by
 rw [F_cloth_all_api_Span__1] at hF
 refine SC.of (N := 8) Try.func226 rfl rfl rfl fun w => ?_
 refine JC.seq (JC.region (by rfl) ?_)
 intro hQ
 refine JL.box (cs := [.int .i64 x_.Low, .int .i64 x_.High]) rfl .none rfl ?_
 intro b1
 refine JL.assign .none rfl ?_
 refine JL.done hQ (JQ.go (JC.seq (JC.region (by rfl) ?_)))
 intro hQ
 refine JL.loadH 0 az_133 rfl c_0_c rfl .none rfl ?_
 refine JL.loadOwn 0 az_39 rfl rfl rfl .none rfl ?_
 obtain ⟨y2, hy2, hF⟩ := bind_some hF
 obtain ⟨fk3, fc4, hv5, fe6, fh7⟩ := hc_0_0
 refine JL.callV hv5 (fh7 H (HSub.refl _) x_ y2 hy2) rfl fe6 .none rfl ?_
 refine JL.not rfl .none rfl ?_
 refine JL.assign .none rfl ?_
 refine JL.done hQ (JQ.go (JC.ret ?_))
 obtain rfl := Option.some.inj hF
 exact JQ.outS rfl (.tmp .nil) rfl
-- 177 slices.IndexFunc[[]ferrule/api.Span,ferrule/api.Span]
def F_slices_IndexFunc___api_Span_api_Span__s1 (n : Nat) (s : List Span) (f_ : Span → Option Bool) : Int → Option (Int ⊕ (Int ⊕ Unit))
 | x_55 => if decide (x_55 < (s.length : Int)) = true then ((geti s x_55).bind fun y60 => (f_ y60).bind fun y65 => if y65 = true then (some (Sum.inr (Sum.inl x_55))) else (some (Sum.inl (w64 (x_55 + 1))))) else (some (Sum.inr (Sum.inr ())))
def F_slices_IndexFunc___api_Span_api_Span_ (n : Nat) (s : List Span) (f_ : Span → Option Bool) : Option Int :=
 (loopO n (F_slices_IndexFunc___api_Span_api_Span__s1 n s f_) 0).bind fun r34 => match r34 with | .inl o => some o | .inr _ => some (-1)
theorem c_slices_IndexFunc___api_Span_api_Span_ (n : Nat) (H : Hp) (s : List Span) (s_v0 : Value) (hs_0 : SL H 2 R_Span s_v0 s) (f_ : Span → Option Bool) (f__k : Nat) (f__c : List Value) (f__e : Ent Try.prog f__k) (f__h : ∀ H', HSub H H' → ∀ (a0_ : Span) (y : Bool), f_ a0_ = some y → SC Try.prog f__k ([.agg [.int .i64 a0_.Low, .int .i64 a0_.High].toArray] ++ f__c) (.bool y) H') (y : Int) (hF : F_slices_IndexFunc___api_Span_api_Span_ n s f_ = some y) : SC Try.prog 177 [s_v0, .func (.func f__k) #[] f__c.toArray] (.int .i64 y) H := by
 rw [F_slices_IndexFunc___api_Span_api_Span_] at hF
 refine SC.of (N := 19) Try.func177 rfl rfl rfl fun w => ?_
 refine JC.seq (JC.region (by rfl) ?_)
 intro hQ
 refine JL.assign .none rfl ?_
 refine JL.done hQ (JQ.go (JC.seq (JC.seq (JC.region (by rfl) ?_))))
 intro hQ
 refine JL.move .none rfl ?_
 refine JL.lenSL (R := R_Span) ul_24 hs_0 .none rfl ?_
 refine JL.move .none rfl ?_
 refine JL.done hQ (JQ.go ?_)
 obtain ⟨r34, hlr34, hKr34⟩ := bind_some hF
 refine JC.join (fun (_ : Unit) H33 f bs gs => bs = [] ∧ gs = [] ∧ HSub H H33 ∧ Sum.inr () = r34) ?_ ?_
 ·skip
  refine JC.block (JC.loop hlr34 (fun (x_55 : Int) H56 f bs gs => f 0 = s_v0 ∧ f 1 = .func (.func f__k) #[] f__c.toArray ∧ f 7 = .int .i64 (s.length : Int) ∧ f 8 = .int .i64 x_55 ∧ bs = [] ∧ gs = [] ∧ HSub H H56) ⟨rfl, rfl, rfl, rfl, rfl, rfl, (HSub.refl _)⟩ ?_)
  rintro x_55 x58 H56 f bs gs ⟨hf0, hf1, hf7, hf8, rfl, rfl, hs56⟩ hF hr57
  rw [F_slices_IndexFunc___api_Span_api_Span__s1] at hF
  refine (JC.norm (i := 0) hf0 (JC.norm (i := 1) hf1 (JC.norm (i := 7) hf7 (JC.norm (i := 8) hf8 ?_))))
  refine JC.seq (JC.region (by rfl) ?_)
  intro hQ
  refine JL.bin rfl rfl rfl .none rfl ?_
  refine JL.done hQ (JQ.go (JC.seq ?_))
  rcases ite_some hF with ⟨hc59, hF⟩ | ⟨hc59, hF⟩
  ·refine JC.cond_t (b := decide (x_55 < (s.length : Int))) rfl hc59 ?_
   refine JC.skip (JQ.go (JC.seq (JC.block (JC.seq (JC.region (by rfl) ?_)))))
   intro hQ
   refine JL.move .none rfl ?_
   refine JL.assign .none rfl ?_
   refine JL.done hQ (JQ.go (JC.seq (JC.region (by rfl) ?_)))
   intro hQ
   refine JL.move .none rfl ?_
   refine JL.move .none rfl ?_
   refine JL.move .none rfl ?_
   obtain ⟨y60, hy60, hF⟩ := bind_some hF
   refine JL.indexSL (R := R_Span) sl_24 (SL.mono R_Span_mono hs56 hs_0) rfl hy60 .none rfl ?_
   rintro b61 o62 cs63 hc64 - rfl
   refine JL.loadH 0 az_39 rfl hc64 rfl .none rfl ?_
   obtain ⟨y65, hy65, hF⟩ := bind_some hF
   refine JL.callV rfl (f__h H56 hs56 y60 y65 hy65) rfl f__e .none rfl ?_
   refine JL.done hQ (JQ.go ?_)
   rcases ite_some hF with ⟨hc66, hF⟩ | ⟨hc66, hF⟩
   ·refine JC.cond_t (b := y65) rfl hc66 ?_
    refine JC.seq (JC.region (by rfl) ?_)
    intro hQ
    refine JL.move .none rfl ?_
    refine JL.assign .none rfl ?_
    refine JL.done hQ (JQ.go (JC.fresh (fun f => f 4 = .int .i64 x_55) rfl ?_))
    rintro f hf4
    refine (JC.norm (i := 4) hf4 ?_)
    refine JC.ret (JQ.ret_block (JQ.ret_then (JQ.ret_then (JQ.ret_block (JQ.ret_join (JQ.ret_then ?_))))))
    obtain rfl := Option.some.inj hF
    have ehr57 := hr57 _ rfl
    subst ehr57
    have hF := hKr34
    try dsimp only at hF
    obtain rfl := Option.some.inj hF
    exact JQ.outS rfl (.tmp .nil) rfl
   ·refine JC.cond_f (b := y65) rfl hc66 ?_
    refine JC.skip (JQ.normal_block (JQ.go (JC.region (by rfl) ?_)))
    intro hQ
    refine JL.bin rfl rfl rfl .none rfl ?_
    refine JL.move .none rfl ?_
    refine JL.done hQ ?_
    obtain rfl := Option.some.inj hF
    exact JQ.next rfl ⟨rfl, rfl, rfl, rfl, rfl, rfl, hs56⟩
  ·refine JC.cond_f (b := decide (x_55 < (s.length : Int))) rfl hc59 ?_
   refine JC.exit (JQ.exit_then (JQ.exit_then (JQ.exit_block ?_)))
   obtain rfl := Option.some.inj hF
   have ehr57 := hr57 _ rfl
   subst ehr57
   exact JQ.join () ⟨rfl, rfl, hs56, rfl⟩
 ·rintro _ H33 f bs gs ⟨rfl, rfl, hs33, rfl⟩
  have hF := hKr34
  try dsimp only at hF
  refine JQ.go (JC.seq (JC.region (by rfl) ?_))
  intro hQ
  refine JL.assign .none rfl ?_
  refine JL.done hQ (JQ.go (JC.ret ?_))
  obtain rfl := Option.some.inj hF
  exact JQ.outS rfl (.tmp .nil) rfl
-- 139 slices.ContainsFunc[[]ferrule/api.Span,ferrule/api.Span]
def F_slices_ContainsFunc___api_Span_api_Span_ (n : Nat) (s : List Span) (f_ : Span → Option Bool) : Option Bool :=
 (F_slices_IndexFunc___api_Span_api_Span_ n s f_).bind fun y1 => some (decide (0 ≤ y1))
theorem c_slices_ContainsFunc___api_Span_api_Span_ (n : Nat) (H : Hp) (s : List Span) (s_v0 : Value) (hs_0 : SL H 2 R_Span s_v0 s) (f_ : Span → Option Bool) (f__k : Nat) (f__c : List Value) (f__e : Ent Try.prog f__k) (f__h : ∀ H', HSub H H' → ∀ (a0_ : Span) (y : Bool), f_ a0_ = some y → SC Try.prog f__k ([.agg [.int .i64 a0_.Low, .int .i64 a0_.High].toArray] ++ f__c) (.bool y) H') (y : Bool) (hF : F_slices_ContainsFunc___api_Span_api_Span_ n s f_ = some y) : SC Try.prog 139 [s_v0, .func (.func f__k) #[] f__c.toArray] (.bool y) H := by
 rw [F_slices_ContainsFunc___api_Span_api_Span_] at hF
 refine SC.of (N := 9) Try.func139 rfl rfl rfl fun w => ?_
 refine JC.seq (JC.region (by rfl) ?_)
 intro hQ
 refine JL.assign .none rfl ?_
 refine JL.done hQ (JQ.go (JC.seq (JC.region (by rfl) ?_)))
 intro hQ
 refine JL.move .none rfl ?_
 refine JL.move .none rfl ?_
 obtain ⟨y1, hy1, hF⟩ := bind_some hF
 refine JL.callS (c_slices_IndexFunc___api_Span_api_Span_ n H s s_v0 hs_0 f_ f__k f__c f__e (fun H' hs' => f__h H' hs') y1 hy1) rfl en_177 .none rfl ?_
 refine JL.bin rfl rfl rfl .none rfl ?_
 refine JL.assign .none rfl ?_
 refine JL.done hQ (JQ.go (JC.ret ?_))
 obtain rfl := Option.some.inj hF
 exact JQ.outS rfl (.tmp .nil) rfl
-- 195 ferrule/cloth.all[ferrule/api.Span]
def F_cloth_all_api_Span_ (n : Nat) (l : List Span) (is : Span → Option Bool) : Option Bool :=
 (F_slices_ContainsFunc___api_Span_api_Span_ n l (fun a0_ => F_cloth_all_api_Span__1 n a0_ is)).bind fun y4 => some (!y4)
theorem c_cloth_all_api_Span_ (n : Nat) (H : Hp) (l : List Span) (l_v0 : Value) (hl_0 : SL H 2 R_Span l_v0 l) (is : Span → Option Bool) (is_k : Nat) (is_c : List Value) (is_e : Ent Try.prog is_k) (is_h : ∀ H', HSub H H' → ∀ (a0_ : Span) (y : Bool), is a0_ = some y → SC Try.prog is_k ([.agg [.int .i64 a0_.Low, .int .i64 a0_.High].toArray] ++ is_c) (.bool y) H') (y : Bool) (hF : F_cloth_all_api_Span_ n l is = some y) : SC Try.prog 195 [l_v0, .func (.func is_k) #[] is_c.toArray] (.bool y) H := by
 rw [F_cloth_all_api_Span_] at hF
 refine SC.of (N := 9) Try.func195 rfl rfl rfl fun w => ?_
 refine JC.seq (JC.region (by rfl) ?_)
 intro hQ
 refine JL.box (cs := [.func (.func is_k) #[] is_c.toArray]) rfl .none rfl ?_
 intro b1
 refine JL.assign .none rfl ?_
 refine JL.done hQ (JQ.go (JC.seq (JC.region (by rfl) ?_)))
 intro hQ
 refine JL.move .none rfl ?_
 refine JL.makeFunc .none rfl ?_
 refine JL.freezeC 0 (l := [.func (.func is_k) #[] is_c.toArray]) rfl ?_
 intro H2 hs2 hc3
 obtain ⟨y4, hy4, hF⟩ := bind_some hF
 refine JL.callS (c_slices_ContainsFunc___api_Span_api_Span_ n H2 l l_v0 (SL.mono R_Span_mono hs2 hl_0) (fun a0_ => F_cloth_all_api_Span__1 n a0_ is) 226 [.pointer (some ⟨b1, 0, none⟩)] en_226 (fun H' hs' a0_ y' hy' => c_cloth_all_api_Span__1 n H' a0_ is (.func (.func is_k) #[] is_c.toArray) (FN_133.mono hs' ⟨is_k, is_c, rfl, is_e, (fun H' hs' => is_h H' (HSub.trans hs2 hs'))⟩) b1 (Cells.mono hs' hc3) y' hy') y4 hy4) rfl en_139 .none rfl ?_
 refine JL.not rfl .none rfl ?_
 refine JL.assign .none rfl ?_
 refine JL.done hQ (JQ.go (JC.ret ?_))
 obtain rfl := Option.some.inj hF
 exact JQ.outS rfl (.tmp .nil) rfl
end Go.Proofs.Yteihdclpiekmaaa
end
