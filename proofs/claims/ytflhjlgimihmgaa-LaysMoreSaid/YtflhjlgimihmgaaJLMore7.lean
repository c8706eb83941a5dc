/-
  LaysMore holds of every input that can be given, without a condition.
-/
import Derived.Test.YtflhjlgimihmgaaJLMore6
import Derived.JoinedCond
section
set_option maxRecDepth 100000
set_option maxHeartbeats 40000000
namespace Go.Proofs.Ytflhjlgimihmgaa
open Go Go.RowKit Go.Dec
set_option linter.unusedVariables false
-- 3 ferrule/ferrulelaw03.LaysMore
def F_law03_LaysMore (n : Nat) (s : Lap) (x_ : law03_More) : Option Bool :=
 (F_law03_ready n s).bind fun y3 => if (((!y3) || (decide (2 < (s.Panels.length : Int)))) || (decide (20 < (x_.Panel.Rows.length : Int)))) = true then ((F_law03_works n).bind fun y9 => some y9) else ((F_ref03_Copy n s).bind fun y11 => (F_ref03_Copy n s).bind fun y17 => (lim (y11.Faults ++ [x_.Fault])).bind fun l103 => (lim (y17.Panels ++ [x_.Panel])).bind fun l112 => (F_law03_ready n (Lap.mk y11.Width y11.Length l103 y11.Flaws y11.Panels)).bind fun y123 => (if y123 = true then ((F_law03_atLeast n (Lap.mk y11.Width y11.Length l103 y11.Flaws y11.Panels) s).bind fun y128 => some (!y128)) else (some false) : Option Bool).bind fun p125 => (if p125 = true then (some true) else ((F_law03_ready n (Lap.mk y17.Width y17.Length y17.Faults y17.Flaws l112)).bind fun y151 => (if y151 = true then ((F_law03_atLeast n (Lap.mk y17.Width y17.Length y17.Faults y17.Flaws l112) s).bind fun y156 => some (!y156)) else (some false) : Option Bool).bind fun p153 => some p153) : Option Bool).bind fun p141 => if p141 = true then (some false) else (if ((decide (x_.Flaw < 0)) || (decide ((s.Flaws.length : Int) ≤ x_.Flaw))) = true then ((F_law03_works n).bind fun y161 => some y161) else ((F_ref03_Copy n s).bind fun y163 => (F_ref03_Copy n s).bind fun y169 => (slc y163.Flaws 0 x_.Flaw).bind fun y254 => (slc s.Flaws (w64 (x_.Flaw + 1)) s.Flaws.length).bind fun y258 => (lim (y254 ++ y258)).bind fun l261 => (geti s.Flaws x_.Flaw).bind fun y315 => (lim (y169.Faults ++ [y315])).bind fun l321 => (F_law03_ready n (Lap.mk y169.Width y169.Length l321 l261 y169.Panels)).bind fun y378 => if (!y378) = true then ((F_law03_works n).bind fun y380 => some y380) else ((F_lays_Least n s).bind fun y381 => (F_lays_Least n (Lap.mk y169.Width y169.Length l321 l261 y169.Panels)).bind fun y382 => (if ((y381.1 == y382.1) && (y381.2 == y382.2)) = true then ((F_law03_atLeast n (Lap.mk y169.Width y169.Length l321 l261 y169.Panels) s).bind fun y389 => some y389) else (some false) : Option Bool).bind fun p386 => (if p386 = true then ((F_law03_atLeast n s (Lap.mk y163.Width y163.Length y163.Faults l261 y163.Panels)).bind fun y400 => some y400) else (some false) : Option Bool).bind fun p394 => (if p394 = true then ((F_law03_works n).bind fun y405 => some y405) else (some false) : Option Bool).bind fun p402 => some p402))))
theorem c_law03_LaysMore (n : Nat) (H : Hp) (s : Lap) (s_v2 : Value) (hs_2 : SL H 2 R_Cell s_v2 s.Faults) (s_v3 : Value) (hs_3 : SL H 2 R_Cell s_v3 s.Flaws) (s_v4 : Value) (hs_4 : SL H 1 R_Panel s_v4 s.Panels) (x_ : law03_More) (x__v2 : Value) (hx__2 : SL H 2 R_Span x__v2 x_.Panel.Rows) (y : Bool) (hF : F_law03_LaysMore n s x_ = some y) : SC Try.prog 3 [.agg [.int .i64 s.Width, .int .i64 s.Length, s_v2, s_v3, s_v4].toArray, .agg [.int .i64 x_.Fault.Row, .int .i64 x_.Fault.Col, x__v2, .int .i64 x_.Flaw].toArray] (.bool y) H := by
 rw [F_law03_LaysMore] at hF
 refine SC.of (N := 144) Try.func3 rfl rfl rfl fun w => ?_
 refine JC.seq (JC.region (by rfl) ?_)
 intro hQ
 refine JL.box (cs := [.int .i64 s.Width, .int .i64 s.Length, s_v2, s_v3, s_v4]) rfl .none rfl ?_
 intro b1
 refine JL.box (cs := [.int .i64 x_.Fault.Row, .int .i64 x_.Fault.Col, x__v2, .int .i64 x_.Flaw]) rfl .none rfl ?_
 intro b2
 refine JL.assign .none rfl ?_
 refine JL.done hQ (JQ.go (JC.seq (JC.seq (JC.region (by rfl) ?_))))
 intro hQ
 refine JL.loadOwn 1 az_25 rfl rfl rfl .none rfl ?_
 obtain ⟨y3, hy3, hF⟩ := bind_some hF
 refine JL.callS (c_law03_ready n H s s_v2 hs_2 s_v3 hs_3 s_v4 hs_4 y3 hy3) rfl en_10 .none rfl ?_
 refine JL.not rfl .none rfl ?_
 refine JL.move .none rfl ?_
 refine JL.cut 5 (fun f => f 2 = .pointer (some ⟨b1, 0, none⟩) ∧ f 3 = .pointer (some ⟨b2, 0, none⟩) ∧ f 21 = .bool ((!y3) || (decide (2 < (s.Panels.length : Int))))) ?_ ?_
 ·intro hJ4
  rcases bcases (!y3) with hc5 | hc5
  ·skip
   refine JL.skip (.bool rfl rfl rfl hc5) rfl ?_
   refine JL.skip (.bool rfl rfl rfl hc5) rfl ?_
   refine JL.skip (.bool rfl rfl rfl hc5) rfl ?_
   refine JL.skip (.bool rfl rfl rfl hc5) rfl ?_
   refine JL.pick_t (b := (!y3)) rfl hc5 .none rfl ?_
   exact hJ4 _ ⟨rfl, rfl, or_t hc5 rfl⟩
  ·skip
   refine JL.fieldAddr fo_25_4 rfl (.some rfl rfl rfl hc5) rfl ?_
   refine JL.loadOwn 1 az_23 rfl rfl rfl (.some rfl rfl rfl hc5) rfl ?_
   refine JL.lenSL (R := R_Panel) ul_23 hs_4 (.some rfl rfl rfl hc5) rfl ?_
   refine JL.bin rfl rfl rfl (.some rfl rfl rfl hc5) rfl ?_
   refine JL.pick_f (b := (!y3)) rfl hc5 .none rfl ?_
   exact hJ4 _ ⟨rfl, rfl, or_f hc5 rfl⟩
 ·rintro f ⟨hf2, hf3, hf21⟩
  refine (JL.norm (i := 2) hf2 (JL.norm (i := 3) hf3 (JL.norm (i := 21) hf21 ?_)))
  refine JL.move .none rfl ?_
  refine JL.cut 6 (fun f => f 2 = .pointer (some ⟨b1, 0, none⟩) ∧ f 3 = .pointer (some ⟨b2, 0, none⟩) ∧ f 28 = .bool (((!y3) || (decide (2 < (s.Panels.length : Int)))) || (decide (20 < (x_.Panel.Rows.length : Int))))) ?_ ?_
  ·intro hJ6
   rcases bcases ((!y3) || (decide (2 < (s.Panels.length : Int)))) with hc7 | hc7
   ·skip
    refine JL.skip (.bool rfl rfl rfl hc7) rfl ?_
    refine JL.skip (.bool rfl rfl rfl hc7) rfl ?_
    refine JL.skip (.bool rfl rfl rfl hc7) rfl ?_
    refine JL.skip (.bool rfl rfl rfl hc7) rfl ?_
    refine JL.skip (.bool rfl rfl rfl hc7) rfl ?_
    refine JL.pick_t (b := ((!y3) || (decide (2 < (s.Panels.length : Int))))) rfl hc7 .none rfl ?_
    exact hJ6 _ ⟨rfl, rfl, or_t hc7 rfl⟩
   ·skip
    refine JL.fieldAddr fo_32_1 rfl (.some rfl rfl rfl hc7) rfl ?_
    refine JL.fieldAddr fo_30_0 rfl (.some rfl rfl rfl hc7) rfl ?_
    refine JL.loadOwn 0 az_28 rfl rfl rfl (.some rfl rfl rfl hc7) rfl ?_
    refine JL.lenSL (R := R_Span) ul_28 hx__2 (.some rfl rfl rfl hc7) rfl ?_
    refine JL.bin rfl rfl rfl (.some rfl rfl rfl hc7) rfl ?_
    refine JL.pick_f (b := ((!y3) || (decide (2 < (s.Panels.length : Int))))) rfl hc7 .none rfl ?_
    exact hJ6 _ ⟨rfl, rfl, or_f hc7 rfl⟩
  ·rintro f ⟨hf2, hf3, hf28⟩
   refine (JL.norm (i := 2) hf2 (JL.norm (i := 3) hf3 (JL.norm (i := 28) hf28 ?_)))
   refine JL.done hQ (JQ.go ?_)
   rcases ite_some hF with ⟨hc8, hF⟩ | ⟨hc8, hF⟩
   ·refine JC.cond_t (b := (((!y3) || (decide (2 < (s.Panels.length : Int)))) || (decide (20 < (x_.Panel.Rows.length : Int))))) rfl hc8 ?_
    refine JC.seq (JC.region (by rfl) ?_)
    intro hQ
    obtain ⟨y9, hy9, hF⟩ := bind_some hF
    refine JL.callS (c_law03_works n H y9 hy9) rfl en_11 .none rfl ?_
    refine JL.assign .none rfl ?_
    refine JL.done hQ (JQ.go (JC.ret (JQ.ret_then ?_)))
    obtain rfl := Option.some.inj hF
    exact JQ.outS rfl (.tmp .nil) rfl
   ·refine JC.cond_f (b := (((!y3) || (decide (2 < (s.Panels.length : Int)))) || (decide (20 < (x_.Panel.Rows.length : Int))))) rfl hc8 ?_
    refine JC.skip (JQ.go (JC.seq ?_))
    obtain ⟨y11, hy11, hF⟩ := bind_some hF
    obtain ⟨y17, hy17, hF⟩ := bind_some hF
    refine JC.mixed 8 8 #[false, false, false, false, false, false, false, false] [(b2, .cells [.int .i64 x_.Fault.Row, .int .i64 x_.Fault.Col, x__v2, .int .i64 x_.Flaw].toArray 32), (b1, .cells [.int .i64 s.Width, .int .i64 s.Length, s_v2, s_v3, s_v4].toArray 25)] (by rfl) mo_ (by kernel_rfl) (by kernel_rfl) ?_
    intro hQ hE
    refine JA.cut 2 #[true, true, true, true, true, true, false, false] (fun H89 f bs gs => ∃ (b76 : Nat) (b57 : Nat) (y17_v2 : Value) (y17_xs2 : List Value) (y17_v1 : Value) (y17_xs1 : List Value) (y17_v0 : Value) (y17_xs0 : List Value) (y11_v2 : Value) (y11_xs2 : List Value) (y11_v1 : Value) (y11_xs1 : List Value) (y11_v0 : Value) (y11_xs0 : List Value), f 2 = .pointer (some ⟨b1, 0, none⟩) ∧ f 3 = .pointer (some ⟨b2, 0, none⟩) ∧ f 5 = .pointer (some ⟨b57, 0, none⟩) ∧ f 6 = .pointer (some ⟨b76, 0, none⟩) ∧ f 31 = .agg [.int .i64 y11.Width, .int .i64 y11.Length, y11_v0, y11_v1, y11_v2].toArray ∧ f 33 = .agg [.int .i64 y17.Width, .int .i64 y17.Length, y17_v0, y17_v1, y17_v2].toArray ∧ bs = [(b76, .cells [.int .i64 0, .int .i64 0, .slice none 0 0, .slice none 0 0, .slice none 0 0].toArray 25), (b57, .cells [.int .i64 0, .int .i64 0, .slice none 0 0, .slice none 0 0, .slice none 0 0].toArray 25), (b2, .cells [.int .i64 x_.Fault.Row, .int .i64 x_.Fault.Col, x__v2, .int .i64 x_.Flaw].toArray 32), (b1, .cells [.int .i64 s.Width, .int .i64 s.Length, s_v2, s_v3, s_v4].toArray 25)] ∧ gs = [⟨y17_v2, 30, 1, y17.Panels.length, y17_xs2⟩, ⟨y17_v1, 27, 2, y17.Flaws.length, y17_xs1⟩, ⟨y17_v0, 27, 2, y17.Faults.length, y17_xs0⟩, ⟨y11_v2, 30, 1, y11.Panels.length, y11_xs2⟩, ⟨y11_v1, 27, 2, y11.Flaws.length, y11_xs1⟩, ⟨y11_v0, 27, 2, y11.Faults.length, y11_xs0⟩] ∧ CH H89 1 R_Panel y17_xs2 y17.Panels ∧ CH H89 2 R_Cell y17_xs1 y17.Flaws ∧ CH H89 2 R_Cell y17_xs0 y17.Faults ∧ CH H89 1 R_Panel y11_xs2 y11.Panels ∧ CH H89 2 R_Cell y11_xs1 y11.Flaws ∧ CH H89 2 R_Cell y11_xs0 y11.Faults ∧ HSub H H89) ?_ ?_
    ·rintro H89 f bs gs ⟨b76, b57, y17_v2, y17_xs2, y17_v1, y17_xs1, y17_v0, y17_xs0, y11_v2, y11_xs2, y11_v1, y11_xs1, y11_v0, y11_xs0, hf2, hf3, hf5, hf6, hf31, hf33, rfl, rfl, hm90, hm91, hm92, hm93, hm94, hm95, hs89⟩
     refine (JA.norm (i := 2) hf2 (JA.norm (i := 3) hf3 (JA.norm (i := 5) hf5 (JA.norm (i := 6) hf6 (JA.norm (i := 31) hf31 (JA.norm (i := 33) hf33 ?_))))))
     refine JA.many [6] (by kernel_rfl) (by simp) (all_one ⟨_, #[true, true, true, true, true, true, true, false], rfl, (by kernel_rfl), ?_⟩)
     refine JL.oneG 5 rfl (fun ho96 => ?_)
     refine JL.oneG 4 rfl (fun ho97 => ?_)
     refine JL.oneG 3 rfl (fun ho98 => ?_)
     refine JL.storeOwn 1 (cs := [.int .i64 y11.Width, .int .i64 y11.Length, y11_v0, y11_v1, y11_v2]) az_25 rfl rfl rfl (one_cons rfl (one_cons rfl (one_cons ho96.1 (one_cons ho97.1 (one_cons ho98.1 one_nil))))) rfl rfl .none ?_
     refine JA.after hE hs89 (.cons _ (.cons _ (.cons_cons _ (.cons_cons _ (List.nil_sublist _))))) ?_
     refine JA.many [7] (by kernel_rfl) (by simp) (all_one ⟨_, #[true, true, true, true, true, true, true, true], rfl, (by kernel_rfl), ?_⟩)
     refine JL.oneG 2 rfl (fun ho99 => ?_)
     refine JL.oneG 1 rfl (fun ho100 => ?_)
     refine JL.oneG 0 rfl (fun ho101 => ?_)
     refine JL.storeOwn 0 (cs := [.int .i64 y17.Width, .int .i64 y17.Length, y17_v0, y17_v1, y17_v2]) az_25 rfl rfl rfl (one_cons rfl (one_cons rfl (one_cons ho99.1 (one_cons ho100.1 (one_cons ho101.1 one_nil))))) rfl rfl .none ?_
     refine JA.after hE hs89 (.cons _ (.cons _ (.cons_cons _ (.cons_cons _ (List.nil_sublist _))))) ?_
     refine JA.done hQ (by kernel_rfl) ?_
     refine JQ.go (JC.seq (JC.region (by rfl) ?_))
     intro hQ
     refine JL.fieldAddr fo_25_2 rfl .none rfl ?_
     refine JL.loadOwn 1 az_22 rfl rfl rfl .none rfl ?_
     refine JL.fieldAddr fo_32_0 rfl .none rfl ?_
     refine JL.loadOwn 2 az_27 rfl rfl rfl .none rfl ?_
     refine JL.buildSlice (e := 27) (l := [.int .i64 x_.Fault.Row, .int .i64 x_.Fault.Col]) (by kernel_rfl) .none rfl ?_
     intro b102
     obtain ⟨l103, hl103, hF⟩ := bind_some hF
     refine JL.appO (R := R_Cell) 5 0 (l := y11.Faults) (m := [x_.Fault]) ap_22 rfl ⟨rfl, rfl⟩ rfl hm95 rfl rfl rfl (CH.cons (cs := [.int .i64 x_.Fault.Row, .int .i64 x_.Fault.Col]) rfl rfl CH.nil) rfl (one_cons rfl (one_cons rfl one_nil)) hl103 .none rfl ?_
     intro v104 xs105 hch106
     refine JL.fieldAddr fo_25_2 rfl .none rfl ?_
     refine JL.oneG 5 rfl (fun ho107 => ?_)
     refine JL.storeOwn 2 (cs := [v104]) az_22 rfl ho107.2 rfl (one_cons ho107.1 one_nil) rfl rfl .none ?_
     refine JL.done hQ (JQ.go (JC.seq (JC.region (by rfl) ?_)))
     intro hQ
     refine JL.fieldAddr fo_25_4 rfl .none rfl ?_
     refine JL.loadOwn 1 az_23 rfl rfl rfl .none rfl ?_
     refine JL.fieldAddr fo_32_1 rfl .none rfl ?_
     refine JL.loadOwn 3 az_30 rfl rfl rfl .none rfl ?_
     obtain ⟨a108, c109, rfl, hh110⟩ := hx__2
     have hx__2 : SL H 2 R_Span (.slice a108 x_.Panel.Rows.length c109) x_.Panel.Rows := ⟨a108, c109, rfl, hh110⟩
     refine JL.buildSlice (e := 30) (l := [(.slice a108 x_.Panel.Rows.length c109)]) (by kernel_rfl) .none rfl ?_
     intro b111
     obtain ⟨l112, hl112, hF⟩ := bind_some hF
     refine JL.appO (R := R_Panel) 0 0 (l := y17.Panels) (m := [x_.Panel]) ap_23 rfl ⟨rfl, rfl⟩ rfl hm90 rfl rfl rfl (CH.cons (cs := [(.slice a108 x_.Panel.Rows.length c109)]) rfl ⟨(.slice a108 x_.Panel.Rows.length c109), rfl, (SL.mono R_Span_mono hs89 hx__2)⟩ CH.nil) rfl (one_cons (SL.one (SL.mono R_Span_mono hs89 hx__2)) one_nil) hl112 .none rfl ?_
     intro v113 xs114 hch115
     refine JL.fieldAddr fo_25_4 rfl .none rfl ?_
     refine JL.oneG 0 rfl (fun ho116 => ?_)
     refine JL.storeOwn 2 (cs := [v113]) az_23 rfl ho116.2 rfl (one_cons ho116.1 one_nil) rfl rfl .none ?_
     refine JL.done hQ (JQ.go (JC.fresh (fun f => f 2 = .pointer (some ⟨b1, 0, none⟩) ∧ f 3 = .pointer (some ⟨b2, 0, none⟩) ∧ f 5 = .pointer (some ⟨b57, 0, none⟩) ∧ f 6 = .pointer (some ⟨b76, 0, none⟩)) ⟨rfl, rfl, rfl, rfl⟩ ?_))
     rintro f ⟨hf2, hf3, hf5, hf6⟩
     refine (JC.norm (i := 2) hf2 (JC.norm (i := 3) hf3 (JC.norm (i := 5) hf5 (JC.norm (i := 6) hf6 ?_))))
     refine JC.seq (JC.seq (JC.region (by rfl) ?_))
     intro hQ
     refine JL.loadOwn 3 az_25 rfl rfl rfl .none rfl ?_
     refine JL.freezeG 5 (R := R_Cell) rfl R_Cell_mono hch106 rfl ?_
     intro H117 hs117 hg118
     refine JL.freezeG 4 (R := R_Cell) rfl R_Cell_mono (CH.mono R_Cell_mono hs117 hm94) rfl ?_
     intro H119 hs119 hg120
     refine JL.freezeG 3 (R := R_Panel) rfl R_Panel_mono (CH.mono R_Panel_mono (HSub.trans hs117 hs119) hm93) rfl ?_
     intro H121 hs121 hg122
     obtain ⟨y123, hy123, hF⟩ := bind_some hF
     refine JL.callS (c_law03_ready n H121 (Lap.mk y11.Width y11.Length l103 y11.Flaws y11.Panels) v104 (SL.mono R_Cell_mono (HSub.trans hs119 hs121) hg118) y11_v1 (SL.mono R_Cell_mono hs121 hg120) y11_v2 hg122 y123 hy123) rfl en_10 .none rfl ?_
     refine JL.move .none rfl ?_
     obtain ⟨p125, hp125, hF⟩ := bind_some hF
     refine JL.cut 5 (fun f => f 2 = .pointer (some ⟨b1, 0, none⟩) ∧ f 3 = .pointer (some ⟨b2, 0, none⟩) ∧ f 6 = .pointer (some ⟨b76, 0, none⟩) ∧ f 55 = .bool p125) ?_ ?_
     ·intro hJ126
      rcases ite_some hp125 with ⟨hc127, hF⟩ | ⟨hc127, hF⟩
      ·skip
       refine JL.loadOwn 3 az_25 rfl rfl rfl (.some rfl rfl rfl hc127) rfl ?_
       refine JL.loadOwn 5 az_25 rfl rfl rfl (.some rfl rfl rfl hc127) rfl ?_
       obtain ⟨y128, hy128, hF⟩ := bind_some hF
       refine JL.callS (c_law03_atLeast n H121 (Lap.mk y11.Width y11.Length l103 y11.Flaws y11.Panels) v104 (SL.mono R_Cell_mono (HSub.trans hs119 hs121) hg118) y11_v1 (SL.mono R_Cell_mono hs121 hg120) y11_v2 hg122 s s_v2 (SL.mono R_Cell_mono (HSub.trans hs89 (HSub.trans hs117 (HSub.trans hs119 hs121))) hs_2) s_v3 (SL.mono R_Cell_mono (HSub.trans hs89 (HSub.trans hs117 (HSub.trans hs119 hs121))) hs_3) s_v4 (SL.mono R_Panel_mono (HSub.trans hs89 (HSub.trans hs117 (HSub.trans hs119 hs121))) hs_4) y128 hy128) rfl en_13 (.some rfl rfl rfl hc127) rfl ?_
       refine JL.not rfl (.some rfl rfl rfl hc127) rfl ?_
       refine JL.pick_t (b := y123) rfl hc127 .none rfl ?_
       obtain rfl := Option.some.inj hF
       exact hJ126 _ ⟨rfl, rfl, rfl, rfl⟩
      ·skip
       refine JL.skip (.bool rfl rfl rfl hc127) rfl ?_
       refine JL.skip (.bool rfl rfl rfl hc127) rfl ?_
       refine JL.skip (.bool rfl rfl rfl hc127) rfl ?_
       refine JL.skip (.bool rfl rfl rfl hc127) rfl ?_
       refine JL.pick_f (b := y123) rfl hc127 .none rfl ?_
       obtain rfl := Option.some.inj hF
       exact hJ126 _ ⟨rfl, rfl, rfl, rfl⟩
     ·rintro f ⟨hf2, hf3, hf6, hf55⟩
      refine (JL.norm (i := 2) hf2 (JL.norm (i := 3) hf3 (JL.norm (i := 6) hf6 (JL.norm (i := 55) hf55 ?_))))
      refine JL.move .none rfl ?_
      obtain ⟨p141, hp141, hF⟩ := bind_some hF
      refine JL.cutW 9 (fun H142 f bs gs => f 2 = .pointer (some ⟨b1, 0, none⟩) ∧ f 3 = .pointer (some ⟨b2, 0, none⟩) ∧ f 65 = .bool p141 ∧ bs = [(b2, .cells [.int .i64 x_.Fault.Row, .int .i64 x_.Fault.Col, (.slice a108 x_.Panel.Rows.length c109), .int .i64 x_.Flaw].toArray 32), (b1, .cells [.int .i64 s.Width, .int .i64 s.Length, s_v2, s_v3, s_v4].toArray 25)] ∧ gs = [] ∧ HSub H121 H142) ?_ ?_
      ·intro hJ143
       rcases ite_some hp141 with ⟨hc144, hF⟩ | ⟨hc144, hF⟩
       ·skip
        refine JL.skip (.bool rfl rfl rfl hc144) rfl ?_
        refine JL.skip (.bool rfl rfl rfl hc144) rfl ?_
        refine JL.skip (.bool rfl rfl rfl hc144) rfl ?_
        refine JL.skip (.no rfl rfl rfl) rfl ?_
        refine JL.skip (.no rfl rfl rfl) rfl ?_
        refine JL.skip (.no rfl rfl rfl) rfl ?_
        refine JL.skip (.no rfl rfl rfl) rfl ?_
        refine JL.skip (.bool rfl rfl rfl hc144) rfl ?_
        refine JL.pick_t (b := p125) rfl hc144 .none rfl ?_
        obtain rfl := Option.some.inj hF
        refine JL.mask [false, false, false, false, true, true] [false, false, false] ?_
        exact hJ143 _ _ _ _ ⟨rfl, rfl, rfl, rfl, rfl, (HSub.refl _)⟩
       ·skip
        refine JL.loadOwn 2 az_25 rfl rfl rfl (.some rfl rfl rfl hc144) rfl ?_
        refine JL.freezeG 2 (R := R_Cell) rfl R_Cell_mono (CH.mono R_Cell_mono (HSub.trans hs117 (HSub.trans hs119 hs121)) hm92) rfl ?_
        intro H145 hs145 hg146
        refine JL.freezeG 1 (R := R_Cell) rfl R_Cell_mono (CH.mono R_Cell_mono (HSub.trans hs117 (HSub.trans hs119 (HSub.trans hs121 hs145))) hm91) rfl ?_
        intro H147 hs147 hg148
        refine JL.freezeG 0 (R := R_Panel) rfl R_Panel_mono (CH.mono R_Panel_mono (HSub.trans hs117 (HSub.trans hs119 (HSub.trans hs121 (HSub.trans hs145 hs147)))) hch115) rfl ?_
        intro H149 hs149 hg150
        obtain ⟨y151, hy151, hF⟩ := bind_some hF
        refine JL.callS (c_law03_ready n H149 (Lap.mk y17.Width y17.Length y17.Faults y17.Flaws l112) y17_v0 (SL.mono R_Cell_mono (HSub.trans hs147 hs149) hg146) y17_v1 (SL.mono R_Cell_mono hs149 hg148) v113 hg150 y151 hy151) rfl en_10 (.some rfl rfl rfl hc144) rfl ?_
        refine JL.move (.some rfl rfl rfl hc144) rfl ?_
        obtain ⟨p153, hp153, hF⟩ := bind_some hF
        refine JL.cut 5 (fun f => f 2 = .pointer (some ⟨b1, 0, none⟩) ∧ f 3 = .pointer (some ⟨b2, 0, none⟩) ∧ f 56 = .bool p125 ∧ f 64 = .bool p153) ?_ ?_
        ·intro hJ154
         rcases ite_some hp153 with ⟨hc155, hF⟩ | ⟨hc155, hF⟩
         ·skip
          refine JL.loadOwn 2 az_25 rfl rfl rfl (.some rfl rfl rfl hc155) rfl ?_
          refine JL.loadOwn 5 az_25 rfl rfl rfl (.some rfl rfl rfl hc155) rfl ?_
          obtain ⟨y156, hy156, hF⟩ := bind_some hF
          refine JL.callS (c_law03_atLeast n H149 (Lap.mk y17.Width y17.Length y17.Faults y17.Flaws l112) y17_v0 (SL.mono R_Cell_mono (HSub.trans hs147 hs149) hg146) y17_v1 (SL.mono R_Cell_mono hs149 hg148) v113 hg150 s s_v2 (SL.mono R_Cell_mono (HSub.trans hs89 (HSub.trans hs117 (HSub.trans hs119 (HSub.trans hs121 (HSub.trans hs145 (HSub.trans hs147 hs149)))))) hs_2) s_v3 (SL.mono R_Cell_mono (HSub.trans hs89 (HSub.trans hs117 (HSub.trans hs119 (HSub.trans hs121 (HSub.trans hs145 (HSub.trans hs147 hs149)))))) hs_3) s_v4 (SL.mono R_Panel_mono (HSub.trans hs89 (HSub.trans hs117 (HSub.trans hs119 (HSub.trans hs121 (HSub.trans hs145 (HSub.trans hs147 hs149)))))) hs_4) y156 hy156) rfl en_13 (.some rfl rfl rfl hc155) rfl ?_
          refine JL.not rfl (.some rfl rfl rfl hc155) rfl ?_
          refine JL.pick_t (b := y151) rfl hc155 (.some rfl rfl rfl hc144) rfl ?_
          obtain rfl := Option.some.inj hF
          exact hJ154 _ ⟨rfl, rfl, rfl, rfl⟩
         ·skip
          refine JL.skip (.bool rfl rfl rfl hc155) rfl ?_
          refine JL.skip (.bool rfl rfl rfl hc155) rfl ?_
          refine JL.skip (.bool rfl rfl rfl hc155) rfl ?_
          refine JL.skip (.bool rfl rfl rfl hc155) rfl ?_
          refine JL.pick_f (b := y151) rfl hc155 (.some rfl rfl rfl hc144) rfl ?_
          obtain rfl := Option.some.inj hF
          exact hJ154 _ ⟨rfl, rfl, rfl, rfl⟩
        ·rintro f ⟨hf2, hf3, hf56, hf64⟩
         refine (JL.norm (i := 2) hf2 (JL.norm (i := 3) hf3 (JL.norm (i := 56) hf56 (JL.norm (i := 64) hf64 ?_))))
         refine JL.pick_f (b := p125) rfl hc144 .none rfl ?_
         obtain rfl := Option.some.inj hF
         refine JL.mask [false, false, false, false, true, true] [] ?_
         exact hJ143 _ _ _ _ ⟨rfl, rfl, rfl, rfl, rfl, (HSub.trans hs145 (HSub.trans hs147 hs149))⟩
      ·rintro H142 f bs gs ⟨hf2, hf3, hf65, rfl, rfl, hs142⟩
       refine (JL.norm (i := 2) hf2 (JL.norm (i := 3) hf3 (JL.norm (i := 65) hf65 ?_)))
       refine JL.done hQ (JQ.go ?_)
       rcases ite_some hF with ⟨hc157, hF⟩ | ⟨hc157, hF⟩
       ·refine JC.cond_t (b := p141) rfl hc157 ?_
        refine JC.seq (JC.region (by rfl) ?_)
        intro hQ
        refine JL.assign .none rfl ?_
        refine JL.done hQ (JQ.go (JC.ret (JQ.ret_then ?_)))
        obtain rfl := Option.some.inj hF
        exact JQ.outS rfl (.tmp .nil) rfl
       ·refine JC.cond_f (b := p141) rfl hc157 ?_
        refine JC.skip (JQ.go (JC.seq (JC.seq (JC.region (by rfl) ?_))))
        intro hQ
        refine JL.fieldAddr fo_32_2 rfl .none rfl ?_
        refine JL.loadOwn 0 az_3 rfl rfl rfl .none rfl ?_
        refine JL.bin rfl rfl rfl .none rfl ?_
        refine JL.move .none rfl ?_
        refine JL.cut 7 (fun f => f 2 = .pointer (some ⟨b1, 0, none⟩) ∧ f 3 = .pointer (some ⟨b2, 0, none⟩) ∧ f 76 = .bool ((decide (x_.Flaw < 0)) || (decide ((s.Flaws.length : Int) ≤ x_.Flaw)))) ?_ ?_
        ·intro hJ158
         rcases bcases (decide (x_.Flaw < 0)) with hc159 | hc159
         ·skip
          refine JL.skip (.bool rfl rfl rfl hc159) rfl ?_
          refine JL.skip (.bool rfl rfl rfl hc159) rfl ?_
          refine JL.skip (.bool rfl rfl rfl hc159) rfl ?_
          refine JL.skip (.bool rfl rfl rfl hc159) rfl ?_
          refine JL.skip (.bool rfl rfl rfl hc159) rfl ?_
          refine JL.skip (.bool rfl rfl rfl hc159) rfl ?_
          refine JL.pick_t (b := decide (x_.Flaw < 0)) rfl hc159 .none rfl ?_
          exact hJ158 _ ⟨rfl, rfl, or_t hc159 rfl⟩
         ·skip
          refine JL.fieldAddr fo_32_2 rfl (.some rfl rfl rfl hc159) rfl ?_
          refine JL.loadOwn 0 az_3 rfl rfl rfl (.some rfl rfl rfl hc159) rfl ?_
          refine JL.fieldAddr fo_25_3 rfl (.some rfl rfl rfl hc159) rfl ?_
          refine JL.loadOwn 1 az_22 rfl rfl rfl (.some rfl rfl rfl hc159) rfl ?_
          refine JL.lenSL (R := R_Cell) ul_22 (SL.mono R_Cell_mono (HSub.trans hs89 (HSub.trans hs117 (HSub.trans hs119 (HSub.trans hs121 hs142)))) hs_3) (.some rfl rfl rfl hc159) rfl ?_
          refine JL.bin rfl rfl rfl (.some rfl rfl rfl hc159) rfl ?_
          refine JL.pick_f (b := decide (x_.Flaw < 0)) rfl hc159 .none rfl ?_
          exact hJ158 _ ⟨rfl, rfl, or_f hc159 rfl⟩
        ·rintro f ⟨hf2, hf3, hf76⟩
         refine (JL.norm (i := 2) hf2 (JL.norm (i := 3) hf3 (JL.norm (i := 76) hf76 ?_)))
         refine JL.done hQ (JQ.go ?_)
         rcases ite_some hF with ⟨hc160, hF⟩ | ⟨hc160, hF⟩
         ·refine JC.cond_t (b := ((decide (x_.Flaw < 0)) || (decide ((s.Flaws.length : Int) ≤ x_.Flaw)))) rfl hc160 ?_
          refine JC.seq (JC.region (by rfl) ?_)
          intro hQ
          obtain ⟨y161, hy161, hF⟩ := bind_some hF
          refine JL.callS (c_law03_works n H142 y161 hy161) rfl en_11 .none rfl ?_
          refine JL.assign .none rfl ?_
          refine JL.done hQ (JQ.go (JC.ret (JQ.ret_then ?_)))
          obtain rfl := Option.some.inj hF
          exact JQ.outS rfl (.tmp .nil) rfl
         ·refine JC.cond_f (b := ((decide (x_.Flaw < 0)) || (decide ((s.Flaws.length : Int) ≤ x_.Flaw)))) rfl hc160 ?_
          refine JC.skip (JQ.go (JC.seq ?_))
          obtain ⟨y163, hy163, hF⟩ := bind_some hF
          obtain ⟨y169, hy169, hF⟩ := bind_some hF
          refine JC.mixed 8 8 #[false, false, false, false, false, false, false, false] [(b2, .cells [.int .i64 x_.Fault.Row, .int .i64 x_.Fault.Col, (.slice a108 x_.Panel.Rows.length c109), .int .i64 x_.Flaw].toArray 32), (b1, .cells [.int .i64 s.Width, .int .i64 s.Length, s_v2, s_v3, s_v4].toArray 25)] (by rfl) mo_ (by kernel_rfl) (by kernel_rfl) ?_
          intro hQ hE
          refine JA.cut 2 #[true, true, true, true, true, true, false, false] (fun H241 f bs gs => ∃ (b228 : Nat) (b209 : Nat) (y169_v2 : Value) (y169_xs2 : List Value) (y169_v1 : Value) (y169_xs1 : List Value) (y169_v0 : Value) (y169_xs0 : List Value) (y163_v2 : Value) (y163_xs2 : List Value) (y163_v1 : Value) (y163_xs1 : List Value) (y163_v0 : Value) (y163_xs0 : List Value), f 2 = .pointer (some ⟨b1, 0, none⟩) ∧ f 3 = .pointer (some ⟨b2, 0, none⟩) ∧ f 7 = .pointer (some ⟨b209, 0, none⟩) ∧ f 8 = .pointer (some ⟨b228, 0, none⟩) ∧ f 79 = .agg [.int .i64 y163.Width, .int .i64 y163.Length, y163_v0, y163_v1, y163_v2].toArray ∧ f 81 = .agg [.int .i64 y169.Width, .int .i64 y169.Length, y169_v0, y169_v1, y169_v2].toArray ∧ bs = [(b228, .cells [.int .i64 0, .int .i64 0, .slice none 0 0, .slice none 0 0, .slice none 0 0].toArray 25), (b209, .cells [.int .i64 0, .int .i64 0, .slice none 0 0, .slice none 0 0, .slice none 0 0].toArray 25), (b2, .cells [.int .i64 x_.Fault.Row, .int .i64 x_.Fault.Col, (.slice a108 x_.Panel.Rows.length c109), .int .i64 x_.Flaw].toArray 32), (b1, .cells [.int .i64 s.Width, .int .i64 s.Length, s_v2, s_v3, s_v4].toArray 25)] ∧ gs = [⟨y169_v2, 30, 1, y169.Panels.length, y169_xs2⟩, ⟨y169_v1, 27, 2, y169.Flaws.length, y169_xs1⟩, ⟨y169_v0, 27, 2, y169.Faults.length, y169_xs0⟩, ⟨y163_v2, 30, 1, y163.Panels.length, y163_xs2⟩, ⟨y163_v1, 27, 2, y163.Flaws.length, y163_xs1⟩, ⟨y163_v0, 27, 2, y163.Faults.length, y163_xs0⟩] ∧ CH H241 1 R_Panel y169_xs2 y169.Panels ∧ CH H241 2 R_Cell y169_xs1 y169.Flaws ∧ CH H241 2 R_Cell y169_xs0 y169.Faults ∧ CH H241 1 R_Panel y163_xs2 y163.Panels ∧ CH H241 2 R_Cell y163_xs1 y163.Flaws ∧ CH H241 2 R_Cell y163_xs0 y163.Faults ∧ HSub H142 H241) ?_ ?_
          ·rintro H241 f bs gs ⟨b228, b209, y169_v2, y169_xs2, y169_v1, y169_xs1, y169_v0, y169_xs0, y163_v2, y163_xs2, y163_v1, y163_xs1, y163_v0, y163_xs0, hf2, hf3, hf7, hf8, hf79, hf81, rfl, rfl, hm242, hm243, hm244, hm245, hm246, hm247, hs241⟩
           refine (JA.norm (i := 2) hf2 (JA.norm (i := 3) hf3 (JA.norm (i := 7) hf7 (JA.norm (i := 8) hf8 (JA.norm (i := 79) hf79 (JA.norm (i := 81) hf81 ?_))))))
           refine JA.many [6] (by kernel_rfl) (by simp) (all_one ⟨_, #[true, true, true, true, true, true, true, false], rfl, (by kernel_rfl), ?_⟩)
           refine JL.oneG 5 rfl (fun ho248 => ?_)
           refine JL.oneG 4 rfl (fun ho249 => ?_)
           refine JL.oneG 3 rfl (fun ho250 => ?_)
           refine JL.storeOwn 1 (cs := [.int .i64 y163.Width, .int .i64 y163.Length, y163_v0, y163_v1, y163_v2]) az_25 rfl rfl rfl (one_cons rfl (one_cons rfl (one_cons ho248.1 (one_cons ho249.1 (one_cons ho250.1 one_nil))))) rfl rfl .none ?_
           refine JA.after hE hs241 (.cons _ (.cons _ (.cons_cons _ (.cons_cons _ (List.nil_sublist _))))) ?_
           refine JA.many [7] (by kernel_rfl) (by simp) (all_one ⟨_, #[true, true, true, true, true, true, true, true], rfl, (by kernel_rfl), ?_⟩)
           refine JL.oneG 2 rfl (fun ho251 => ?_)
           refine JL.oneG 1 rfl (fun ho252 => ?_)
           refine JL.oneG 0 rfl (fun ho253 => ?_)
           refine JL.storeOwn 0 (cs := [.int .i64 y169.Width, .int .i64 y169.Length, y169_v0, y169_v1, y169_v2]) az_25 rfl rfl rfl (one_cons rfl (one_cons rfl (one_cons ho251.1 (one_cons ho252.1 (one_cons ho253.1 one_nil))))) rfl rfl .none ?_
           refine JA.after hE hs241 (.cons _ (.cons _ (.cons_cons _ (.cons_cons _ (List.nil_sublist _))))) ?_
           refine JA.done hQ (by kernel_rfl) ?_
           refine JQ.go (JC.seq ?_)
           obtain ⟨y254, hy254, hF⟩ := bind_some hF
           obtain ⟨y258, hy258, hF⟩ := bind_some hF
           obtain ⟨l261, hl261, hF⟩ := bind_some hF
           refine JC.mixed 13 14 #[false, false, false, false, false, false, false, false, false, false, false, false, false, false] [(b228, .cells [.int .i64 y169.Width, .int .i64 y169.Length, y169_v0, y169_v1, y169_v2].toArray 25), (b209, .cells [.int .i64 y163.Width, .int .i64 y163.Length, y163_v0, y163_v1, y163_v2].toArray 25), (b2, .cells [.int .i64 x_.Fault.Row, .int .i64 x_.Fault.Col, (.slice a108 x_.Panel.Rows.length c109), .int .i64 x_.Flaw].toArray 32), (b1, .cells [.int .i64 s.Width, .int .i64 s.Length, s_v2, s_v3, s_v4].toArray 25)] (by rfl) mo_ (by kernel_rfl) (by kernel_rfl) ?_
           intro hQ hE
           refine JA.take 0 (listed' := #[true, false, false, false, false, false, false, false, false, false, false, false, false, false]) hQ rfl (by kernel_rfl) (by kernel_rfl) (by kernel_rfl) (by kernel_rfl) (by kernel_rfl) hE (HSub.refl _) (.cons_cons _ (.cons_cons _ (.cons_cons _ (.cons_cons _ (List.nil_sublist _))))) ?_
           refine JL.fieldAddr fo_25_3 rfl .none rfl ?_
           refine JA.cont ?_
           refine JA.take 1 (listed' := #[true, true, false, false, false, false, false, false, false, false, false, false, false, false]) hQ rfl (by kernel_rfl) (by kernel_rfl) (by kernel_rfl) (by kernel_rfl) (by kernel_rfl) hE (HSub.refl _) (.cons_cons _ (.cons_cons _ (.cons_cons _ (.cons_cons _ (List.nil_sublist _))))) ?_
           refine JL.loadOwn 1 az_22 rfl rfl rfl .none rfl ?_
           refine JA.cont ?_
           refine JA.take 2 (listed' := #[true, true, true, false, false, false, false, false, false, false, false, false, false, false]) hQ rfl (by kernel_rfl) (by kernel_rfl) (by kernel_rfl) (by kernel_rfl) (by kernel_rfl) hE (HSub.refl _) (.cons_cons _ (.cons_cons _ (.cons_cons _ (.cons_cons _ (List.nil_sublist _))))) ?_
           refine JL.fieldAddr fo_32_2 rfl .none rfl ?_
           refine JA.cont ?_
           refine JA.take 3 (listed' := #[true, true, true, true, false, false, false, false, false, false, false, false, false, false]) hQ rfl (by kernel_rfl) (by kernel_rfl) (by kernel_rfl) (by kernel_rfl) (by kernel_rfl) hE (HSub.refl _) (.cons_cons _ (.cons_cons _ (.cons_cons _ (.cons_cons _ (List.nil_sublist _))))) ?_
           refine JL.loadOwn 2 az_3 rfl rfl rfl .none rfl ?_
           refine JA.cont ?_
           refine JA.take 5 (listed' := #[true, true, true, true, false, true, false, false, false, false, false, false, false, false]) hQ rfl (by kernel_rfl) (by kernel_rfl) (by kernel_rfl) (by kernel_rfl) (by kernel_rfl) hE (HSub.refl _) (.cons_cons _ (.cons_cons _ (.cons_cons _ (.cons_cons _ (List.nil_sublist _))))) ?_
           refine JL.fieldAddr fo_25_3 rfl .none rfl ?_
           refine JA.cont ?_
           refine JA.take 6 (listed' := #[true, true, true, true, false, true, true, false, false, false, false, false, false, false]) hQ rfl (by kernel_rfl) (by kernel_rfl) (by kernel_rfl) (by kernel_rfl) (by kernel_rfl) hE (HSub.refl _) (.cons_cons _ (.cons_cons _ (.cons_cons _ (.cons_cons _ (List.nil_sublist _))))) ?_
           refine JL.loadOwn 3 az_22 rfl rfl rfl .none rfl ?_
           refine JA.cont ?_
           refine JA.take 7 (listed' := #[true, true, true, true, false, true, true, true, false, false, false, false, false, false]) hQ rfl (by kernel_rfl) (by kernel_rfl) (by kernel_rfl) (by kernel_rfl) (by kernel_rfl) hE (HSub.refl _) (.cons_cons _ (.cons_cons _ (.cons_cons _ (.cons_cons _ (List.nil_sublist _))))) ?_
           refine JL.fieldAddr fo_32_2 rfl .none rfl ?_
           refine JA.cont ?_
           refine JA.take 8 (listed' := #[true, true, true, true, false, true, true, true, true, false, false, false, false, false]) hQ rfl (by kernel_rfl) (by kernel_rfl) (by kernel_rfl) (by kernel_rfl) (by kernel_rfl) hE (HSub.refl _) (.cons_cons _ (.cons_cons _ (.cons_cons _ (.cons_cons _ (List.nil_sublist _))))) ?_
           refine JL.loadOwn 2 az_3 rfl rfl rfl .none rfl ?_
           refine JA.cont ?_
           refine JA.take 9 (listed' := #[true, true, true, true, false, true, true, true, true, true, false, false, false, false]) hQ rfl (by kernel_rfl) (by kernel_rfl) (by kernel_rfl) (by kernel_rfl) (by kernel_rfl) hE (HSub.refl _) (.cons_cons _ (.cons_cons _ (.cons_cons _ (.cons_cons _ (List.nil_sublist _))))) ?_
           refine JL.bin rfl rfl rfl .none rfl ?_
           refine JA.cont ?_
           refine JA.take 10 (listed' := #[true, true, true, true, false, true, true, true, true, true, true, false, false, false]) hQ rfl (by kernel_rfl) (by kernel_rfl) (by kernel_rfl) (by kernel_rfl) (by kernel_rfl) hE (HSub.refl _) (.cons_cons _ (.cons_cons _ (.cons_cons _ (.cons_cons _ (List.nil_sublist _))))) ?_
           refine JL.sliceLo (R := R_Cell) sl_22 (SL.mono R_Cell_mono (HSub.trans hs89 (HSub.trans hs117 (HSub.trans hs119 (HSub.trans hs121 (HSub.trans hs142 hs241))))) hs_3) rfl hy258 .none rfl ?_
           intro v301 hv302
           refine JA.cont ?_
           refine JA.many [4] (by kernel_rfl) (by simp) (all_one ⟨_, #[true, true, true, true, true, true, true, true, true, true, true, false, false, false], rfl, (by kernel_rfl), ?_⟩)
           refine JL.sliceG (R := R_Cell) (l := y163.Flaws) 4 sl_22 rfl ⟨rfl, rfl⟩ rfl rfl hm246 rfl hy254 .none rfl ?_
           intro v303 xs304 hch305
           refine JA.after hE (HSub.refl _) (.cons_cons _ (.cons_cons _ (.cons_cons _ (.cons_cons _ (List.nil_sublist _))))) ?_
           refine JA.many [11] (by kernel_rfl) (by simp) (all_one ⟨_, #[true, true, true, true, true, true, true, true, true, true, true, true, false, false], rfl, (by kernel_rfl), ?_⟩)
           refine JL.appD (R := R_Cell) 4 (l := y254) (m := y258) ap_22 rfl ⟨rfl, rfl⟩ rfl hch305 rfl hv302 (R_Cell_one _) hl261 .none rfl ?_
           intro v306 xs307 hch308
           refine JA.after hE (HSub.refl _) (.cons_cons _ (.cons_cons _ (.cons_cons _ (.cons_cons _ (List.nil_sublist _))))) ?_
           refine JA.take 12 (listed' := #[true, true, true, true, true, true, true, true, true, true, true, true, true, false]) hQ rfl (by kernel_rfl) (by kernel_rfl) (by kernel_rfl) (by kernel_rfl) (by kernel_rfl) hE (HSub.refl _) (.cons_cons _ (.cons_cons _ (.cons_cons _ (.cons_cons _ (List.nil_sublist _))))) ?_
           refine JL.fieldAddr fo_25_3 rfl .none rfl ?_
           refine JA.cont ?_
           refine JA.many [13] (by kernel_rfl) (by simp) (all_one ⟨_, #[true, true, true, true, true, true, true, true, true, true, true, true, true, true], rfl, (by kernel_rfl), ?_⟩)
           refine JL.oneG 4 rfl (fun ho309 => ?_)
           refine JL.storeOwn 1 (cs := [v306]) az_22 rfl ho309.2 rfl (one_cons ho309.1 one_nil) rfl rfl .none ?_
           refine JA.sink (by kernel_rfl) ?_
           refine JA.done hQ (by kernel_rfl) ?_
           refine JQ.go (JC.fresh (fun f => f 2 = .pointer (some ⟨b1, 0, none⟩) ∧ f 3 = .pointer (some ⟨b2, 0, none⟩) ∧ f 7 = .pointer (some ⟨b209, 0, none⟩) ∧ f 8 = .pointer (some ⟨b228, 0, none⟩)) ⟨rfl, rfl, rfl, rfl⟩ ?_)
           rintro f ⟨hf2, hf3, hf7, hf8⟩
           refine (JC.norm (i := 2) hf2 (JC.norm (i := 3) hf3 (JC.norm (i := 7) hf7 (JC.norm (i := 8) hf8 ?_))))
           refine JC.seq ?_
           obtain ⟨y315, hy315, hF⟩ := bind_some hF
           obtain ⟨l321, hl321, hF⟩ := bind_some hF
           refine JC.mixed 16 16 #[false, false, false, false, false, false, false, false, false, false, false, false, false, false, false, false] [(b209, .cells [.int .i64 y163.Width, .int .i64 y163.Length, y163_v0, v306, y163_v2].toArray 25), (b2, .cells [.int .i64 x_.Fault.Row, .int .i64 x_.Fault.Col, (.slice a108 x_.Panel.Rows.length c109), .int .i64 x_.Flaw].toArray 32), (b1, .cells [.int .i64 s.Width, .int .i64 s.Length, s_v2, s_v3, s_v4].toArray 25)] (by rfl) mo_ (by kernel_rfl) (by kernel_rfl) ?_
           intro hQ hE
           refine JA.cut 4 #[true, true, true, true, true, true, true, true, true, true, true, false, true, false, false, false] (fun H366 f bs gs => ∃ (b360 : Nat), f 2 = .pointer (some ⟨b1, 0, none⟩) ∧ f 7 = .pointer (some ⟨b209, 0, none⟩) ∧ f 8 = .pointer (some ⟨b228, 0, none⟩) ∧ f 96 = v306 ∧ f 98 = y169_v0 ∧ f 105 = .slice (some ⟨b360, 0, none⟩) 1 1 ∧ f 107 = .pointer (some ⟨b228, 3, none⟩) ∧ bs = [(b360, .cells [.int .i64 y315.Row, .int .i64 y315.Col].toArray 27), (b228, .cells [.int .i64 y169.Width, .int .i64 y169.Length, y169_v0, y169_v1, y169_v2].toArray 25), (b209, .cells [.int .i64 y163.Width, .int .i64 y163.Length, y163_v0, v306, y163_v2].toArray 25), (b2, .cells [.int .i64 x_.Fault.Row, .int .i64 x_.Fault.Col, (.slice a108 x_.Panel.Rows.length c109), .int .i64 x_.Flaw].toArray 32), (b1, .cells [.int .i64 s.Width, .int .i64 s.Length, s_v2, s_v3, s_v4].toArray 25)] ∧ gs = [⟨y169_v2, 30, 1, y169.Panels.length, y169_xs2⟩, ⟨y169_v1, 27, 2, y169.Flaws.length, y169_xs1⟩, ⟨y169_v0, 27, 2, y169.Faults.length, y169_xs0⟩, ⟨y163_v2, 30, 1, y163.Panels.length, y163_xs2⟩, ⟨v306, 27, 2, l261.length, xs307⟩, ⟨y163_v0, 27, 2, y163.Faults.length, y163_xs0⟩] ∧ HSub H241 H366) ?_ ?_
           ·rintro H366 f bs gs ⟨b360, hf2, hf7, hf8, hf96, hf98, hf105, hf107, rfl, rfl, hs366⟩
            refine (JA.norm (i := 2) hf2 (JA.norm (i := 7) hf7 (JA.norm (i := 8) hf8 (JA.norm (i := 96) hf96 (JA.norm (i := 98) hf98 (JA.norm (i := 105) hf105 (JA.norm (i := 107) hf107 ?_)))))))
            refine JA.many [11] (by kernel_rfl) (by simp) (all_one ⟨_, #[true, true, true, true, true, true, true, true, true, true, true, true, true, false, false, false], rfl, (by kernel_rfl), ?_⟩)
            refine JL.appO (R := R_Cell) 2 0 (l := y169.Faults) (m := [y315]) ap_22 rfl ⟨rfl, rfl⟩ rfl (CH.mono R_Cell_mono hs366 hm244) rfl rfl rfl (CH.cons (cs := [.int .i64 y315.Row, .int .i64 y315.Col]) rfl rfl CH.nil) rfl (one_cons rfl (one_cons rfl one_nil)) hl321 .none rfl ?_
            intro v367 xs368 hch369
            refine JA.after hE hs366 (.cons _ (.cons _ (.cons_cons _ (.cons_cons _ (.cons_cons _ (List.nil_sublist _)))))) ?_
            refine JA.many [13] (by kernel_rfl) (by simp) (all_one ⟨_, #[true, true, true, true, true, true, true, true, true, true, true, true, true, true, false, false], rfl, (by kernel_rfl), ?_⟩)
            refine JL.oneG 4 rfl (fun ho370 => ?_)
            refine JL.storeOwn 1 (cs := [v306]) az_22 rfl ho370.2 rfl (one_cons ho370.1 one_nil) rfl rfl .none ?_
            refine JA.after hE hs366 (.cons _ (.cons _ (.cons_cons _ (.cons_cons _ (.cons_cons _ (List.nil_sublist _)))))) ?_
            refine JA.take 14 (listed' := #[true, true, true, true, true, true, true, true, true, true, true, true, true, true, true, false]) hQ rfl (by kernel_rfl) (by kernel_rfl) (by kernel_rfl) (by kernel_rfl) (by kernel_rfl) hE hs366 (.cons _ (.cons _ (.cons_cons _ (.cons_cons _ (.cons_cons _ (List.nil_sublist _)))))) ?_
            refine JL.fieldAddr fo_25_2 rfl .none rfl ?_
            refine JA.cont ?_
            refine JA.many [15] (by kernel_rfl) (by simp) (all_one ⟨_, #[true, true, true, true, true, true, true, true, true, true, true, true, true, true, true, true], rfl, (by kernel_rfl), ?_⟩)
            refine JL.oneG 2 rfl (fun ho371 => ?_)
            refine JL.storeOwn 1 (cs := [v367]) az_22 rfl ho371.2 rfl (one_cons ho371.1 one_nil) rfl rfl .none ?_
            refine JA.after hE hs366 (.cons _ (.cons _ (.cons_cons _ (.cons_cons _ (.cons_cons _ (List.nil_sublist _)))))) ?_
            refine JA.done hQ (by kernel_rfl) ?_
            refine JQ.go (JC.seq (JC.seq (JC.region (by rfl) ?_)))
            intro hQ
            refine JL.loadOwn 1 az_25 rfl rfl rfl .none rfl ?_
            refine JL.freezeG 2 (R := R_Cell) rfl R_Cell_mono hch369 rfl ?_
            intro H372 hs372 hg373
            refine JL.freezeG 3 (R := R_Cell) rfl R_Cell_mono (CH.mono R_Cell_mono (HSub.trans hs366 hs372) hch308) rfl ?_
            intro H374 hs374 hg375
            refine JL.freezeG 0 (R := R_Panel) rfl R_Panel_mono (CH.mono R_Panel_mono (HSub.trans hs366 (HSub.trans hs372 hs374)) hm242) rfl ?_
            intro H376 hs376 hg377
            obtain ⟨y378, hy378, hF⟩ := bind_some hF
            refine JL.callS (c_law03_ready n H376 (Lap.mk y169.Width y169.Length l321 l261 y169.Panels) v367 (SL.mono R_Cell_mono (HSub.trans hs374 hs376) hg373) v306 (SL.mono R_Cell_mono hs376 hg375) y169_v2 hg377 y378 hy378) rfl en_10 .none rfl ?_
            refine JL.not rfl .none rfl ?_
            refine JL.done hQ (JQ.go ?_)
            rcases ite_some hF with ⟨hc379, hF⟩ | ⟨hc379, hF⟩
            ·refine JC.cond_t (b := (!y378)) rfl hc379 ?_
             refine JC.seq (JC.region (by rfl) ?_)
             intro hQ
             obtain ⟨y380, hy380, hF⟩ := bind_some hF
             refine JL.callS (c_law03_works n H376 y380 hy380) rfl en_11 .none rfl ?_
             refine JL.assign .none rfl ?_
             refine JL.done hQ (JQ.go (JC.fresh (fun f => f 4 = .bool y380) rfl ?_))
             rintro f hf4
             refine (JC.norm (i := 4) hf4 ?_)
             refine JC.ret (JQ.ret_then ?_)
             obtain rfl := Option.some.inj hF
             exact JQ.outS rfl (.tmp .nil) rfl
            ·refine JC.cond_f (b := (!y378)) rfl hc379 ?_
             refine JC.skip (JQ.go (JC.seq (JC.region (by rfl) ?_)))
             intro hQ
             refine JL.loadOwn 4 az_25 rfl rfl rfl .none rfl ?_
             obtain ⟨y381, hy381, hF⟩ := bind_some hF
             refine JL.callS (c_lays_Least n H376 s s_v2 (SL.mono R_Cell_mono (HSub.trans hs89 (HSub.trans hs117 (HSub.trans hs119 (HSub.trans hs121 (HSub.trans hs142 (HSub.trans hs241 (HSub.trans hs366 (HSub.trans hs372 (HSub.trans hs374 hs376))))))))) hs_2) s_v3 (SL.mono R_Cell_mono (HSub.trans hs89 (HSub.trans hs117 (HSub.trans hs119 (HSub.trans hs121 (HSub.trans hs142 (HSub.trans hs241 (HSub.trans hs366 (HSub.trans hs372 (HSub.trans hs374 hs376))))))))) hs_3) s_v4 (SL.mono R_Panel_mono (HSub.trans hs89 (HSub.trans hs117 (HSub.trans hs119 (HSub.trans hs121 (HSub.trans hs142 (HSub.trans hs241 (HSub.trans hs366 (HSub.trans hs372 (HSub.trans hs374 hs376))))))))) hs_4) y381 hy381) rfl en_14 .none rfl ?_
             refine JL.move .none rfl ?_
             refine JL.extract rfl rfl .none rfl ?_
             refine JL.extract rfl rfl .none rfl ?_
             refine JL.assign .none rfl ?_
             refine JL.assign .none rfl ?_
             refine JL.done hQ (JQ.go (JC.fresh (fun f => f 2 = .pointer (some ⟨b1, 0, none⟩) ∧ f 7 = .pointer (some ⟨b209, 0, none⟩) ∧ f 8 = .pointer (some ⟨b228, 0, none⟩) ∧ f 9 = .int .i64 y381.1 ∧ f 10 = .int .i64 y381.2) ⟨rfl, rfl, rfl, rfl, rfl⟩ ?_))
             rintro f ⟨hf2, hf7, hf8, hf9, hf10⟩
             refine (JC.norm (i := 2) hf2 (JC.norm (i := 7) hf7 (JC.norm (i := 8) hf8 (JC.norm (i := 9) hf9 (JC.norm (i := 10) hf10 ?_)))))
             refine JC.seq (JC.region (by rfl) ?_)
             intro hQ
             refine JL.loadOwn 1 az_25 rfl rfl rfl .none rfl ?_
             obtain ⟨y382, hy382, hF⟩ := bind_some hF
             refine JL.callS (c_lays_Least n H376 (Lap.mk y169.Width y169.Length l321 l261 y169.Panels) v367 (SL.mono R_Cell_mono (HSub.trans hs374 hs376) hg373) v306 (SL.mono R_Cell_mono hs376 hg375) y169_v2 hg377 y382 hy382) rfl en_14 .none rfl ?_
             refine JL.move .none rfl ?_
             refine JL.extract rfl rfl .none rfl ?_
             refine JL.extract rfl rfl .none rfl ?_
             refine JL.assign .none rfl ?_
             refine JL.assign .none rfl ?_
             refine JL.done hQ (JQ.go (JC.seq (JC.region (by rfl) ?_)))
             intro hQ
             refine JL.move .none rfl ?_
             refine JL.move .none rfl ?_
             refine JL.bin rfl rfl rfl .none rfl ?_
             refine JL.move .none rfl ?_
             refine JL.cut 4 (fun f => f 2 = .pointer (some ⟨b1, 0, none⟩) ∧ f 7 = .pointer (some ⟨b209, 0, none⟩) ∧ f 8 = .pointer (some ⟨b228, 0, none⟩) ∧ f 130 = .bool ((y381.1 == y382.1) && (y381.2 == y382.2))) ?_ ?_
             ·intro hJ383
              rcases bcases (y381.1 == y382.1) with hc384 | hc384
              ·skip
               refine JL.move (.some rfl rfl rfl hc384) rfl ?_
               refine JL.move (.some rfl rfl rfl hc384) rfl ?_
               refine JL.bin rfl rfl rfl (.some rfl rfl rfl hc384) rfl ?_
               refine JL.pick_t (b := (y381.1 == y382.1)) rfl hc384 .none rfl ?_
               exact hJ383 _ ⟨rfl, rfl, rfl, and_t hc384 rfl⟩
              ·skip
               refine JL.skip (.bool rfl rfl rfl hc384) rfl ?_
               refine JL.skip (.bool rfl rfl rfl hc384) rfl ?_
               refine JL.skip (.bool rfl rfl rfl hc384) rfl ?_
               refine JL.pick_f (b := (y381.1 == y382.1)) rfl hc384 .none rfl ?_
               exact hJ383 _ ⟨rfl, rfl, rfl, and_f hc384 rfl⟩
             ·rintro f ⟨hf2, hf7, hf8, hf130⟩
              refine (JL.norm (i := 2) hf2 (JL.norm (i := 7) hf7 (JL.norm (i := 8) hf8 (JL.norm (i := 130) hf130 ?_))))
              refine JL.move .none rfl ?_
              obtain ⟨p386, hp386, hF⟩ := bind_some hF
              refine JL.cut 4 (fun f => f 2 = .pointer (some ⟨b1, 0, none⟩) ∧ f 7 = .pointer (some ⟨b209, 0, none⟩) ∧ f 135 = .bool p386) ?_ ?_
              ·intro hJ387
               rcases ite_some hp386 with ⟨hc388, hF⟩ | ⟨hc388, hF⟩
               ·skip
                refine JL.loadOwn 1 az_25 rfl rfl rfl (.some rfl rfl rfl hc388) rfl ?_
                refine JL.loadOwn 4 az_25 rfl rfl rfl (.some rfl rfl rfl hc388) rfl ?_
                obtain ⟨y389, hy389, hF⟩ := bind_some hF
                refine JL.callS (c_law03_atLeast n H376 (Lap.mk y169.Width y169.Length l321 l261 y169.Panels) v367 (SL.mono R_Cell_mono (HSub.trans hs374 hs376) hg373) v306 (SL.mono R_Cell_mono hs376 hg375) y169_v2 hg377 s s_v2 (SL.mono R_Cell_mono (HSub.trans hs89 (HSub.trans hs117 (HSub.trans hs119 (HSub.trans hs121 (HSub.trans hs142 (HSub.trans hs241 (HSub.trans hs366 (HSub.trans hs372 (HSub.trans hs374 hs376))))))))) hs_2) s_v3 (SL.mono R_Cell_mono (HSub.trans hs89 (HSub.trans hs117 (HSub.trans hs119 (HSub.trans hs121 (HSub.trans hs142 (HSub.trans hs241 (HSub.trans hs366 (HSub.trans hs372 (HSub.trans hs374 hs376))))))))) hs_3) s_v4 (SL.mono R_Panel_mono (HSub.trans hs89 (HSub.trans hs117 (HSub.trans hs119 (HSub.trans hs121 (HSub.trans hs142 (HSub.trans hs241 (HSub.trans hs366 (HSub.trans hs372 (HSub.trans hs374 hs376))))))))) hs_4) y389 hy389) rfl en_13 (.some rfl rfl rfl hc388) rfl ?_
                refine JL.pick_t (b := ((y381.1 == y382.1) && (y381.2 == y382.2))) rfl hc388 .none rfl ?_
                obtain rfl := Option.some.inj hF
                exact hJ387 _ ⟨rfl, rfl, rfl⟩
               ·skip
                refine JL.skip (.bool rfl rfl rfl hc388) rfl ?_
                refine JL.skip (.bool rfl rfl rfl hc388) rfl ?_
                refine JL.skip (.bool rfl rfl rfl hc388) rfl ?_
                refine JL.pick_f (b := ((y381.1 == y382.1) && (y381.2 == y382.2))) rfl hc388 .none rfl ?_
                obtain rfl := Option.some.inj hF
                exact hJ387 _ ⟨rfl, rfl, rfl⟩
              ·rintro f ⟨hf2, hf7, hf135⟩
               refine (JL.norm (i := 2) hf2 (JL.norm (i := 7) hf7 (JL.norm (i := 135) hf135 ?_)))
               refine JL.move .none rfl ?_
               obtain ⟨p394, hp394, hF⟩ := bind_some hF
               refine JL.cut 4 (fun f => f 140 = .bool p394) ?_ ?_
               ·intro hJ395
                rcases ite_some hp394 with ⟨hc396, hF⟩ | ⟨hc396, hF⟩
                ·skip
                 refine JL.loadOwn 4 az_25 rfl rfl rfl (.some rfl rfl rfl hc396) rfl ?_
                 refine JL.loadOwn 2 az_25 rfl rfl rfl (.some rfl rfl rfl hc396) rfl ?_
                 obtain ⟨y400, hy400, hF⟩ := bind_some hF
                 refine JL.callLG2 (R := R_Cell) (S := R_Panel) 2 1 rfl R_Cell_mono (CH.mono R_Cell_mono (HSub.trans hs366 (HSub.trans hs372 (HSub.trans hs374 hs376))) hm247) rfl rfl R_Panel_mono (CH.mono R_Panel_mono (HSub.trans hs366 (HSub.trans hs372 (HSub.trans hs374 hs376))) hm245) rfl (fun H397 hs397 hg398 hg399 => c_law03_atLeast n H397 s s_v2 (SL.mono R_Cell_mono (HSub.trans hs89 (HSub.trans hs117 (HSub.trans hs119 (HSub.trans hs121 (HSub.trans hs142 (HSub.trans hs241 (HSub.trans hs366 (HSub.trans hs372 (HSub.trans hs374 (HSub.trans hs376 hs397)))))))))) hs_2) s_v3 (SL.mono R_Cell_mono (HSub.trans hs89 (HSub.trans hs117 (HSub.trans hs119 (HSub.trans hs121 (HSub.trans hs142 (HSub.trans hs241 (HSub.trans hs366 (HSub.trans hs372 (HSub.trans hs374 (HSub.trans hs376 hs397)))))))))) hs_3) s_v4 (SL.mono R_Panel_mono (HSub.trans hs89 (HSub.trans hs117 (HSub.trans hs119 (HSub.trans hs121 (HSub.trans hs142 (HSub.trans hs241 (HSub.trans hs366 (HSub.trans hs372 (HSub.trans hs374 (HSub.trans hs376 hs397)))))))))) hs_4) (Lap.mk y163.Width y163.Length y163.Faults l261 y163.Panels) y163_v0 hg398 v306 (SL.mono R_Cell_mono (HSub.trans hs376 hs397) hg375) y163_v2 hg399 y400 hy400) rfl en_13 (.some rfl rfl rfl hc396) rfl ?_
                 refine JL.pick_t (b := p386) rfl hc396 .none rfl ?_
                 obtain rfl := Option.some.inj hF
                 exact hJ395 _ (rfl)
                ·skip
                 refine JL.skip (.bool rfl rfl rfl hc396) rfl ?_
                 refine JL.skip (.bool rfl rfl rfl hc396) rfl ?_
                 refine JL.skip (.bool rfl rfl rfl hc396) rfl ?_
                 refine JL.pick_f (b := p386) rfl hc396 .none rfl ?_
                 obtain rfl := Option.some.inj hF
                 exact hJ395 _ (rfl)
               ·rintro f hf140
                refine (JL.norm (i := 140) hf140 ?_)
                refine JL.move .none rfl ?_
                obtain ⟨p402, hp402, hF⟩ := bind_some hF
                refine JL.cut 2 (fun f => f 143 = .bool p402) ?_ ?_
                ·intro hJ403
                 rcases ite_some hp402 with ⟨hc404, hF⟩ | ⟨hc404, hF⟩
                 ·skip
                  obtain ⟨y405, hy405, hF⟩ := bind_some hF
                  refine JL.callS (c_law03_works n H376 y405 hy405) rfl en_11 (.some rfl rfl rfl hc404) rfl ?_
                  refine JL.pick_t (b := p394) rfl hc404 .none rfl ?_
                  obtain rfl := Option.some.inj hF
                  exact hJ403 _ (rfl)
                 ·skip
                  refine JL.skip (.bool rfl rfl rfl hc404) rfl ?_
                  refine JL.pick_f (b := p394) rfl hc404 .none rfl ?_
                  obtain rfl := Option.some.inj hF
                  exact hJ403 _ (rfl)
                ·rintro f hf143
                 refine (JL.norm (i := 143) hf143 ?_)
                 refine JL.assign .none rfl ?_
                 refine JL.done hQ (JQ.go (JC.ret ?_))
                 obtain rfl := Option.some.inj hF
                 exact JQ.outS rfl (.tmp .nil) rfl
           intro nd365_0
           refine JA.take 0 (listed' := #[true, false, false, false, false, false, false, false, false, false, false, false, false, false, false, false]) hQ rfl (by kernel_rfl) (by kernel_rfl) (by kernel_rfl) (by kernel_rfl) (by kernel_rfl) hE (HSub.refl _) (.cons _ (.cons_cons _ (.cons_cons _ (.cons_cons _ (List.nil_sublist _))))) ?_
           refine JL.fieldAddr fo_25_3 rfl .none rfl ?_
           refine JA.cont ?_
           refine JA.take 1 (listed' := #[true, true, false, false, false, false, false, false, false, false, false, false, false, false, false, false]) hQ rfl (by kernel_rfl) (by kernel_rfl) (by kernel_rfl) (by kernel_rfl) (by kernel_rfl) hE (HSub.refl _) (.cons _ (.cons_cons _ (.cons_cons _ (.cons_cons _ (List.nil_sublist _))))) ?_
           refine JL.loadOwn 0 az_22 rfl rfl rfl .none rfl ?_
           refine JA.cont ?_
           refine JA.take 2 (listed' := #[true, true, true, false, false, false, false, false, false, false, false, false, false, false, false, false]) hQ rfl (by kernel_rfl) (by kernel_rfl) (by kernel_rfl) (by kernel_rfl) (by kernel_rfl) hE (HSub.refl _) (.cons _ (.cons_cons _ (.cons_cons _ (.cons_cons _ (List.nil_sublist _))))) ?_
           refine JL.fieldAddr fo_25_2 rfl .none rfl ?_
           refine JA.cont ?_
           refine JA.take 4 (listed' := #[true, true, true, false, true, false, false, false, false, false, false, false, false, false, false, false]) hQ rfl (by kernel_rfl) (by kernel_rfl) (by kernel_rfl) (by kernel_rfl) (by kernel_rfl) hE (HSub.refl _) (.cons _ (.cons_cons _ (.cons_cons _ (.cons_cons _ (List.nil_sublist _))))) ?_
           refine JL.fieldAddr fo_25_3 rfl .none rfl ?_
           refine JA.cont ?_
           refine JA.take 5 (listed' := #[true, true, true, false, true, true, false, false, false, false, false, false, false, false, false, false]) hQ rfl (by kernel_rfl) (by kernel_rfl) (by kernel_rfl) (by kernel_rfl) (by kernel_rfl) hE (HSub.refl _) (.cons _ (.cons_cons _ (.cons_cons _ (.cons_cons _ (List.nil_sublist _))))) ?_
           refine JL.loadOwn 2 az_22 rfl rfl rfl .none rfl ?_
           refine JA.cont ?_
           refine JA.take 6 (listed' := #[true, true, true, false, true, true, true, false, false, false, false, false, false, false, false, false]) hQ rfl (by kernel_rfl) (by kernel_rfl) (by kernel_rfl) (by kernel_rfl) (by kernel_rfl) hE (HSub.refl _) (.cons _ (.cons_cons _ (.cons_cons _ (.cons_cons _ (List.nil_sublist _))))) ?_
           refine JL.fieldAddr fo_32_2 rfl .none rfl ?_
           refine JA.cont ?_
           refine JA.take 7 (listed' := #[true, true, true, false, true, true, true, true, false, false, false, false, false, false, false, false]) hQ rfl (by kernel_rfl) (by kernel_rfl) (by kernel_rfl) (by kernel_rfl) (by kernel_rfl) hE (HSub.refl _) (.cons _ (.cons_cons _ (.cons_cons _ (.cons_cons _ (List.nil_sublist _))))) ?_
           refine JL.loadOwn 1 az_3 rfl rfl rfl .none rfl ?_
           refine JA.cont ?_
           refine JA.take 8 (listed' := #[true, true, true, false, true, true, true, true, true, false, false, false, false, false, false, false]) hQ rfl (by kernel_rfl) (by kernel_rfl) (by kernel_rfl) (by kernel_rfl) (by kernel_rfl) hE (HSub.refl _) (.cons _ (.cons_cons _ (.cons_cons _ (.cons_cons _ (List.nil_sublist _))))) ?_
           refine JL.indexSL (R := R_Cell) sl_22 (SL.mono R_Cell_mono (HSub.trans hs89 (HSub.trans hs117 (HSub.trans hs119 (HSub.trans hs121 (HSub.trans hs142 hs241))))) hs_3) rfl hy315 .none rfl ?_
           rintro b410 o411 cs412 hc413 - rfl
           refine JA.cont ?_
           refine JA.take 9 (listed' := #[true, true, true, false, true, true, true, true, true, true, false, false, false, false, false, false]) hQ rfl (by kernel_rfl) (by kernel_rfl) (by kernel_rfl) (by kernel_rfl) (by kernel_rfl) hE (HSub.refl _) (.cons _ (.cons_cons _ (.cons_cons _ (.cons_cons _ (List.nil_sublist _))))) ?_
           refine JL.loadH 0 az_27 rfl hc413 rfl .none rfl ?_
           refine JA.cont ?_
           refine JA.many [3, 10] (by kernel_rfl) (by simp) (all_cons ⟨_, #[true, true, true, true, true, true, true, true, true, true, false, false, false, false, false, false], rfl, (by kernel_rfl), ?_⟩ (all_one ⟨_, #[true, true, true, false, true, true, true, true, true, true, true, false, false, false, false, false], rfl, (by kernel_rfl), ?_⟩))
           ·skip
            refine JL.loadOwn 0 az_22 rfl rfl rfl .none rfl ?_
            refine JA.after hE (HSub.refl _) (.cons _ (.cons_cons _ (.cons_cons _ (.cons_cons _ (List.nil_sublist _))))) ?_
            refine JA.take 12 (listed' := #[true, true, true, true, true, true, true, true, true, true, false, false, true, false, false, false]) hQ rfl (by kernel_rfl) (by kernel_rfl) (by kernel_rfl) (by kernel_rfl) (by kernel_rfl) hE (HSub.refl _) (.cons _ (.cons_cons _ (.cons_cons _ (.cons_cons _ (List.nil_sublist _))))) ?_
            refine JL.fieldAddr fo_25_3 rfl .none rfl ?_
            refine JA.cont ?_
            refine JA.many [10] (by kernel_rfl) (by simp) (all_one ⟨_, #[true, true, true, true, true, true, true, true, true, true, true, false, true, false, false, false], rfl, (by kernel_rfl), ?_⟩)
            refine JL.buildSlice (e := 27) (l := [.int .i64 y315.Row, .int .i64 y315.Col]) (by kernel_rfl) .none rfl ?_
            intro b414
            refine JA.after hE (HSub.refl _) (.cons _ (.cons _ (.cons_cons _ (.cons_cons _ (.cons_cons _ (List.nil_sublist _)))))) ?_
            exact nd365_0 _ _ _ _ ⟨b414, rfl, rfl, rfl, rfl, rfl, rfl, rfl, rfl, rfl, (HSub.refl _)⟩
           ·skip
            refine JL.buildSlice (e := 27) (l := [.int .i64 y315.Row, .int .i64 y315.Col]) (by kernel_rfl) .none rfl ?_
            intro b415
            refine JA.after hE (HSub.refl _) (.cons _ (.cons _ (.cons_cons _ (.cons_cons _ (.cons_cons _ (List.nil_sublist _)))))) ?_
            refine JA.many [3] (by kernel_rfl) (by simp) (all_one ⟨_, #[true, true, true, true, true, true, true, true, true, true, true, false, false, false, false, false], rfl, (by kernel_rfl), ?_⟩)
            refine JL.loadOwn 1 az_22 rfl rfl rfl .none rfl ?_
            refine JA.after hE (HSub.refl _) (.cons _ (.cons _ (.cons_cons _ (.cons_cons _ (.cons_cons _ (List.nil_sublist _)))))) ?_
            refine JA.take 12 (listed' := #[true, true, true, true, true, true, true, true, true, true, true, false, true, false, false, false]) hQ rfl (by kernel_rfl) (by kernel_rfl) (by kernel_rfl) (by kernel_rfl) (by kernel_rfl) hE (HSub.refl _) (.cons _ (.cons _ (.cons_cons _ (.cons_cons _ (.cons_cons _ (List.nil_sublist _)))))) ?_
            refine JL.fieldAddr fo_25_3 rfl .none rfl ?_
            refine JA.cont ?_
            exact nd365_0 _ _ _ _ ⟨b415, rfl, rfl, rfl, rfl, rfl, rfl, rfl, rfl, rfl, (HSub.refl _)⟩
          intro nd240_0
          refine JA.cut 3 #[true, true, true, true, true, false, false, false] (fun H416 f bs gs => ∃ (b209 : Nat) (y169_v2 : Value) (y169_xs2 : List Value) (y169_v1 : Value) (y169_xs1 : List Value) (y169_v0 : Value) (y169_xs0 : List Value) (y163_v2 : Value) (y163_xs2 : List Value) (y163_v1 : Value) (y163_xs1 : List Value) (y163_v0 : Value) (y163_xs0 : List Value), f 2 = .pointer (some ⟨b1, 0, none⟩) ∧ f 3 = .pointer (some ⟨b2, 0, none⟩) ∧ f 7 = .pointer (some ⟨b209, 0, none⟩) ∧ f 79 = .agg [.int .i64 y163.Width, .int .i64 y163.Length, y163_v0, y163_v1, y163_v2].toArray ∧ f 81 = .agg [.int .i64 y169.Width, .int .i64 y169.Length, y169_v0, y169_v1, y169_v2].toArray ∧ bs = [(b209, .cells [.int .i64 0, .int .i64 0, .slice none 0 0, .slice none 0 0, .slice none 0 0].toArray 25), (b2, .cells [.int .i64 x_.Fault.Row, .int .i64 x_.Fault.Col, (.slice a108 x_.Panel.Rows.length c109), .int .i64 x_.Flaw].toArray 32), (b1, .cells [.int .i64 s.Width, .int .i64 s.Length, s_v2, s_v3, s_v4].toArray 25)] ∧ gs = [⟨y169_v2, 30, 1, y169.Panels.length, y169_xs2⟩, ⟨y169_v1, 27, 2, y169.Flaws.length, y169_xs1⟩, ⟨y169_v0, 27, 2, y169.Faults.length, y169_xs0⟩, ⟨y163_v2, 30, 1, y163.Panels.length, y163_xs2⟩, ⟨y163_v1, 27, 2, y163.Flaws.length, y163_xs1⟩, ⟨y163_v0, 27, 2, y163.Faults.length, y163_xs0⟩] ∧ CH H416 1 R_Panel y169_xs2 y169.Panels ∧ CH H416 2 R_Cell y169_xs1 y169.Flaws ∧ CH H416 2 R_Cell y169_xs0 y169.Faults ∧ CH H416 1 R_Panel y163_xs2 y163.Panels ∧ CH H416 2 R_Cell y163_xs1 y163.Flaws ∧ CH H416 2 R_Cell y163_xs0 y163.Faults ∧ HSub H142 H416) ?_ ?_
          ·rintro H416 f bs gs ⟨b209, y169_v2, y169_xs2, y169_v1, y169_xs1, y169_v0, y169_xs0, y163_v2, y163_xs2, y163_v1, y163_xs1, y163_v0, y163_xs0, hf2, hf3, hf7, hf79, hf81, rfl, rfl, hm417, hm418, hm419, hm420, hm421, hm422, hs416⟩
           refine (JA.norm (i := 2) hf2 (JA.norm (i := 3) hf3 (JA.norm (i := 7) hf7 (JA.norm (i := 79) hf79 (JA.norm (i := 81) hf81 ?_)))))
           refine JA.many [5] (by kernel_rfl) (by simp) (all_one ⟨_, #[true, true, true, true, true, true, false, false], rfl, (by kernel_rfl), ?_⟩)
           refine JL.alloc ze_25 .none rfl ?_
           intro b423
           refine JA.after hE hs416 (.cons _ (.cons _ (.cons_cons _ (.cons_cons _ (List.nil_sublist _))))) ?_
           exact nd240_0 _ _ _ _ ⟨b423, b209, y169_v2, y169_xs2, y169_v1, y169_xs1, y169_v0, y169_xs0, y163_v2, y163_xs2, y163_v1, y163_xs1, y163_v0, y163_xs0, rfl, rfl, rfl, rfl, rfl, rfl, rfl, rfl, hm417, hm418, hm419, hm420, hm421, hm422, hs416⟩
          intro nd240_1
          refine JA.cut 3 #[true, true, true, true, false, true, false, false] (fun H424 f bs gs => ∃ (b210 : Nat) (y169_v2 : Value) (y169_xs2 : List Value) (y169_v1 : Value) (y169_xs1 : List Value) (y169_v0 : Value) (y169_xs0 : List Value) (y163_v2 : Value) (y163_xs2 : List Value) (y163_v1 : Value) (y163_xs1 : List Value) (y163_v0 : Value) (y163_xs0 : List Value), f 2 = .pointer (some ⟨b1, 0, none⟩) ∧ f 3 = .pointer (some ⟨b2, 0, none⟩) ∧ f 8 = .pointer (some ⟨b210, 0, none⟩) ∧ f 79 = .agg [.int .i64 y163.Width, .int .i64 y163.Length, y163_v0, y163_v1, y163_v2].toArray ∧ f 81 = .agg [.int .i64 y169.Width, .int .i64 y169.Length, y169_v0, y169_v1, y169_v2].toArray ∧ bs = [(b210, .cells [.int .i64 0, .int .i64 0, .slice none 0 0, .slice none 0 0, .slice none 0 0].toArray 25), (b2, .cells [.int .i64 x_.Fault.Row, .int .i64 x_.Fault.Col, (.slice a108 x_.Panel.Rows.length c109), .int .i64 x_.Flaw].toArray 32), (b1, .cells [.int .i64 s.Width, .int .i64 s.Length, s_v2, s_v3, s_v4].toArray 25)] ∧ gs = [⟨y169_v2, 30, 1, y169.Panels.length, y169_xs2⟩, ⟨y169_v1, 27, 2, y169.Flaws.length, y169_xs1⟩, ⟨y169_v0, 27, 2, y169.Faults.length, y169_xs0⟩, ⟨y163_v2, 30, 1, y163.Panels.length, y163_xs2⟩, ⟨y163_v1, 27, 2, y163.Flaws.length, y163_xs1⟩, ⟨y163_v0, 27, 2, y163.Faults.length, y163_xs0⟩] ∧ CH H424 1 R_Panel y169_xs2 y169.Panels ∧ CH H424 2 R_Cell y169_xs1 y169.Flaws ∧ CH H424 2 R_Cell y169_xs0 y169.Faults ∧ CH H424 1 R_Panel y163_xs2 y163.Panels ∧ CH H424 2 R_Cell y163_xs1 y163.Flaws ∧ CH H424 2 R_Cell y163_xs0 y163.Faults ∧ HSub H142 H424) ?_ ?_
          ·rintro H424 f bs gs ⟨b210, y169_v2, y169_xs2, y169_v1, y169_xs1, y169_v0, y169_xs0, y163_v2, y163_xs2, y163_v1, y163_xs1, y163_v0, y163_xs0, hf2, hf3, hf8, hf79, hf81, rfl, rfl, hm425, hm426, hm427, hm428, hm429, hm430, hs424⟩
           refine (JA.norm (i := 2) hf2 (JA.norm (i := 3) hf3 (JA.norm (i := 8) hf8 (JA.norm (i := 79) hf79 (JA.norm (i := 81) hf81 ?_)))))
           refine JA.many [4] (by kernel_rfl) (by simp) (all_one ⟨_, #[true, true, true, true, true, true, false, false], rfl, (by kernel_rfl), ?_⟩)
           refine JL.alloc ze_25 .none rfl ?_
           intro b431
           refine JA.after hE hs424 (.cons _ (.cons _ (.cons_cons _ (.cons_cons _ (List.nil_sublist _))))) ?_
           refine JA.perm (swapAt_perm 0 _) ?_
           exact nd240_0 _ _ _ _ ⟨b210, b431, y169_v2, y169_xs2, y169_v1, y169_xs1, y169_v0, y169_xs0, y163_v2, y163_xs2, y163_v1, y163_xs1, y163_v0, y163_xs0, rfl, rfl, rfl, rfl, rfl, rfl, rfl, rfl, hm425, hm426, hm427, hm428, hm429, hm430, hs424⟩
          intro nd240_2
          refine JA.cut 3 #[true, true, true, false, true, true, false, false] (fun H432 f bs gs => ∃ (b216 : Nat) (b195 : Nat) (y163_v2 : Value) (y163_xs2 : List Value) (y163_v1 : Value) (y163_xs1 : List Value) (y163_v0 : Value) (y163_xs0 : List Value), f 2 = .pointer (some ⟨b1, 0, none⟩) ∧ f 3 = .pointer (some ⟨b2, 0, none⟩) ∧ f 7 = .pointer (some ⟨b195, 0, none⟩) ∧ f 8 = .pointer (some ⟨b216, 0, none⟩) ∧ f 79 = .agg [.int .i64 y163.Width, .int .i64 y163.Length, y163_v0, y163_v1, y163_v2].toArray ∧ f 80 = .agg [.int .i64 s.Width, .int .i64 s.Length, s_v2, s_v3, s_v4].toArray ∧ bs = [(b216, .cells [.int .i64 0, .int .i64 0, .slice none 0 0, .slice none 0 0, .slice none 0 0].toArray 25), (b195, .cells [.int .i64 0, .int .i64 0, .slice none 0 0, .slice none 0 0, .slice none 0 0].toArray 25), (b2, .cells [.int .i64 x_.Fault.Row, .int .i64 x_.Fault.Col, (.slice a108 x_.Panel.Rows.length c109), .int .i64 x_.Flaw].toArray 32), (b1, .cells [.int .i64 s.Width, .int .i64 s.Length, s_v2, s_v3, s_v4].toArray 25)] ∧ gs = [⟨y163_v2, 30, 1, y163.Panels.length, y163_xs2⟩, ⟨y163_v1, 27, 2, y163.Flaws.length, y163_xs1⟩, ⟨y163_v0, 27, 2, y163.Faults.length, y163_xs0⟩] ∧ CH H432 1 R_Panel y163_xs2 y163.Panels ∧ CH H432 2 R_Cell y163_xs1 y163.Flaws ∧ CH H432 2 R_Cell y163_xs0 y163.Faults ∧ HSub H142 H432) ?_ ?_
          ·rintro H432 f bs gs ⟨b216, b195, y163_v2, y163_xs2, y163_v1, y163_xs1, y163_v0, y163_xs0, hf2, hf3, hf7, hf8, hf79, hf80, rfl, rfl, hm433, hm434, hm435, hs432⟩
           refine (JA.norm (i := 2) hf2 (JA.norm (i := 3) hf3 (JA.norm (i := 7) hf7 (JA.norm (i := 8) hf8 (JA.norm (i := 79) hf79 (JA.norm (i := 80) hf80 ?_))))))
           refine JA.many [3] (by kernel_rfl) (by simp) (all_one ⟨_, #[true, true, true, true, true, true, false, false], rfl, (by kernel_rfl), ?_⟩)
           refine JL.callXC (x_ref03_Copy n H432 s s_v2 (SL.mono R_Cell_mono (HSub.trans hs89 (HSub.trans hs117 (HSub.trans hs119 (HSub.trans hs121 (HSub.trans hs142 hs432))))) hs_2) s_v3 (SL.mono R_Cell_mono (HSub.trans hs89 (HSub.trans hs117 (HSub.trans hs119 (HSub.trans hs121 (HSub.trans hs142 hs432))))) hs_3) s_v4 (SL.mono R_Panel_mono (HSub.trans hs89 (HSub.trans hs117 (HSub.trans hs119 (HSub.trans hs121 (HSub.trans hs142 hs432))))) hs_4) y169 hy169) rfl en_12 .none rfl ?_
           rintro H436 vv437 _ hs436 ⟨y169_v0, y169_xs0, y169_v1, y169_xs1, y169_v2, y169_xs2, rfl, rfl, hy169_0, hy169_1, hy169_2⟩
           refine JA.after hE (HSub.trans hs432 hs436) (.cons _ (.cons _ (.cons_cons _ (.cons_cons _ (List.nil_sublist _))))) ?_
           exact nd240_0 _ _ _ _ ⟨b216, b195, y169_v2, y169_xs2, y169_v1, y169_xs1, y169_v0, y169_xs0, y163_v2, y163_xs2, y163_v1, y163_xs1, y163_v0, y163_xs0, rfl, rfl, rfl, rfl, rfl, rfl, rfl, rfl, hy169_2, hy169_1, hy169_0, (CH.mono R_Panel_mono hs436 hm433), (CH.mono R_Cell_mono hs436 hm434), (CH.mono R_Cell_mono hs436 hm435), (HSub.trans hs432 hs436)⟩
          intro nd240_3
          refine JA.cut 4 #[true, true, true, false, true, false, false, false] (fun H441 f bs gs => ∃ (b195 : Nat) (y163_v2 : Value) (y163_xs2 : List Value) (y163_v1 : Value) (y163_xs1 : List Value) (y163_v0 : Value) (y163_xs0 : List Value), f 2 = .pointer (some ⟨b1, 0, none⟩) ∧ f 3 = .pointer (some ⟨b2, 0, none⟩) ∧ f 7 = .pointer (some ⟨b195, 0, none⟩) ∧ f 79 = .agg [.int .i64 y163.Width, .int .i64 y163.Length, y163_v0, y163_v1, y163_v2].toArray ∧ f 80 = .agg [.int .i64 s.Width, .int .i64 s.Length, s_v2, s_v3, s_v4].toArray ∧ bs = [(b195, .cells [.int .i64 0, .int .i64 0, .slice none 0 0, .slice none 0 0, .slice none 0 0].toArray 25), (b2, .cells [.int .i64 x_.Fault.Row, .int .i64 x_.Fault.Col, (.slice a108 x_.Panel.Rows.length c109), .int .i64 x_.Flaw].toArray 32), (b1, .cells [.int .i64 s.Width, .int .i64 s.Length, s_v2, s_v3, s_v4].toArray 25)] ∧ gs = [⟨y163_v2, 30, 1, y163.Panels.length, y163_xs2⟩, ⟨y163_v1, 27, 2, y163.Flaws.length, y163_xs1⟩, ⟨y163_v0, 27, 2, y163.Faults.length, y163_xs0⟩] ∧ CH H441 1 R_Panel y163_xs2 y163.Panels ∧ CH H441 2 R_Cell y163_xs1 y163.Flaws ∧ CH H441 2 R_Cell y163_xs0 y163.Faults ∧ HSub H142 H441) ?_ ?_
          ·rintro H441 f bs gs ⟨b195, y163_v2, y163_xs2, y163_v1, y163_xs1, y163_v0, y163_xs0, hf2, hf3, hf7, hf79, hf80, rfl, rfl, hm442, hm443, hm444, hs441⟩
           refine (JA.norm (i := 2) hf2 (JA.norm (i := 3) hf3 (JA.norm (i := 7) hf7 (JA.norm (i := 79) hf79 (JA.norm (i := 80) hf80 ?_)))))
           refine JA.many [3, 5] (by kernel_rfl) (by simp) (all_cons ⟨_, #[true, true, true, true, true, false, false, false], rfl, (by kernel_rfl), ?_⟩ (all_one ⟨_, #[true, true, true, false, true, true, false, false], rfl, (by kernel_rfl), ?_⟩))
           ·skip
            refine JL.callXC (x_ref03_Copy n H441 s s_v2 (SL.mono R_Cell_mono (HSub.trans hs89 (HSub.trans hs117 (HSub.trans hs119 (HSub.trans hs121 (HSub.trans hs142 hs441))))) hs_2) s_v3 (SL.mono R_Cell_mono (HSub.trans hs89 (HSub.trans hs117 (HSub.trans hs119 (HSub.trans hs121 (HSub.trans hs142 hs441))))) hs_3) s_v4 (SL.mono R_Panel_mono (HSub.trans hs89 (HSub.trans hs117 (HSub.trans hs119 (HSub.trans hs121 (HSub.trans hs142 hs441))))) hs_4) y169 hy169) rfl en_12 .none rfl ?_
            rintro H445 vv446 _ hs445 ⟨y169_v0, y169_xs0, y169_v1, y169_xs1, y169_v2, y169_xs2, rfl, rfl, hy169_0, hy169_1, hy169_2⟩
            refine JA.after hE (HSub.trans hs441 hs445) (.cons _ (.cons_cons _ (.cons_cons _ (List.nil_sublist _)))) ?_
            exact nd240_1 _ _ _ _ ⟨b195, y169_v2, y169_xs2, y169_v1, y169_xs1, y169_v0, y169_xs0, y163_v2, y163_xs2, y163_v1, y163_xs1, y163_v0, y163_xs0, rfl, rfl, rfl, rfl, rfl, rfl, rfl, hy169_2, hy169_1, hy169_0, (CH.mono R_Panel_mono hs445 hm442), (CH.mono R_Cell_mono hs445 hm443), (CH.mono R_Cell_mono hs445 hm444), (HSub.trans hs441 hs445)⟩
           ·skip
            refine JL.alloc ze_25 .none rfl ?_
            intro b450
            refine JA.after hE hs441 (.cons _ (.cons _ (.cons_cons _ (.cons_cons _ (List.nil_sublist _))))) ?_
            exact nd240_3 _ _ _ _ ⟨b450, b195, y163_v2, y163_xs2, y163_v1, y163_xs1, y163_v0, y163_xs0, rfl, rfl, rfl, rfl, rfl, rfl, rfl, rfl, hm442, hm443, hm444, hs441⟩
          intro nd240_4
          refine JA.cut 4 #[true, true, true, false, false, true, false, false] (fun H451 f bs gs => ∃ (b196 : Nat) (y163_v2 : Value) (y163_xs2 : List Value) (y163_v1 : Value) (y163_xs1 : List Value) (y163_v0 : Value) (y163_xs0 : List Value), f 2 = .pointer (some ⟨b1, 0, none⟩) ∧ f 3 = .pointer (some ⟨b2, 0, none⟩) ∧ f 8 = .pointer (some ⟨b196, 0, none⟩) ∧ f 79 = .agg [.int .i64 y163.Width, .int .i64 y163.Length, y163_v0, y163_v1, y163_v2].toArray ∧ f 80 = .agg [.int .i64 s.Width, .int .i64 s.Length, s_v2, s_v3, s_v4].toArray ∧ bs = [(b196, .cells [.int .i64 0, .int .i64 0, .slice none 0 0, .slice none 0 0, .slice none 0 0].toArray 25), (b2, .cells [.int .i64 x_.Fault.Row, .int .i64 x_.Fault.Col, (.slice a108 x_.Panel.Rows.length c109), .int .i64 x_.Flaw].toArray 32), (b1, .cells [.int .i64 s.Width, .int .i64 s.Length, s_v2, s_v3, s_v4].toArray 25)] ∧ gs = [⟨y163_v2, 30, 1, y163.Panels.length, y163_xs2⟩, ⟨y163_v1, 27, 2, y163.Flaws.length, y163_xs1⟩, ⟨y163_v0, 27, 2, y163.Faults.length, y163_xs0⟩] ∧ CH H451 1 R_Panel y163_xs2 y163.Panels ∧ CH H451 2 R_Cell y163_xs1 y163.Flaws ∧ CH H451 2 R_Cell y163_xs0 y163.Faults ∧ HSub H142 H451) ?_ ?_
          ·rintro H451 f bs gs ⟨b196, y163_v2, y163_xs2, y163_v1, y163_xs1, y163_v0, y163_xs0, hf2, hf3, hf8, hf79, hf80, rfl, rfl, hm452, hm453, hm454, hs451⟩
           refine (JA.norm (i := 2) hf2 (JA.norm (i := 3) hf3 (JA.norm (i := 8) hf8 (JA.norm (i := 79) hf79 (JA.norm (i := 80) hf80 ?_)))))
           refine JA.many [3, 4] (by kernel_rfl) (by simp) (all_cons ⟨_, #[true, true, true, true, false, true, false, false], rfl, (by kernel_rfl), ?_⟩ (all_one ⟨_, #[true, true, true, false, true, true, false, false], rfl, (by kernel_rfl), ?_⟩))
           ·skip
            refine JL.callXC (x_ref03_Copy n H451 s s_v2 (SL.mono R_Cell_mono (HSub.trans hs89 (HSub.trans hs117 (HSub.trans hs119 (HSub.trans hs121 (HSub.trans hs142 hs451))))) hs_2) s_v3 (SL.mono R_Cell_mono (HSub.trans hs89 (HSub.trans hs117 (HSub.trans hs119 (HSub.trans hs121 (HSub.trans hs142 hs451))))) hs_3) s_v4 (SL.mono R_Panel_mono (HSub.trans hs89 (HSub.trans hs117 (HSub.trans hs119 (HSub.trans hs121 (HSub.trans hs142 hs451))))) hs_4) y169 hy169) rfl en_12 .none rfl ?_
            rintro H455 vv456 _ hs455 ⟨y169_v0, y169_xs0, y169_v1, y169_xs1, y169_v2, y169_xs2, rfl, rfl, hy169_0, hy169_1, hy169_2⟩
            refine JA.after hE (HSub.trans hs451 hs455) (.cons _ (.cons_cons _ (.cons_cons _ (List.nil_sublist _)))) ?_
            exact nd240_2 _ _ _ _ ⟨b196, y169_v2, y169_xs2, y169_v1, y169_xs1, y169_v0, y169_xs0, y163_v2, y163_xs2, y163_v1, y163_xs1, y163_v0, y163_xs0, rfl, rfl, rfl, rfl, rfl, rfl, rfl, hy169_2, hy169_1, hy169_0, (CH.mono R_Panel_mono hs455 hm452), (CH.mono R_Cell_mono hs455 hm453), (CH.mono R_Cell_mono hs455 hm454), (HSub.trans hs451 hs455)⟩
           ·skip
            refine JL.alloc ze_25 .none rfl ?_
            intro b460
            refine JA.after hE hs451 (.cons _ (.cons _ (.cons_cons _ (.cons_cons _ (List.nil_sublist _))))) ?_
            refine JA.perm (swapAt_perm 0 _) ?_
            exact nd240_3 _ _ _ _ ⟨b196, b460, y163_v2, y163_xs2, y163_v1, y163_xs1, y163_v0, y163_xs0, rfl, rfl, rfl, rfl, rfl, rfl, rfl, rfl, hm452, hm453, hm454, hs451⟩
          intro nd240_5
          refine JA.cut 4 #[true, false, true, false, true, true, false, false] (fun H461 f bs gs => ∃ (b202 : Nat) (b188 : Nat), f 2 = .pointer (some ⟨b1, 0, none⟩) ∧ f 3 = .pointer (some ⟨b2, 0, none⟩) ∧ f 7 = .pointer (some ⟨b188, 0, none⟩) ∧ f 8 = .pointer (some ⟨b202, 0, none⟩) ∧ f 78 = .agg [.int .i64 s.Width, .int .i64 s.Length, s_v2, s_v3, s_v4].toArray ∧ f 80 = .agg [.int .i64 s.Width, .int .i64 s.Length, s_v2, s_v3, s_v4].toArray ∧ bs = [(b202, .cells [.int .i64 0, .int .i64 0, .slice none 0 0, .slice none 0 0, .slice none 0 0].toArray 25), (b188, .cells [.int .i64 0, .int .i64 0, .slice none 0 0, .slice none 0 0, .slice none 0 0].toArray 25), (b2, .cells [.int .i64 x_.Fault.Row, .int .i64 x_.Fault.Col, (.slice a108 x_.Panel.Rows.length c109), .int .i64 x_.Flaw].toArray 32), (b1, .cells [.int .i64 s.Width, .int .i64 s.Length, s_v2, s_v3, s_v4].toArray 25)] ∧ gs = [] ∧ HSub H142 H461) ?_ ?_
          ·rintro H461 f bs gs ⟨b202, b188, hf2, hf3, hf7, hf8, hf78, hf80, rfl, rfl, hs461⟩
           refine (JA.norm (i := 2) hf2 (JA.norm (i := 3) hf3 (JA.norm (i := 7) hf7 (JA.norm (i := 8) hf8 (JA.norm (i := 78) hf78 (JA.norm (i := 80) hf80 ?_))))))
           refine JA.many [1] (by kernel_rfl) (by simp) (all_one ⟨_, #[true, true, true, false, true, true, false, false], rfl, (by kernel_rfl), ?_⟩)
           refine JL.callXC (x_ref03_Copy n H461 s s_v2 (SL.mono R_Cell_mono (HSub.trans hs89 (HSub.trans hs117 (HSub.trans hs119 (HSub.trans hs121 (HSub.trans hs142 hs461))))) hs_2) s_v3 (SL.mono R_Cell_mono (HSub.trans hs89 (HSub.trans hs117 (HSub.trans hs119 (HSub.trans hs121 (HSub.trans hs142 hs461))))) hs_3) s_v4 (SL.mono R_Panel_mono (HSub.trans hs89 (HSub.trans hs117 (HSub.trans hs119 (HSub.trans hs121 (HSub.trans hs142 hs461))))) hs_4) y163 hy163) rfl en_12 .none rfl ?_
           rintro H462 vv463 _ hs462 ⟨y163_v0, y163_xs0, y163_v1, y163_xs1, y163_v2, y163_xs2, rfl, rfl, hy163_0, hy163_1, hy163_2⟩
           refine JA.after hE (HSub.trans hs461 hs462) (.cons _ (.cons _ (.cons_cons _ (.cons_cons _ (List.nil_sublist _))))) ?_
           exact nd240_3 _ _ _ _ ⟨b202, b188, y163_v2, y163_xs2, y163_v1, y163_xs1, y163_v0, y163_xs0, rfl, rfl, rfl, rfl, rfl, rfl, rfl, rfl, hy163_2, hy163_1, hy163_0, (HSub.trans hs461 hs462)⟩
          intro nd240_6
          refine JA.take 0 (listed' := #[true, false, false, false, false, false, false, false]) hQ rfl (by kernel_rfl) (by kernel_rfl) (by kernel_rfl) (by kernel_rfl) (by kernel_rfl) hE (HSub.refl _) (.cons_cons _ (.cons_cons _ (List.nil_sublist _))) ?_
          refine JL.loadOwn 1 az_25 rfl rfl rfl .none rfl ?_
          refine JA.cont ?_
          refine JA.take 2 (listed' := #[true, false, true, false, false, false, false, false]) hQ rfl (by kernel_rfl) (by kernel_rfl) (by kernel_rfl) (by kernel_rfl) (by kernel_rfl) hE (HSub.refl _) (.cons_cons _ (.cons_cons _ (List.nil_sublist _))) ?_
          refine JL.loadOwn 1 az_25 rfl rfl rfl .none rfl ?_
          refine JA.cont ?_
          refine JA.many [1, 4, 5] (by kernel_rfl) (by simp) (all_cons ⟨_, #[true, true, true, false, false, false, false, false], rfl, (by kernel_rfl), ?_⟩ (all_cons ⟨_, #[true, false, true, false, true, false, false, false], rfl, (by kernel_rfl), ?_⟩ (all_one ⟨_, #[true, false, true, false, false, true, false, false], rfl, (by kernel_rfl), ?_⟩)))
          ·skip
           refine JL.callXC (x_ref03_Copy n H142 s s_v2 (SL.mono R_Cell_mono (HSub.trans hs89 (HSub.trans hs117 (HSub.trans hs119 (HSub.trans hs121 hs142)))) hs_2) s_v3 (SL.mono R_Cell_mono (HSub.trans hs89 (HSub.trans hs117 (HSub.trans hs119 (HSub.trans hs121 hs142)))) hs_3) s_v4 (SL.mono R_Panel_mono (HSub.trans hs89 (HSub.trans hs117 (HSub.trans hs119 (HSub.trans hs121 hs142)))) hs_4) y163 hy163) rfl en_12 .none rfl ?_
           rintro H467 vv468 _ hs467 ⟨y163_v0, y163_xs0, y163_v1, y163_xs1, y163_v2, y163_xs2, rfl, rfl, hy163_0, hy163_1, hy163_2⟩
           refine JA.after hE hs467 (.cons_cons _ (.cons_cons _ (List.nil_sublist _))) ?_
           refine JA.many [3, 4, 5] (by kernel_rfl) (by simp) (all_cons ⟨_, #[true, true, true, true, false, false, false, false], rfl, (by kernel_rfl), ?_⟩ (all_cons ⟨_, #[true, true, true, false, true, false, false, false], rfl, (by kernel_rfl), ?_⟩ (all_one ⟨_, #[true, true, true, false, false, true, false, false], rfl, (by kernel_rfl), ?_⟩)))
           ·skip
            refine JL.callXC (x_ref03_Copy n H467 s s_v2 (SL.mono R_Cell_mono (HSub.trans hs89 (HSub.trans hs117 (HSub.trans hs119 (HSub.trans hs121 (HSub.trans hs142 hs467))))) hs_2) s_v3 (SL.mono R_Cell_mono (HSub.trans hs89 (HSub.trans hs117 (HSub.trans hs119 (HSub.trans hs121 (HSub.trans hs142 hs467))))) hs_3) s_v4 (SL.mono R_Panel_mono (HSub.trans hs89 (HSub.trans hs117 (HSub.trans hs119 (HSub.trans hs121 (HSub.trans hs142 hs467))))) hs_4) y169 hy169) rfl en_12 .none rfl ?_
            rintro H472 vv473 _ hs472 ⟨y169_v0, y169_xs0, y169_v1, y169_xs1, y169_v2, y169_xs2, rfl, rfl, hy169_0, hy169_1, hy169_2⟩
            refine JA.after hE (HSub.trans hs467 hs472) (.cons_cons _ (.cons_cons _ (List.nil_sublist _))) ?_
            refine JA.many [4, 5] (by kernel_rfl) (by simp) (all_cons ⟨_, #[true, true, true, true, true, false, false, false], rfl, (by kernel_rfl), ?_⟩ (all_one ⟨_, #[true, true, true, true, false, true, false, false], rfl, (by kernel_rfl), ?_⟩))
            ·skip
             refine JL.alloc ze_25 .none rfl ?_
             intro b477
             refine JA.after hE (HSub.trans hs467 hs472) (.cons _ (.cons_cons _ (.cons_cons _ (List.nil_sublist _)))) ?_
             exact nd240_1 _ _ _ _ ⟨b477, y169_v2, y169_xs2, y169_v1, y169_xs1, y169_v0, y169_xs0, y163_v2, y163_xs2, y163_v1, y163_xs1, y163_v0, y163_xs0, rfl, rfl, rfl, rfl, rfl, rfl, rfl, hy169_2, hy169_1, hy169_0, (CH.mono R_Panel_mono hs472 hy163_2), (CH.mono R_Cell_mono hs472 hy163_1), (CH.mono R_Cell_mono hs472 hy163_0), (HSub.trans hs467 hs472)⟩
            ·skip
             refine JL.alloc ze_25 .none rfl ?_
             intro b478
             refine JA.after hE (HSub.trans hs467 hs472) (.cons _ (.cons_cons _ (.cons_cons _ (List.nil_sublist _)))) ?_
             exact nd240_2 _ _ _ _ ⟨b478, y169_v2, y169_xs2, y169_v1, y169_xs1, y169_v0, y169_xs0, y163_v2, y163_xs2, y163_v1, y163_xs1, y163_v0, y163_xs0, rfl, rfl, rfl, rfl, rfl, rfl, rfl, hy169_2, hy169_1, hy169_0, (CH.mono R_Panel_mono hs472 hy163_2), (CH.mono R_Cell_mono hs472 hy163_1), (CH.mono R_Cell_mono hs472 hy163_0), (HSub.trans hs467 hs472)⟩
           ·skip
            refine JL.alloc ze_25 .none rfl ?_
            intro b479
            refine JA.after hE hs467 (.cons _ (.cons_cons _ (.cons_cons _ (List.nil_sublist _)))) ?_
            exact nd240_4 _ _ _ _ ⟨b479, y163_v2, y163_xs2, y163_v1, y163_xs1, y163_v0, y163_xs0, rfl, rfl, rfl, rfl, rfl, rfl, rfl, hy163_2, hy163_1, hy163_0, hs467⟩
           ·skip
            refine JL.alloc ze_25 .none rfl ?_
            intro b480
            refine JA.after hE hs467 (.cons _ (.cons_cons _ (.cons_cons _ (List.nil_sublist _)))) ?_
            exact nd240_5 _ _ _ _ ⟨b480, y163_v2, y163_xs2, y163_v1, y163_xs1, y163_v0, y163_xs0, rfl, rfl, rfl, rfl, rfl, rfl, rfl, hy163_2, hy163_1, hy163_0, hs467⟩
          ·skip
           refine JL.alloc ze_25 .none rfl ?_
           intro b481
           refine JA.after hE (HSub.refl _) (.cons _ (.cons_cons _ (.cons_cons _ (List.nil_sublist _)))) ?_
           refine JA.many [1, 5] (by kernel_rfl) (by simp) (all_cons ⟨_, #[true, true, true, false, true, false, false, false], rfl, (by kernel_rfl), ?_⟩ (all_one ⟨_, #[true, false, true, false, true, true, false, false], rfl, (by kernel_rfl), ?_⟩))
           ·skip
            refine JL.callXC (x_ref03_Copy n H142 s s_v2 (SL.mono R_Cell_mono (HSub.trans hs89 (HSub.trans hs117 (HSub.trans hs119 (HSub.trans hs121 hs142)))) hs_2) s_v3 (SL.mono R_Cell_mono (HSub.trans hs89 (HSub.trans hs117 (HSub.trans hs119 (HSub.trans hs121 hs142)))) hs_3) s_v4 (SL.mono R_Panel_mono (HSub.trans hs89 (HSub.trans hs117 (HSub.trans hs119 (HSub.trans hs121 hs142)))) hs_4) y163 hy163) rfl en_12 .none rfl ?_
            rintro H482 vv483 _ hs482 ⟨y163_v0, y163_xs0, y163_v1, y163_xs1, y163_v2, y163_xs2, rfl, rfl, hy163_0, hy163_1, hy163_2⟩
            refine JA.after hE hs482 (.cons _ (.cons_cons _ (.cons_cons _ (List.nil_sublist _)))) ?_
            exact nd240_4 _ _ _ _ ⟨b481, y163_v2, y163_xs2, y163_v1, y163_xs1, y163_v0, y163_xs0, rfl, rfl, rfl, rfl, rfl, rfl, rfl, hy163_2, hy163_1, hy163_0, hs482⟩
           ·skip
            refine JL.alloc ze_25 .none rfl ?_
            intro b487
            refine JA.after hE (HSub.refl _) (.cons _ (.cons _ (.cons_cons _ (.cons_cons _ (List.nil_sublist _))))) ?_
            exact nd240_6 _ _ _ _ ⟨b487, b481, rfl, rfl, rfl, rfl, rfl, rfl, rfl, rfl, (HSub.refl _)⟩
          ·skip
           refine JL.alloc ze_25 .none rfl ?_
           intro b488
           refine JA.after hE (HSub.refl _) (.cons _ (.cons_cons _ (.cons_cons _ (List.nil_sublist _)))) ?_
           refine JA.many [1, 4] (by kernel_rfl) (by simp) (all_cons ⟨_, #[true, true, true, false, false, true, false, false], rfl, (by kernel_rfl), ?_⟩ (all_one ⟨_, #[true, false, true, false, true, true, false, false], rfl, (by kernel_rfl), ?_⟩))
           ·skip
            refine JL.callXC (x_ref03_Copy n H142 s s_v2 (SL.mono R_Cell_mono (HSub.trans hs89 (HSub.trans hs117 (HSub.trans hs119 (HSub.trans hs121 hs142)))) hs_2) s_v3 (SL.mono R_Cell_mono (HSub.trans hs89 (HSub.trans hs117 (HSub.trans hs119 (HSub.trans hs121 hs142)))) hs_3) s_v4 (SL.mono R_Panel_mono (HSub.trans hs89 (HSub.trans hs117 (HSub.trans hs119 (HSub.trans hs121 hs142)))) hs_4) y163 hy163) rfl en_12 .none rfl ?_
            rintro H489 vv490 _ hs489 ⟨y163_v0, y163_xs0, y163_v1, y163_xs1, y163_v2, y163_xs2, rfl, rfl, hy163_0, hy163_1, hy163_2⟩
            refine JA.after hE hs489 (.cons _ (.cons_cons _ (.cons_cons _ (List.nil_sublist _)))) ?_
            exact nd240_5 _ _ _ _ ⟨b488, y163_v2, y163_xs2, y163_v1, y163_xs1, y163_v0, y163_xs0, rfl, rfl, rfl, rfl, rfl, rfl, rfl, hy163_2, hy163_1, hy163_0, hs489⟩
           ·skip
            refine JL.alloc ze_25 .none rfl ?_
            intro b494
            refine JA.after hE (HSub.refl _) (.cons _ (.cons _ (.cons_cons _ (.cons_cons _ (List.nil_sublist _))))) ?_
            refine JA.perm (swapAt_perm 0 _) ?_
            exact nd240_6 _ _ _ _ ⟨b488, b494, rfl, rfl, rfl, rfl, rfl, rfl, rfl, rfl, (HSub.refl _)⟩
    intro nd88_0
    refine JA.cut 3 #[true, true, true, true, true, false, false, false] (fun H495 f bs gs => ∃ (b57 : Nat) (y17_v2 : Value) (y17_xs2 : List Value) (y17_v1 : Value) (y17_xs1 : List Value) (y17_v0 : Value) (y17_xs0 : List Value) (y11_v2 : Value) (y11_xs2 : List Value) (y11_v1 : Value) (y11_xs1 : List Value) (y11_v0 : Value) (y11_xs0 : List Value), f 2 = .pointer (some ⟨b1, 0, none⟩) ∧ f 3 = .pointer (some ⟨b2, 0, none⟩) ∧ f 5 = .pointer (some ⟨b57, 0, none⟩) ∧ f 31 = .agg [.int .i64 y11.Width, .int .i64 y11.Length, y11_v0, y11_v1, y11_v2].toArray ∧ f 33 = .agg [.int .i64 y17.Width, .int .i64 y17.Length, y17_v0, y17_v1, y17_v2].toArray ∧ bs = [(b57, .cells [.int .i64 0, .int .i64 0, .slice none 0 0, .slice none 0 0, .slice none 0 0].toArray 25), (b2, .cells [.int .i64 x_.Fault.Row, .int .i64 x_.Fault.Col, x__v2, .int .i64 x_.Flaw].toArray 32), (b1, .cells [.int .i64 s.Width, .int .i64 s.Length, s_v2, s_v3, s_v4].toArray 25)] ∧ gs = [⟨y17_v2, 30, 1, y17.Panels.length, y17_xs2⟩, ⟨y17_v1, 27, 2, y17.Flaws.length, y17_xs1⟩, ⟨y17_v0, 27, 2, y17.Faults.length, y17_xs0⟩, ⟨y11_v2, 30, 1, y11.Panels.length, y11_xs2⟩, ⟨y11_v1, 27, 2, y11.Flaws.length, y11_xs1⟩, ⟨y11_v0, 27, 2, y11.Faults.length, y11_xs0⟩] ∧ CH H495 1 R_Panel y17_xs2 y17.Panels ∧ CH H495 2 R_Cell y17_xs1 y17.Flaws ∧ CH H495 2 R_Cell y17_xs0 y17.Faults ∧ CH H495 1 R_Panel y11_xs2 y11.Panels ∧ CH H495 2 R_Cell y11_xs1 y11.Flaws ∧ CH H495 2 R_Cell y11_xs0 y11.Faults ∧ HSub H H495) ?_ ?_
    ·rintro H495 f bs gs ⟨b57, y17_v2, y17_xs2, y17_v1, y17_xs1, y17_v0, y17_xs0, y11_v2, y11_xs2, y11_v1, y11_xs1, y11_v0, y11_xs0, hf2, hf3, hf5, hf31, hf33, rfl, rfl, hm496, hm497, hm498, hm499, hm500, hm501, hs495⟩
     refine (JA.norm (i := 2) hf2 (JA.norm (i := 3) hf3 (JA.norm (i := 5) hf5 (JA.norm (i := 31) hf31 (JA.norm (i := 33) hf33 ?_)))))
     refine JA.many [5] (by kernel_rfl) (by simp) (all_one ⟨_, #[true, true, true, true, true, true, false, false], rfl, (by kernel_rfl), ?_⟩)
     refine JL.alloc ze_25 .none rfl ?_
     intro b502
     refine JA.after hE hs495 (.cons _ (.cons _ (.cons_cons _ (.cons_cons _ (List.nil_sublist _))))) ?_
     exact nd88_0 _ _ _ _ ⟨b502, b57, y17_v2, y17_xs2, y17_v1, y17_xs1, y17_v0, y17_xs0, y11_v2, y11_xs2, y11_v1, y11_xs1, y11_v0, y11_xs0, rfl, rfl, rfl, rfl, rfl, rfl, rfl, rfl, hm496, hm497, hm498, hm499, hm500, hm501, hs495⟩
    intro nd88_1
    refine JA.cut 3 #[true, true, true, true, false, true, false, false] (fun H503 f bs gs => ∃ (b58 : Nat) (y17_v2 : Value) (y17_xs2 : List Value) (y17_v1 : Value) (y17_xs1 : List Value) (y17_v0 : Value) (y17_xs0 : List Value) (y11_v2 : Value) (y11_xs2 : List Value) (y11_v1 : Value) (y11_xs1 : List Value) (y11_v0 : Value) (y11_xs0 : List Value), f 2 = .pointer (some ⟨b1, 0, none⟩) ∧ f 3 = .pointer (some ⟨b2, 0, none⟩) ∧ f 6 = .pointer (some ⟨b58, 0, none⟩) ∧ f 31 = .agg [.int .i64 y11.Width, .int .i64 y11.Length, y11_v0, y11_v1, y11_v2].toArray ∧ f 33 = .agg [.int .i64 y17.Width, .int .i64 y17.Length, y17_v0, y17_v1, y17_v2].toArray ∧ bs = [(b58, .cells [.int .i64 0, .int .i64 0, .slice none 0 0, .slice none 0 0, .slice none 0 0].toArray 25), (b2, .cells [.int .i64 x_.Fault.Row, .int .i64 x_.Fault.Col, x__v2, .int .i64 x_.Flaw].toArray 32), (b1, .cells [.int .i64 s.Width, .int .i64 s.Length, s_v2, s_v3, s_v4].toArray 25)] ∧ gs = [⟨y17_v2, 30, 1, y17.Panels.length, y17_xs2⟩, ⟨y17_v1, 27, 2, y17.Flaws.length, y17_xs1⟩, ⟨y17_v0, 27, 2, y17.Faults.length, y17_xs0⟩, ⟨y11_v2, 30, 1, y11.Panels.length, y11_xs2⟩, ⟨y11_v1, 27, 2, y11.Flaws.length, y11_xs1⟩, ⟨y11_v0, 27, 2, y11.Faults.length, y11_xs0⟩] ∧ CH H503 1 R_Panel y17_xs2 y17.Panels ∧ CH H503 2 R_Cell y17_xs1 y17.Flaws ∧ CH H503 2 R_Cell y17_xs0 y17.Faults ∧ CH H503 1 R_Panel y11_xs2 y11.Panels ∧ CH H503 2 R_Cell y11_xs1 y11.Flaws ∧ CH H503 2 R_Cell y11_xs0 y11.Faults ∧ HSub H H503) ?_ ?_
    ·rintro H503 f bs gs ⟨b58, y17_v2, y17_xs2, y17_v1, y17_xs1, y17_v0, y17_xs0, y11_v2, y11_xs2, y11_v1, y11_xs1, y11_v0, y11_xs0, hf2, hf3, hf6, hf31, hf33, rfl, rfl, hm504, hm505, hm506, hm507, hm508, hm509, hs503⟩
     refine (JA.norm (i := 2) hf2 (JA.norm (i := 3) hf3 (JA.norm (i := 6) hf6 (JA.norm (i := 31) hf31 (JA.norm (i := 33) hf33 ?_)))))
     refine JA.many [4] (by kernel_rfl) (by simp) (all_one ⟨_, #[true, true, true, true, true, true, false, false], rfl, (by kernel_rfl), ?_⟩)
     refine JL.alloc ze_25 .none rfl ?_
     intro b510
     refine JA.after hE hs503 (.cons _ (.cons _ (.cons_cons _ (.cons_cons _ (List.nil_sublist _))))) ?_
     refine JA.perm (swapAt_perm 0 _) ?_
     exact nd88_0 _ _ _ _ ⟨b58, b510, y17_v2, y17_xs2, y17_v1, y17_xs1, y17_v0, y17_xs0, y11_v2, y11_xs2, y11_v1, y11_xs1, y11_v0, y11_xs0, rfl, rfl, rfl, rfl, rfl, rfl, rfl, rfl, hm504, hm505, hm506, hm507, hm508, hm509, hs503⟩
    intro nd88_2
    refine JA.cut 3 #[true, true, true, false, true, true, false, false] (fun H511 f bs gs => ∃ (b64 : Nat) (b43 : Nat) (y11_v2 : Value) (y11_xs2 : List Value) (y11_v1 : Value) (y11_xs1 : List Value) (y11_v0 : Value) (y11_xs0 : List Value), f 2 = .pointer (some ⟨b1, 0, none⟩) ∧ f 3 = .pointer (some ⟨b2, 0, none⟩) ∧ f 5 = .pointer (some ⟨b43, 0, none⟩) ∧ f 6 = .pointer (some ⟨b64, 0, none⟩) ∧ f 31 = .agg [.int .i64 y11.Width, .int .i64 y11.Length, y11_v0, y11_v1, y11_v2].toArray ∧ f 32 = .agg [.int .i64 s.Width, .int .i64 s.Length, s_v2, s_v3, s_v4].toArray ∧ bs = [(b64, .cells [.int .i64 0, .int .i64 0, .slice none 0 0, .slice none 0 0, .slice none 0 0].toArray 25), (b43, .cells [.int .i64 0, .int .i64 0, .slice none 0 0, .slice none 0 0, .slice none 0 0].toArray 25), (b2, .cells [.int .i64 x_.Fault.Row, .int .i64 x_.Fault.Col, x__v2, .int .i64 x_.Flaw].toArray 32), (b1, .cells [.int .i64 s.Width, .int .i64 s.Length, s_v2, s_v3, s_v4].toArray 25)] ∧ gs = [⟨y11_v2, 30, 1, y11.Panels.length, y11_xs2⟩, ⟨y11_v1, 27, 2, y11.Flaws.length, y11_xs1⟩, ⟨y11_v0, 27, 2, y11.Faults.length, y11_xs0⟩] ∧ CH H511 1 R_Panel y11_xs2 y11.Panels ∧ CH H511 2 R_Cell y11_xs1 y11.Flaws ∧ CH H511 2 R_Cell y11_xs0 y11.Faults ∧ HSub H H511) ?_ ?_
    ·rintro H511 f bs gs ⟨b64, b43, y11_v2, y11_xs2, y11_v1, y11_xs1, y11_v0, y11_xs0, hf2, hf3, hf5, hf6, hf31, hf32, rfl, rfl, hm512, hm513, hm514, hs511⟩
     refine (JA.norm (i := 2) hf2 (JA.norm (i := 3) hf3 (JA.norm (i := 5) hf5 (JA.norm (i := 6) hf6 (JA.norm (i := 31) hf31 (JA.norm (i := 32) hf32 ?_))))))
     refine JA.many [3] (by kernel_rfl) (by simp) (all_one ⟨_, #[true, true, true, true, true, true, false, false], rfl, (by kernel_rfl), ?_⟩)
     refine JL.callXC (x_ref03_Copy n H511 s s_v2 (SL.mono R_Cell_mono hs511 hs_2) s_v3 (SL.mono R_Cell_mono hs511 hs_3) s_v4 (SL.mono R_Panel_mono hs511 hs_4) y17 hy17) rfl en_12 .none rfl ?_
     rintro H515 vv516 _ hs515 ⟨y17_v0, y17_xs0, y17_v1, y17_xs1, y17_v2, y17_xs2, rfl, rfl, hy17_0, hy17_1, hy17_2⟩
     refine JA.after hE (HSub.trans hs511 hs515) (.cons _ (.cons _ (.cons_cons _ (.cons_cons _ (List.nil_sublist _))))) ?_
     exact nd88_0 _ _ _ _ ⟨b64, b43, y17_v2, y17_xs2, y17_v1, y17_xs1, y17_v0, y17_xs0, y11_v2, y11_xs2, y11_v1, y11_xs1, y11_v0, y11_xs0, rfl, rfl, rfl, rfl, rfl, rfl, rfl, rfl, hy17_2, hy17_1, hy17_0, (CH.mono R_Panel_mono hs515 hm512), (CH.mono R_Cell_mono hs515 hm513), (CH.mono R_Cell_mono hs515 hm514), (HSub.trans hs511 hs515)⟩
    intro nd88_3
    refine JA.cut 4 #[true, true, true, false, true, false, false, false] (fun H520 f bs gs => ∃ (b43 : Nat) (y11_v2 : Value) (y11_xs2 : List Value) (y11_v1 : Value) (y11_xs1 : List Value) (y11_v0 : Value) (y11_xs0 : List Value), f 2 = .pointer (some ⟨b1, 0, none⟩) ∧ f 3 = .pointer (some ⟨b2, 0, none⟩) ∧ f 5 = .pointer (some ⟨b43, 0, none⟩) ∧ f 31 = .agg [.int .i64 y11.Width, .int .i64 y11.Length, y11_v0, y11_v1, y11_v2].toArray ∧ f 32 = .agg [.int .i64 s.Width, .int .i64 s.Length, s_v2, s_v3, s_v4].toArray ∧ bs = [(b43, .cells [.int .i64 0, .int .i64 0, .slice none 0 0, .slice none 0 0, .slice none 0 0].toArray 25), (b2, .cells [.int .i64 x_.Fault.Row, .int .i64 x_.Fault.Col, x__v2, .int .i64 x_.Flaw].toArray 32), (b1, .cells [.int .i64 s.Width, .int .i64 s.Length, s_v2, s_v3, s_v4].toArray 25)] ∧ gs = [⟨y11_v2, 30, 1, y11.Panels.length, y11_xs2⟩, ⟨y11_v1, 27, 2, y11.Flaws.length, y11_xs1⟩, ⟨y11_v0, 27, 2, y11.Faults.length, y11_xs0⟩] ∧ CH H520 1 R_Panel y11_xs2 y11.Panels ∧ CH H520 2 R_Cell y11_xs1 y11.Flaws ∧ CH H520 2 R_Cell y11_xs0 y11.Faults ∧ HSub H H520) ?_ ?_
    ·rintro H520 f bs gs ⟨b43, y11_v2, y11_xs2, y11_v1, y11_xs1, y11_v0, y11_xs0, hf2, hf3, hf5, hf31, hf32, rfl, rfl, hm521, hm522, hm523, hs520⟩
     refine (JA.norm (i := 2) hf2 (JA.norm (i := 3) hf3 (JA.norm (i := 5) hf5 (JA.norm (i := 31) hf31 (JA.norm (i := 32) hf32 ?_)))))
     refine JA.many [3, 5] (by kernel_rfl) (by simp) (all_cons ⟨_, #[true, true, true, true, true, false, false, false], rfl, (by kernel_rfl), ?_⟩ (all_one ⟨_, #[true, true, true, false, true, true, false, false], rfl, (by kernel_rfl), ?_⟩))
     ·skip
      refine JL.callXC (x_ref03_Copy n H520 s s_v2 (SL.mono R_Cell_mono hs520 hs_2) s_v3 (SL.mono R_Cell_mono hs520 hs_3) s_v4 (SL.mono R_Panel_mono hs520 hs_4) y17 hy17) rfl en_12 .none rfl ?_
      rintro H524 vv525 _ hs524 ⟨y17_v0, y17_xs0, y17_v1, y17_xs1, y17_v2, y17_xs2, rfl, rfl, hy17_0, hy17_1, hy17_2⟩
      refine JA.after hE (HSub.trans hs520 hs524) (.cons _ (.cons_cons _ (.cons_cons _ (List.nil_sublist _)))) ?_
      exact nd88_1 _ _ _ _ ⟨b43, y17_v2, y17_xs2, y17_v1, y17_xs1, y17_v0, y17_xs0, y11_v2, y11_xs2, y11_v1, y11_xs1, y11_v0, y11_xs0, rfl, rfl, rfl, rfl, rfl, rfl, rfl, hy17_2, hy17_1, hy17_0, (CH.mono R_Panel_mono hs524 hm521), (CH.mono R_Cell_mono hs524 hm522), (CH.mono R_Cell_mono hs524 hm523), (HSub.trans hs520 hs524)⟩
     ·skip
      refine JL.alloc ze_25 .none rfl ?_
      intro b529
      refine JA.after hE hs520 (.cons _ (.cons _ (.cons_cons _ (.cons_cons _ (List.nil_sublist _))))) ?_
      exact nd88_3 _ _ _ _ ⟨b529, b43, y11_v2, y11_xs2, y11_v1, y11_xs1, y11_v0, y11_xs0, rfl, rfl, rfl, rfl, rfl, rfl, rfl, rfl, hm521, hm522, hm523, hs520⟩
    intro nd88_4
    refine JA.cut 4 #[true, true, true, false, false, true, false, false] (fun H530 f bs gs => ∃ (b44 : Nat) (y11_v2 : Value) (y11_xs2 : List Value) (y11_v1 : Value) (y11_xs1 : List Value) (y11_v0 : Value) (y11_xs0 : List Value), f 2 = .pointer (some ⟨b1, 0, none⟩) ∧ f 3 = .pointer (some ⟨b2, 0, none⟩) ∧ f 6 = .pointer (some ⟨b44, 0, none⟩) ∧ f 31 = .agg [.int .i64 y11.Width, .int .i64 y11.Length, y11_v0, y11_v1, y11_v2].toArray ∧ f 32 = .agg [.int .i64 s.Width, .int .i64 s.Length, s_v2, s_v3, s_v4].toArray ∧ bs = [(b44, .cells [.int .i64 0, .int .i64 0, .slice none 0 0, .slice none 0 0, .slice none 0 0].toArray 25), (b2, .cells [.int .i64 x_.Fault.Row, .int .i64 x_.Fault.Col, x__v2, .int .i64 x_.Flaw].toArray 32), (b1, .cells [.int .i64 s.Width, .int .i64 s.Length, s_v2, s_v3, s_v4].toArray 25)] ∧ gs = [⟨y11_v2, 30, 1, y11.Panels.length, y11_xs2⟩, ⟨y11_v1, 27, 2, y11.Flaws.length, y11_xs1⟩, ⟨y11_v0, 27, 2, y11.Faults.length, y11_xs0⟩] ∧ CH H530 1 R_Panel y11_xs2 y11.Panels ∧ CH H530 2 R_Cell y11_xs1 y11.Flaws ∧ CH H530 2 R_Cell y11_xs0 y11.Faults ∧ HSub H H530) ?_ ?_
    ·rintro H530 f bs gs ⟨b44, y11_v2, y11_xs2, y11_v1, y11_xs1, y11_v0, y11_xs0, hf2, hf3, hf6, hf31, hf32, rfl, rfl, hm531, hm532, hm533, hs530⟩
     refine (JA.norm (i := 2) hf2 (JA.norm (i := 3) hf3 (JA.norm (i := 6) hf6 (JA.norm (i := 31) hf31 (JA.norm (i := 32) hf32 ?_)))))
     refine JA.many [3, 4] (by kernel_rfl) (by simp) (all_cons ⟨_, #[true, true, true, true, false, true, false, false], rfl, (by kernel_rfl), ?_⟩ (all_one ⟨_, #[true, true, true, false, true, true, false, false], rfl, (by kernel_rfl), ?_⟩))
     ·skip
      refine JL.callXC (x_ref03_Copy n H530 s s_v2 (SL.mono R_Cell_mono hs530 hs_2) s_v3 (SL.mono R_Cell_mono hs530 hs_3) s_v4 (SL.mono R_Panel_mono hs530 hs_4) y17 hy17) rfl en_12 .none rfl ?_
      rintro H534 vv535 _ hs534 ⟨y17_v0, y17_xs0, y17_v1, y17_xs1, y17_v2, y17_xs2, rfl, rfl, hy17_0, hy17_1, hy17_2⟩
      refine JA.after hE (HSub.trans hs530 hs534) (.cons _ (.cons_cons _ (.cons_cons _ (List.nil_sublist _)))) ?_
      exact nd88_2 _ _ _ _ ⟨b44, y17_v2, y17_xs2, y17_v1, y17_xs1, y17_v0, y17_xs0, y11_v2, y11_xs2, y11_v1, y11_xs1, y11_v0, y11_xs0, rfl, rfl, rfl, rfl, rfl, rfl, rfl, hy17_2, hy17_1, hy17_0, (CH.mono R_Panel_mono hs534 hm531), (CH.mono R_Cell_mono hs534 hm532), (CH.mono R_Cell_mono hs534 hm533), (HSub.trans hs530 hs534)⟩
     ·skip
      refine JL.alloc ze_25 .none rfl ?_
      intro b539
      refine JA.after hE hs530 (.cons _ (.cons _ (.cons_cons _ (.cons_cons _ (List.nil_sublist _))))) ?_
      refine JA.perm (swapAt_perm 0 _) ?_
      exact nd88_3 _ _ _ _ ⟨b44, b539, y11_v2, y11_xs2, y11_v1, y11_xs1, y11_v0, y11_xs0, rfl, rfl, rfl, rfl, rfl, rfl, rfl, rfl, hm531, hm532, hm533, hs530⟩
    intro nd88_5
    refine JA.cut 4 #[true, false, true, false, true, true, false, false] (fun H540 f bs gs => ∃ (b50 : Nat) (b36 : Nat), f 2 = .pointer (some ⟨b1, 0, none⟩) ∧ f 3 = .pointer (some ⟨b2, 0, none⟩) ∧ f 5 = .pointer (some ⟨b36, 0, none⟩) ∧ f 6 = .pointer (some ⟨b50, 0, none⟩) ∧ f 30 = .agg [.int .i64 s.Width, .int .i64 s.Length, s_v2, s_v3, s_v4].toArray ∧ f 32 = .agg [.int .i64 s.Width, .int .i64 s.Length, s_v2, s_v3, s_v4].toArray ∧ bs = [(b50, .cells [.int .i64 0, .int .i64 0, .slice none 0 0, .slice none 0 0, .slice none 0 0].toArray 25), (b36, .cells [.int .i64 0, .int .i64 0, .slice none 0 0, .slice none 0 0, .slice none 0 0].toArray 25), (b2, .cells [.int .i64 x_.Fault.Row, .int .i64 x_.Fault.Col, x__v2, .int .i64 x_.Flaw].toArray 32), (b1, .cells [.int .i64 s.Width, .int .i64 s.Length, s_v2, s_v3, s_v4].toArray 25)] ∧ gs = [] ∧ HSub H H540) ?_ ?_
    ·rintro H540 f bs gs ⟨b50, b36, hf2, hf3, hf5, hf6, hf30, hf32, rfl, rfl, hs540⟩
     refine (JA.norm (i := 2) hf2 (JA.norm (i := 3) hf3 (JA.norm (i := 5) hf5 (JA.norm (i := 6) hf6 (JA.norm (i := 30) hf30 (JA.norm (i := 32) hf32 ?_))))))
     refine JA.many [1] (by kernel_rfl) (by simp) (all_one ⟨_, #[true, true, true, false, true, true, false, false], rfl, (by kernel_rfl), ?_⟩)
     refine JL.callXC (x_ref03_Copy n H540 s s_v2 (SL.mono R_Cell_mono hs540 hs_2) s_v3 (SL.mono R_Cell_mono hs540 hs_3) s_v4 (SL.mono R_Panel_mono hs540 hs_4) y11 hy11) rfl en_12 .none rfl ?_
     rintro H541 vv542 _ hs541 ⟨y11_v0, y11_xs0, y11_v1, y11_xs1, y11_v2, y11_xs2, rfl, rfl, hy11_0, hy11_1, hy11_2⟩
     refine JA.after hE (HSub.trans hs540 hs541) (.cons _ (.cons _ (.cons_cons _ (.cons_cons _ (List.nil_sublist _))))) ?_
     exact nd88_3 _ _ _ _ ⟨b50, b36, y11_v2, y11_xs2, y11_v1, y11_xs1, y11_v0, y11_xs0, rfl, rfl, rfl, rfl, rfl, rfl, rfl, rfl, hy11_2, hy11_1, hy11_0, (HSub.trans hs540 hs541)⟩
    intro nd88_6
    refine JA.take 0 (listed' := #[true, false, false, false, false, false, false, false]) hQ rfl (by kernel_rfl) (by kernel_rfl) (by kernel_rfl) (by kernel_rfl) (by kernel_rfl) hE (HSub.refl _) (.cons_cons _ (.cons_cons _ (List.nil_sublist _))) ?_
    refine JL.loadOwn 1 az_25 rfl rfl rfl .none rfl ?_
    refine JA.cont ?_
    refine JA.take 2 (listed' := #[true, false, true, false, false, false, false, false]) hQ rfl (by kernel_rfl) (by kernel_rfl) (by kernel_rfl) (by kernel_rfl) (by kernel_rfl) hE (HSub.refl _) (.cons_cons _ (.cons_cons _ (List.nil_sublist _))) ?_
    refine JL.loadOwn 1 az_25 rfl rfl rfl .none rfl ?_
    refine JA.cont ?_
    refine JA.many [1, 4, 5] (by kernel_rfl) (by simp) (all_cons ⟨_, #[true, true, true, false, false, false, false, false], rfl, (by kernel_rfl), ?_⟩ (all_cons ⟨_, #[true, false, true, false, true, false, false, false], rfl, (by kernel_rfl), ?_⟩ (all_one ⟨_, #[true, false, true, false, false, true, false, false], rfl, (by kernel_rfl), ?_⟩)))
    ·skip
     refine JL.callXC (x_ref03_Copy n H s s_v2 hs_2 s_v3 hs_3 s_v4 hs_4 y11 hy11) rfl en_12 .none rfl ?_
     rintro H546 vv547 _ hs546 ⟨y11_v0, y11_xs0, y11_v1, y11_xs1, y11_v2, y11_xs2, rfl, rfl, hy11_0, hy11_1, hy11_2⟩
     refine JA.after hE hs546 (.cons_cons _ (.cons_cons _ (List.nil_sublist _))) ?_
     refine JA.many [3, 4, 5] (by kernel_rfl) (by simp) (all_cons ⟨_, #[true, true, true, true, false, false, false, false], rfl, (by kernel_rfl), ?_⟩ (all_cons ⟨_, #[true, true, true, false, true, false, false, false], rfl, (by kernel_rfl), ?_⟩ (all_one ⟨_, #[true, true, true, false, false, true, false, false], rfl, (by kernel_rfl), ?_⟩)))
     ·skip
      refine JL.callXC (x_ref03_Copy n H546 s s_v2 (SL.mono R_Cell_mono hs546 hs_2) s_v3 (SL.mono R_Cell_mono hs546 hs_3) s_v4 (SL.mono R_Panel_mono hs546 hs_4) y17 hy17) rfl en_12 .none rfl ?_
      rintro H551 vv552 _ hs551 ⟨y17_v0, y17_xs0, y17_v1, y17_xs1, y17_v2, y17_xs2, rfl, rfl, hy17_0, hy17_1, hy17_2⟩
      refine JA.after hE (HSub.trans hs546 hs551) (.cons_cons _ (.cons_cons _ (List.nil_sublist _))) ?_
      refine JA.many [4, 5] (by kernel_rfl) (by simp) (all_cons ⟨_, #[true, true, true, true, true, false, false, false], rfl, (by kernel_rfl), ?_⟩ (all_one ⟨_, #[true, true, true, true, false, true, false, false], rfl, (by kernel_rfl), ?_⟩))
      ·skip
       refine JL.alloc ze_25 .none rfl ?_
       intro b556
       refine JA.after hE (HSub.trans hs546 hs551) (.cons _ (.cons_cons _ (.cons_cons _ (List.nil_sublist _)))) ?_
       exact nd88_1 _ _ _ _ ⟨b556, y17_v2, y17_xs2, y17_v1, y17_xs1, y17_v0, y17_xs0, y11_v2, y11_xs2, y11_v1, y11_xs1, y11_v0, y11_xs0, rfl, rfl, rfl, rfl, rfl, rfl, rfl, hy17_2, hy17_1, hy17_0, (CH.mono R_Panel_mono hs551 hy11_2), (CH.mono R_Cell_mono hs551 hy11_1), (CH.mono R_Cell_mono hs551 hy11_0), (HSub.trans hs546 hs551)⟩
      ·skip
       refine JL.alloc ze_25 .none rfl ?_
       intro b557
       refine JA.after hE (HSub.trans hs546 hs551) (.cons _ (.cons_cons _ (.cons_cons _ (List.nil_sublist _)))) ?_
       exact nd88_2 _ _ _ _ ⟨b557, y17_v2, y17_xs2, y17_v1, y17_xs1, y17_v0, y17_xs0, y11_v2, y11_xs2, y11_v1, y11_xs1, y11_v0, y11_xs0, rfl, rfl, rfl, rfl, rfl, rfl, rfl, hy17_2, hy17_1, hy17_0, (CH.mono R_Panel_mono hs551 hy11_2), (CH.mono R_Cell_mono hs551 hy11_1), (CH.mono R_Cell_mono hs551 hy11_0), (HSub.trans hs546 hs551)⟩
     ·skip
      refine JL.alloc ze_25 .none rfl ?_
      intro b558
      refine JA.after hE hs546 (.cons _ (.cons_cons _ (.cons_cons _ (List.nil_sublist _)))) ?_
      exact nd88_4 _ _ _ _ ⟨b558, y11_v2, y11_xs2, y11_v1, y11_xs1, y11_v0, y11_xs0, rfl, rfl, rfl, rfl, rfl, rfl, rfl, hy11_2, hy11_1, hy11_0, hs546⟩
     ·skip
      refine JL.alloc ze_25 .none rfl ?_
      intro b559
      refine JA.after hE hs546 (.cons _ (.cons_cons _ (.cons_cons _ (List.nil_sublist _)))) ?_
      exact nd88_5 _ _ _ _ ⟨b559, y11_v2, y11_xs2, y11_v1, y11_xs1, y11_v0, y11_xs0, rfl, rfl, rfl, rfl, rfl, rfl, rfl, hy11_2, hy11_1, hy11_0, hs546⟩
    ·skip
     refine JL.alloc ze_25 .none rfl ?_
     intro b560
     refine JA.after hE (HSub.refl _) (.cons _ (.cons_cons _ (.cons_cons _ (List.nil_sublist _)))) ?_
     refine JA.many [1, 5] (by kernel_rfl) (by simp) (all_cons ⟨_, #[true, true, true, false, true, false, false, false], rfl, (by kernel_rfl), ?_⟩ (all_one ⟨_, #[true, false, true, false, true, true, false, false], rfl, (by kernel_rfl), ?_⟩))
     ·skip
      refine JL.callXC (x_ref03_Copy n H s s_v2 hs_2 s_v3 hs_3 s_v4 hs_4 y11 hy11) rfl en_12 .none rfl ?_
      rintro H561 vv562 _ hs561 ⟨y11_v0, y11_xs0, y11_v1, y11_xs1, y11_v2, y11_xs2, rfl, rfl, hy11_0, hy11_1, hy11_2⟩
      refine JA.after hE hs561 (.cons _ (.cons_cons _ (.cons_cons _ (List.nil_sublist _)))) ?_
      exact nd88_4 _ _ _ _ ⟨b560, y11_v2, y11_xs2, y11_v1, y11_xs1, y11_v0, y11_xs0, rfl, rfl, rfl, rfl, rfl, rfl, rfl, hy11_2, hy11_1, hy11_0, hs561⟩
     ·skip
      refine JL.alloc ze_25 .none rfl ?_
      intro b566
      refine JA.after hE (HSub.refl _) (.cons _ (.cons _ (.cons_cons _ (.cons_cons _ (List.nil_sublist _))))) ?_
      exact nd88_6 _ _ _ _ ⟨b566, b560, rfl, rfl, rfl, rfl, rfl, rfl, rfl, rfl, (HSub.refl _)⟩
    ·skip
     refine JL.alloc ze_25 .none rfl ?_
     intro b567
     refine JA.after hE (HSub.refl _) (.cons _ (.cons_cons _ (.cons_cons _ (List.nil_sublist _)))) ?_
     refine JA.many [1, 4] (by kernel_rfl) (by simp) (all_cons ⟨_, #[true, true, true, false, false, true, false, false], rfl, (by kernel_rfl), ?_⟩ (all_one ⟨_, #[true, false, true, false, true, true, false, false], rfl, (by kernel_rfl), ?_⟩))
     ·skip
      refine JL.callXC (x_ref03_Copy n H s s_v2 hs_2 s_v3 hs_3 s_v4 hs_4 y11 hy11) rfl en_12 .none rfl ?_
      rintro H568 vv569 _ hs568 ⟨y11_v0, y11_xs0, y11_v1, y11_xs1, y11_v2, y11_xs2, rfl, rfl, hy11_0, hy11_1, hy11_2⟩
      refine JA.after hE hs568 (.cons _ (.cons_cons _ (.cons_cons _ (List.nil_sublist _)))) ?_
      exact nd88_5 _ _ _ _ ⟨b567, y11_v2, y11_xs2, y11_v1, y11_xs1, y11_v0, y11_xs0, rfl, rfl, rfl, rfl, rfl, rfl, rfl, hy11_2, hy11_1, hy11_0, hs568⟩
     ·skip
      refine JL.alloc ze_25 .none rfl ?_
      intro b573
      refine JA.after hE (HSub.refl _) (.cons _ (.cons _ (.cons_cons _ (.cons_cons _ (List.nil_sublist _))))) ?_
      refine JA.perm (swapAt_perm 0 _) ?_
      exact nd88_6 _ _ _ _ ⟨b567, b573, rfl, rfl, rfl, rfl, rfl, rfl, rfl, rfl, (HSub.refl _)⟩
end Go.Proofs.Ytflhjlgimihmgaa
end
section
namespace Go.Proofs.Ytflhjlgimihmgaa
open Go Go.RowKit Go.Dec
theorem law_LaysMore (s : Lap) (x : law03_More) (hs : W_Lap s) (hx : W_law03_More x) : ∃ n, F_law03_LaysMore n s x = some true := by
  obtain ⟨n, hn⟩ : ∃ n : Nat, n = 2000000 := ⟨_, rfl⟩
  refine ⟨n, ?_⟩
  have hn2 : 2000000 ≤ n := by omega
  have hn1 : 1000000 ≤ n := by omega
  have hw : F_law03_works n = some true := by rw [hn]; exact works_ok
  rw [F_law03_LaysMore]
  obtain ⟨b, e, q⟩ := p_ready hn1 s hs.np
  rw [e]
  simp only [Option.bind_some]
  cases b with
  | false => simp only [Bool.not_false, Bool.true_or, if_true, hw, Option.bind_some]
  | true =>
    have hE := q.1 rfl
    have hV := hE.v
    have hsm := hV.small
    have hlen := hV.fa.2.2
    have hlen2 := hV.fl.2.2
    have hnp := hE.np
    by_cases hbig : (decide (2 < (s.Panels.length : Int)) || decide (20 < (x.Panel.Rows.length : Int))) = true
    · rw [Bool.not_true, Bool.false_or, if_pos hbig, hw]; rfl
    · rw [Bool.not_true, Bool.false_or, if_neg hbig]
      simp only [p_Copy hn1 s hsm, Option.bind_some]
      rw [lim_ok (by rw [List.length_append]; simp; omega), lim_ok (by rw [List.length_append]; simp; omega)]
      simp only [Option.bind_some]
      -- one more fault
      obtain ⟨b1, e1, q1⟩ := p_ready hn1 ⟨s.Width, s.Length, s.Faults ++ [x.Fault], s.Flaws, s.Panels⟩ hs.np
      have t1 : (if b1 = true then ((F_law03_atLeast n ⟨s.Width, s.Length, s.Faults ++ [x.Fault], s.Flaws, s.Panels⟩ s).bind fun y128 => some (!y128)) else (some false) : Option Bool) = some false := by
        cases b1 with
        | false => rfl
        | true =>
          have hE1 := q1.1 rfl
          rw [if_pos rfl, p_atLeast hn2 hE1.v hV (Int.le_refl _) (fun k _ h => ?_) (fun k _ h => ?_)]; rfl
          · exact Has.mono (s := s) (bad := allB ⟨s.Width, s.Length, s.Faults ++ [x.Fault], s.Flaws, s.Panels⟩) (bad' := allB s) (Int.le_refl _) (fun r c h' => allB_iff.2 ((allB_iff.1 h').imp (fun h'' => List.mem_append_left _ h'') id)) h
          · exact Has.mono (s := s) (bad := sureB ⟨s.Width, s.Length, s.Faults ++ [x.Fault], s.Flaws, s.Panels⟩) (bad' := sureB s) (Int.le_refl _) (fun r c h' => sureB_iff.2 (List.mem_append_left _ (sureB_iff.1 h'))) h
      rw [e1]
      simp only [Option.bind_some]
      rw [t1]
      simp only [Option.bind_some, Bool.false_eq_true, if_false]
      -- one more panel
      obtain ⟨b2, e2, q2⟩ := p_ready hn1 ⟨s.Width, s.Length, s.Faults, s.Flaws, s.Panels ++ [x.Panel]⟩ (by simp only [List.length_append, List.length_cons, List.length_nil]; omega)
      have t2 : (if b2 = true then ((F_law03_atLeast n ⟨s.Width, s.Length, s.Faults, s.Flaws, s.Panels ++ [x.Panel]⟩ s).bind fun y128 => some (!y128)) else (some false) : Option Bool) = some false := by
        cases b2 with
        | false => rfl
        | true =>
          have hE1 := q2.1 rfl
          rw [if_pos rfl, p_atLeast hn2 hE1.v hV (Int.le_refl _) (fun k _ h => ?_) (fun k _ h => ?_)]; rfl
          · obtain ⟨pls, h⟩ := h; exact ⟨_, h.front⟩
          · obtain ⟨pls, h⟩ := h; exact ⟨_, h.front⟩
      rw [e2]
      simp only [Option.bind_some]
      rw [t2]
      simp only [Option.bind_some, Bool.false_eq_true, if_false]
      by_cases hfl : x.Flaw < 0 ∨ (s.Flaws.length : Int) ≤ x.Flaw
      · rw [if_pos (by rcases hfl with h | h <;> simp [h]), hw]; rfl
      · rw [if_neg (by simp; omega)]
        obtain ⟨i, hi⟩ : ∃ i : Nat, x.Flaw = i := ⟨x.Flaw.toNat, by omega⟩
        have hil : i < s.Flaws.length := by omega
        obtain ⟨k1, k2⟩ := slc_less (l := s.Flaws) (i := x.Flaw) (by omega) (by omega) (by omega)
        obtain ⟨c, hc⟩ : ∃ c, s.Flaws[i]? = some c := ⟨_, List.getElem?_eq_getElem hil⟩
        rw [k1, k2, hi]
        simp only [Option.bind_some, Int.toNat_natCast, geti_nat, hc]
        rw [lim_ok (by have := (less_sub s.Flaws i).length_le; unfold less at this; omega)]
        simp only [Option.bind_some]
        rw [lim_ok (by rw [List.length_append]; simp; omega)]
        simp only [Option.bind_some]
        obtain ⟨b3, e3, q3⟩ := p_ready hn1 ⟨s.Width, s.Length, s.Faults ++ [c], s.Flaws.take i ++ s.Flaws.drop (i + 1), s.Panels⟩ hs.np
        rw [e3]
        simp only [Option.bind_some]
        cases b3 with
        | false => simp only [Bool.not_false, if_true, hw, Option.bind_some]
        | true =>
          have hK := (q3.1 rfl).v
          have hB := hV.lessF i
          obtain ⟨m1, l1, f1, _, g1⟩ := p_Least hn2 hV
          obtain ⟨m2, l2, f2, _, g2⟩ := p_Least hn2 hK
          have hbad : ∀ r y, allB s r y ↔ allB ⟨s.Width, s.Length, s.Faults ++ [c], s.Flaws.take i ++ s.Flaws.drop (i + 1), s.Panels⟩ r y := fun r y => by
            rw [allB_iff, allB_iff, less_mem hc]
            simp only [List.mem_append, List.mem_singleton]
            rw [show (⟨r, y⟩ : Cell) ∈ less s.Flaws i ↔ (⟨r, y⟩ : Cell) ∈ s.Flaws.take i ∨ (⟨r, y⟩ : Cell) ∈ s.Flaws.drop (i + 1) from by unfold less; exact List.mem_append]
            constructor
            · rintro (h | h | h)
              · exact .inl (.inl h)
              · exact .inl (.inr h)
              · exact .inr h
            · rintro ((h | h) | h)
              · exact .inl h
              · exact .inr (.inl h)
              · exact .inr (.inr h)
          have hm : m1 = m2 := LeastIs.eq (a := s) (b := ⟨s.Width, s.Length, s.Faults ++ [c], s.Flaws.take i ++ s.Flaws.drop (i + 1), s.Panels⟩) rfl (fun k _ => ⟨Has.mono (s := s) (bad := allB s) (bad' := allB ⟨s.Width, s.Length, s.Faults ++ [c], s.Flaws.take i ++ s.Flaws.drop (i + 1), s.Panels⟩) (Int.le_refl _) fun r y => (hbad r y).2, Has.mono (s := s) (bad := allB ⟨s.Width, s.Length, s.Faults ++ [c], s.Flaws.take i ++ s.Flaws.drop (i + 1), s.Panels⟩) (bad' := allB s) (Int.le_refl _) fun r y => (hbad r y).1⟩) g1 g2
          have a1 := p_atLeast hn2 hK hV (Int.le_refl _) (fun k _ h => Has.mono (s := s) (bad := allB ⟨s.Width, s.Length, s.Faults ++ [c], s.Flaws.take i ++ s.Flaws.drop (i + 1), s.Panels⟩) (bad' := allB s) (Int.le_refl _) (fun r y => (hbad r y).1) h) (fun k _ h => Has.mono (s := s) (bad := sureB ⟨s.Width, s.Length, s.Faults ++ [c], s.Flaws.take i ++ s.Flaws.drop (i + 1), s.Panels⟩) (bad' := sureB s) (Int.le_refl _) (fun r y h' => sureB_iff.2 (List.mem_append_left _ (sureB_iff.1 h'))) h)
          have a2 := p_atLeast hn2 hV hB (Int.le_refl _) (fun k _ h => Has.mono (s := s) (bad := allB s) (bad' := allB (lessF s i)) (Int.le_refl _) (fun r y h' => allB_iff.2 ((allB_iff.1 h').imp id fun h'' => (less_sub _ _).subset h'')) h) (fun k _ h => h)
          unfold lessF less at a2
          simp only [Bool.not_true, Bool.false_eq_true, if_false, f1, f2, Option.bind_some, hm, a1, a2, hw, beq_self_eq_true, Bool.and_self, if_true]
end Go.Proofs.Ytflhjlgimihmgaa
end
section
namespace Go.Proofs.Ytflhjlgimihmgaa
open Go Go.RowKit Go.Dec Go.ChangeShapes Go.WideShapes Go.ChangeAt
set_option linter.unusedVariables false
theorem cl_laidOut : laidOutB Try.prog = true := by kernel_rfl
theorem cl_own : ownKnob Try.prog.godebug = none := by kernel_rfl
set_option maxRecDepth 100000 in
set_option maxHeartbeats 1000000 in
theorem laysMore_contract (law : ∀ (x0 : Lap) (x1 : law03_More), W_Lap x0 → W_law03_More x1 → ∃ n, F_law03_LaysMore n x0 x1 = some true)
    (T : Type) (enc : TypeId × Value → T) (W : World) (base : Nat) (args : Array Value) (ds gs : List (DataW T)) (before : List MemPlace)
    (hval : ∀ (j : Nat) t v, Try.f3.params[j]? = some t → args[j]? = some v → Value.okWide Try.prog W .any base t v)
    (hW : DataW.Whole enc Try.prog Try.f3.params.toList Rows.laysMoreSpec.vars false W args.toList ds gs before) :
    Calls Try.prog 3 args W fun e W' => ∃ v, e = .returned v ∧ Rows.laysMoreSpec.post enc Try.prog Try.f3 false true false false W args v W' := by
  have hW' := hW
  obtain ⟨p, q, hA0, hV, rfl, hfz, hnd⟩ := hW
  have hA : DataW.TrodAll enc Try.prog W 0 (fun _ => true) true Try.f3.params.toList args.toList ds p := hA0
  rw [Try.params3] at hA hval
  obtain ⟨v0, vs0, d0, ds0, p0, q0, hargs, rfl, rfl, h0, r0⟩ := trodAll_cons hA
  obtain ⟨v1, vs1, d1, ds1, p1, q1, rfl, rfl, rfl, h1, r1⟩ := trodAll_cons r0
  obtain ⟨rfl, rfl, rfl⟩ := trodAll_nil r1
  obtain rfl : args = #[v0, v1] := by rw [← Array.toArray_toList (xs := args), hargs]
  obtain ⟨rfl, rfl⟩ := trodVars_none hV
  obtain ⟨cs0, rfl, hs0⟩ := okWide_struct Try.underlying25 (hval 0 25 v0 rfl rfl)
  obtain ⟨cs1, rfl, hs1⟩ := okWide_struct Try.underlying32 (hval 1 32 v1 rfl rfl)
  have k0 := h0
  obtain ⟨f0, e0⟩ := h0
  have k1 := h1
  obtain ⟨f1, e1⟩ := h1
  obtain ⟨_, x0, r0, w0⟩ := o_Lap _ _ _ _ _ _ _ e0
  obtain ⟨_, x1, r1, w1⟩ := o_law03_More _ _ _ _ _ _ _ e1
  obtain ⟨n, hn⟩ := law x0 x1 w0 w1
  obtain ⟨u0_0, u0_1, u0_2, q0, s0_0, s0_1, s0_2⟩ := r0
  have q0 : cs0.toList = _ := q0
  obtain rfl : cs0 = _ := by rw [← Array.toArray_toList (xs := cs0), q0]
  obtain ⟨u1_0, q1, s1_0⟩ := r1
  have q1 : cs1.toList = _ := q1
  obtain rfl : cs1 = _ := by rw [← Array.toArray_toList (xs := cs1), q1]
  have hlt : ∀ x ∈ p0 ++ (p1 ++ []), x.block < W.heap.size := fun x hx => hW'.lt x (by simpa using hx)
  refine ((c_law03_LaysMore n (hw W) x0 u0_0 s0_0 u0_1 s0_1 u0_2 s0_2 x1 u1_0 s1_0 true hn) W (hw_le W)).mono fun e W' ⟨he, hb0⟩ => ?_
  have hb := hb0.plain rfl
  subst he
  refine ⟨_, rfl, _, _, _, [], p0 ++ (p1 ++ []), [], hW', trodAll_cons_mk (shut_bool Try.underlying4 _) trodAll_mk0, ?_, rfl, hb.frame _, fun h => by cases h⟩
  exact trodAll_cons_mk (Below.trod cl_laidOut (by kernel_rfl) (of_decide_eq_true (by kernel_rfl)) k0 hb (fun x hx => hlt x (List.mem_append_left _ hx))) (trodAll_cons_mk (Below.trod cl_laidOut (by kernel_rfl) (of_decide_eq_true (by kernel_rfl)) k1 hb (fun x hx => hlt x (List.mem_append_right _ (List.mem_append_left _ hx)))) trodAll_mk0)
set_option maxRecDepth 100000 in
theorem laysMore_lifted (law : ∀ (x0 : Lap) (x1 : law03_More), W_Lap x0 → W_law03_More x1 → ∃ n, F_law03_LaysMore n x0 x1 = some true)
    (os : Os) (started : os.Started) (H : Type) (enc : TypeId × Value → H) :
    ReturnsInHanded {} Try.checked os 3 .any (Rows.laysMoreSpec.pre6 enc Try.prog Try.f3 Rows.laysMoreRow.domain false) (Rows.laysMoreSpec.post enc Try.prog Try.f3 false true false false) := by
  refine returnsInHanded_of_change (C := Try.checked) cl_own started (by kernel_rfl) Try.func3
    (ChangeSpec.witness6 (enc := enc) (C := Try.checked) false ⟨#[], #[.agg #[.int .i64 0, .int .i64 0, .slice none 0 0, .slice none 0 0, .slice none 0 0], .agg #[.int .i64 0, .int .i64 0, .slice none 0 0, .int .i64 0]], []⟩ 8 (by kernel_rfl) (by kernel_rfl) (by kernel_rfl) (by kernel_rfl)) ?_
  intro W base args ds gs before hval hW _ _
  exact laysMore_contract law H enc W base args ds gs before hval hW
theorem laysMore_holds (law : ∀ (x0 : Lap) (x1 : law03_More), W_Lap x0 → W_law03_More x1 → ∃ n, F_law03_LaysMore n x0 x1 = some true) : Rows.LaysMoreSaid :=
  OpenClaim.holds_of_wide 3 Try.f3 rfl rfl rfl rfl rfl rfl rfl ⟨rfl, rfl, rfl, rfl, rfl⟩ rfl rfl rfl rfl rfl (by kernel_rfl) Try.func3 (by kernel_rfl)
    (of_decide_eq_true (by kernel_rfl)) (by unfold Func.isWrapper; first | (rw [if_pos (by decide +kernel)]; kernel_rfl) | (rw [if_neg (by decide +kernel)]; exact ⟨rfl, rfl⟩))
    (fun os started H enc _ => laysMore_lifted law os started H enc)
theorem laysMore_proved : Rows.LaysMoreSaid := laysMore_holds law_LaysMore
end Go.Proofs.Ytflhjlgimihmgaa
end
