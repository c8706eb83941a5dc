/-
  A part of the proof of LLonger: the texts GenK5, GenK6, GenK7, GenK8, GenK9, EngQ, EngR, EngZ, Laa.
-/
import Derived.Test.YtflhjlgimihmgaaJLLonger4
section
set_option maxRecDepth 100000
set_option maxHeartbeats 40000000
namespace Go.Proofs.Ytflhjlgimihmgaa
open Go Go.RowKit Go.Dec
set_option linter.unusedVariables false
-- 22 ferrule/lays.Room
def F_lays_Room_s1 (n : Nat) (y21 : List Int) : Int × Int → Option ((Int × Int) ⊕ Int)
 | (n_79, x_80) => if decide (x_80 < (y21.length : Int)) = true then ((geti y21 x_80).bind fun y85 => (F_math_bits_OnesCount16 n y85).bind fun y90 => some (Sum.inl ((w64 (n_79 - y90)), (w64 (x_80 + 1))))) else (some (Sum.inr n_79))
def F_lays_Room (n : Nat) (s : Lap) (rows : Int) : Option (Int × Int) :=
 (F_lays_Check n s).bind fun y2 => if (y2 != 0) = true then (some (0, y2)) else ((F_lays_within n rows 0 s.Length).bind fun y4 => if (!y4) = true then (some (0, 1)) else ((F_lays_cellsOf n [s.Faults, s.Flaws]).bind fun y16 => (lenck 12 y16).bind fun u17 => (slc y16 0 rows).bind fun y21 => (loopO n (F_lays_Room_s1 n y21) ((w64 (s.Width * rows)), 0)).bind fun n_56 => some (n_56, 0)))
theorem c_lays_Room (n : Nat) (H : Hp) (s : Lap) (s_v2 : Value) (hs_2 : SL H 2 R_Cell s_v2 s.Faults) (s_v3 : Value) (hs_3 : SL H 2 R_Cell s_v3 s.Flaws) (s_v4 : Value) (hs_4 : SL H 1 R_Panel s_v4 s.Panels) (rows : Int) (y : Int × Int) (hF : F_lays_Room n s rows = some y) : SC Try.prog 22 [.agg [.int .i64 s.Width, .int .i64 s.Length, s_v2, s_v3, s_v4].toArray, .int .i64 rows] (.tuple [.int .i64 y.1, .int .i64 y.2].toArray) H := by
 rw [F_lays_Room] at hF
 refine SC.of (N := 44) Try.func22 rfl rfl rfl fun w => ?_
 refine JC.seq (JC.region (by rfl) ?_)
 intro hQ
 refine JL.box (cs := [.int .i64 s.Width, .int .i64 s.Length, s_v2, s_v3, s_v4]) rfl .none rfl ?_
 intro b1
 refine JL.assign .none rfl ?_
 refine JL.assign .none rfl ?_
 refine JL.done hQ (JQ.go (JC.seq (JC.seq (JC.region (by rfl) ?_))))
 intro hQ
 refine JL.loadOwn 0 az_25 rfl rfl rfl .none rfl ?_
 obtain ⟨y2, hy2, hF⟩ := bind_some hF
 refine JL.callS (c_lays_Check n H s s_v2 hs_2 s_v3 hs_3 s_v4 hs_4 y2 hy2) rfl en_33 .none rfl ?_
 refine JL.assign .none rfl ?_
 refine JL.done hQ (JQ.go (JC.seq (JC.region (by rfl) ?_)))
 intro hQ
 refine JL.move .none rfl ?_
 refine JL.bin rfl rfl rfl .none rfl ?_
 refine JL.done hQ (JQ.go ?_)
 rcases ite_some hF with ⟨hc3, hF⟩ | ⟨hc3, hF⟩
 ·refine JC.cond_t (b := (y2 != 0)) rfl hc3 ?_
  refine JC.seq (JC.region (by rfl) ?_)
  intro hQ
  refine JL.move .none rfl ?_
  refine JL.assign .none rfl ?_
  refine JL.assign .none rfl ?_
  refine JL.done hQ (JQ.go (JC.ret (JQ.ret_then ?_)))
  obtain rfl := Option.some.inj hF
  exact JQ.outS rfl (.tmp (.tmp .nil)) rfl
 ·refine JC.cond_f (b := (y2 != 0)) rfl hc3 ?_
  refine JC.skip (JQ.go (JC.seq (JC.seq (JC.region (by rfl) ?_))))
  intro hQ
  refine JL.move .none rfl ?_
  refine JL.fieldAddr fo_25_1 rfl .none rfl ?_
  refine JL.loadOwn 0 az_3 rfl rfl rfl .none rfl ?_
  obtain ⟨y4, hy4, hF⟩ := bind_some hF
  refine JL.callS (c_lays_within n H rows 0 s.Length y4 hy4) rfl en_48 .none rfl ?_
  refine JL.not rfl .none rfl ?_
  refine JL.done hQ (JQ.go (JC.fresh (fun f => f 1 = .int .i64 rows ∧ f 2 = .pointer (some ⟨b1, 0, none⟩) ∧ f 4 = .int .i64 0 ∧ f 5 = .int .i64 0 ∧ f 20 = .bool (!y4)) ⟨rfl, rfl, rfl, rfl, rfl⟩ ?_))
  rintro f ⟨hf1, hf2, hf4, hf5, hf20⟩
  refine (JC.norm (i := 1) hf1 (JC.norm (i := 2) hf2 (JC.norm (i := 4) hf4 (JC.norm (i := 5) hf5 (JC.norm (i := 20) hf20 ?_)))))
  rcases ite_some hF with ⟨hc5, hF⟩ | ⟨hc5, hF⟩
  ·refine JC.cond_t (b := (!y4)) rfl hc5 ?_
   refine JC.seq (JC.region (by rfl) ?_)
   intro hQ
   refine JL.assign .none rfl ?_
   refine JL.assign .none rfl ?_
   refine JL.done hQ (JQ.go (JC.ret (JQ.ret_then ?_)))
   obtain rfl := Option.some.inj hF
   exact JQ.outS rfl (.tmp (.tmp .nil)) rfl
  ·refine JC.cond_f (b := (!y4)) rfl hc5 ?_
   refine JC.skip (JQ.go (JC.seq (JC.region (by rfl) ?_)))
   intro hQ
   refine JL.fieldAddr fo_25_0 rfl .none rfl ?_
   refine JL.loadOwn 0 az_3 rfl rfl rfl .none rfl ?_
   refine JL.move .none rfl ?_
   refine JL.bin rfl rfl rfl .none rfl ?_
   refine JL.assign .none rfl ?_
   refine JL.done hQ (JQ.go (JC.seq (JC.region (by rfl) ?_)))
   intro hQ
   refine JL.fieldAddr fo_25_2 rfl .none rfl ?_
   refine JL.loadOwn 0 az_22 rfl rfl rfl .none rfl ?_
   refine JL.fieldAddr fo_25_3 rfl .none rfl ?_
   refine JL.loadOwn 0 az_22 rfl rfl rfl .none rfl ?_
   obtain ⟨a6, c7, rfl, hh8⟩ := hs_2
   have hs_2 : SL H 2 R_Cell (.slice a6 s.Faults.length c7) s.Faults := ⟨a6, c7, rfl, hh8⟩
   obtain ⟨a9, c10, rfl, hh11⟩ := hs_3
   have hs_3 : SL H 2 R_Cell (.slice a9 s.Flaws.length c10) s.Flaws := ⟨a9, c10, rfl, hh11⟩
   refine JL.buildSlice (e := 22) (l := [(.slice a6 s.Faults.length c7), (.slice a9 s.Flaws.length c10)]) (by kernel_rfl) .none rfl ?_
   intro b12
   refine JL.freezeC 0 (l := [(.slice a6 s.Faults.length c7), (.slice a9 s.Flaws.length c10)]) rfl ?_
   intro H13 hs13 hc14
   have hg15 : SL H13 1 (RSl 2 R_Cell) (.slice (some ⟨b12, 0, none⟩) 2 2) [s.Faults, s.Flaws] := CH.sl (l := [s.Faults, s.Flaws]) (CH.cons (cs := [(.slice a6 s.Faults.length c7)]) rfl ⟨_, rfl, (SL.mono R_Cell_mono hs13 hs_2)⟩ (CH.cons (cs := [(.slice a9 s.Flaws.length c10)]) rfl ⟨_, rfl, (SL.mono R_Cell_mono hs13 hs_3)⟩ CH.nil)) hc14 ⟨by simp, by simp⟩
   obtain ⟨y16, hy16, hF⟩ := bind_some hF
   refine JL.callS (c_lays_cellsOf n H13 [s.Faults, s.Flaws] (.slice (some ⟨b12, 0, none⟩) 2 2) hg15 y16 hy16) rfl en_45 .none rfl ?_
   obtain ⟨u17, hu17, hF⟩ := bind_some hF
   refine JL.alloc ze_85 .none rfl ?_
   intro b18
   refine JL.storeArr (l := [0, 0, 0, 0, 0, 0, 0, 0, 0, 0, 0, 0]) (l' := y16) 0 az_85 rfl rfl rfl rfl (lenck_some hu17) .none ?_
   refine JL.done hQ (JQ.go (JC.fresh (fun f => f 1 = .int .i64 rows ∧ f 4 = .int .i64 0 ∧ f 5 = .int .i64 0 ∧ f 7 = .int .i64 (w64 (s.Width * rows)) ∧ f 8 = .pointer (some ⟨b18, 0, none⟩)) ⟨rfl, rfl, rfl, rfl, rfl⟩ ?_))
   rintro f ⟨hf1, hf4, hf5, hf7, hf8⟩
   refine (JC.norm (i := 1) hf1 (JC.norm (i := 4) hf4 (JC.norm (i := 5) hf5 (JC.norm (i := 7) hf7 (JC.norm (i := 8) hf8 ?_)))))
   refine JC.seq (JC.seq (JC.region (by rfl) ?_))
   intro hQ
   refine JL.move .none rfl ?_
   refine JL.freezeC 0 (l := av .u16 y16) rfl ?_
   intro H19 hs19 hc20
   obtain ⟨y21, hy21, hF⟩ := bind_some hF
   refine JL.sliceArrF (l := y16) ar_85 az_83 rfl rfl hc20 (lenck_some hu17) rfl hy21 .none rfl ?_
   intro v22 hsl23
   refine JL.lenSL (R := (RK .u16)) ul_90 hsl23 .none rfl ?_
   refine JL.move .none rfl ?_
   refine JL.done hQ (JQ.go ?_)
   obtain ⟨r58, hlr58, hKr58⟩ := bind_some hF
   refine JC.join (fun (n_56 : Int) H57 f bs gs => f 7 = .int .i64 n_56 ∧ bs = [] ∧ gs = [] ∧ HSub H19 H57 ∧ n_56 = r58) ?_ ?_
   ·skip
    refine JC.block (JC.mask [false] [] ?_)
    refine JC.loop hlr58 (fun (x : Int × Int) H81 f bs gs => match x with | (n_79, x_80) => f 7 = .int .i64 n_79 ∧ f 32 = v22 ∧ f 33 = .int .i64 (y21.length : Int) ∧ f 34 = .int .i64 x_80 ∧ bs = [] ∧ gs = [] ∧ HSub H19 H81) ⟨rfl, rfl, rfl, rfl, rfl, rfl, (HSub.refl _)⟩ ?_
    rintro ⟨n_79, x_80⟩ x83 H81 f bs gs ⟨hf7, hf32, hf33, hf34, rfl, rfl, hs81⟩ hF hr82
    rw [F_lays_Room_s1] at hF
    refine (JC.norm (i := 7) hf7 (JC.norm (i := 32) hf32 (JC.norm (i := 33) hf33 (JC.norm (i := 34) hf34 ?_))))
    refine JC.seq (JC.region (by rfl) ?_)
    intro hQ
    refine JL.bin rfl rfl rfl .none rfl ?_
    refine JL.done hQ (JQ.go (JC.seq ?_))
    rcases ite_some hF with ⟨hc84, hF⟩ | ⟨hc84, hF⟩
    ·refine JC.cond_t (b := decide (x_80 < (y21.length : Int))) rfl hc84 ?_
     refine JC.skip (JQ.go (JC.seq (JC.block (JC.seq (JC.region (by rfl) ?_)))))
     intro hQ
     obtain ⟨y85, hy85, hF⟩ := bind_some hF
     refine JL.indexSL (R := (RK .u16)) sl_90 (SL.mono RK.mono hs81 hsl23) rfl hy85 .none rfl ?_
     rintro b86 o87 cs88 hc89 - rfl
     refine JL.loadH 0 az_83 rfl hc89 rfl .none rfl ?_
     refine JL.assign .none rfl ?_
     refine JL.done hQ (JQ.go (JC.region (by rfl) ?_))
     intro hQ
     refine JL.move .none rfl ?_
     refine JL.move .none rfl ?_
     obtain ⟨y90, hy90, hF⟩ := bind_some hF
     refine JL.callS (c_math_bits_OnesCount16 n H81 y85 y90 hy90) rfl en_49 .none rfl ?_
     refine JL.bin rfl rfl rfl .none rfl ?_
     refine JL.assign .none rfl ?_
     refine JL.done hQ (JQ.normal_block (JQ.go (JC.region (by rfl) ?_)))
     intro hQ
     refine JL.bin rfl rfl rfl .none rfl ?_
     refine JL.move .none rfl ?_
     refine JL.done hQ ?_
     obtain rfl := Option.some.inj hF
     exact JQ.next rfl ⟨rfl, rfl, rfl, rfl, rfl, rfl, hs81⟩
    ·refine JC.cond_f (b := decide (x_80 < (y21.length : Int))) rfl hc84 ?_
     refine JC.exit (JQ.exit_then (JQ.exit_then (JQ.exit_block ?_)))
     obtain rfl := Option.some.inj hF
     have ehr82 := hr82 _ rfl
     subst ehr82
     exact JQ.join n_79 ⟨rfl, rfl, rfl, hs81, rfl⟩
   ·rintro n_56 H57 f bs gs ⟨hf7, rfl, rfl, hs57, rfl⟩
    have hF := hKr58
    try dsimp only at hF
    refine (JQ.norm (i := 7) hf7 ?_)
    refine JQ.go (JC.seq (JC.region (by rfl) ?_))
    intro hQ
    refine JL.move .none rfl ?_
    refine JL.assign .none rfl ?_
    refine JL.assign .none rfl ?_
    refine JL.done hQ (JQ.go (JC.ret ?_))
    obtain rfl := Option.some.inj hF
    exact JQ.outS rfl (.tmp (.tmp .nil)) rfl
-- 11 ferrule/ferrulelaw03.works
def F_law03_works (n : Nat)  : Option Bool :=
 (F_law03_Example n).bind fun y1 => (F_lays_Least n y1).bind fun y5 => (F_lays_Hopes n y1).bind fun y6 => (F_lays_Matters n y1).bind fun y7 => (F_lays_Room n y1 3).bind fun y10 => (if (((((((y5.2 == 0) && (y6.2 == 0)) && (y7.2 == 0)) && (y10.2 == 0)) && (y5.1 == 4)) && (y6.1 == 3)) && ((y7.1.length : Int) == 1)) = true then ((geti y7.1 0).bind fun y31 => some (y31 == 0)) else (some false) : Option Bool).bind fun p28 => some (p28 && (y10.1 == 10))
theorem c_law03_works (n : Nat) (H : Hp)  (y : Bool) (hF : F_law03_works n = some y) : SC Try.prog 11 [] (.bool y) H := by
 rw [F_law03_works] at hF
 refine SC.of (N := 68) Try.func11 rfl rfl rfl fun w => ?_
 refine JC.seq (JC.region (by rfl) ?_)
 intro hQ
 refine JL.assign .none rfl ?_
 refine JL.done hQ (JQ.go (JC.seq (JC.region (by rfl) ?_)))
 intro hQ
 obtain ⟨y1, hy1, hF⟩ := bind_some hF
 refine JL.callH (c_law03_Example n H y1 hy1) rfl en_42 .none rfl ?_
 rintro H2 vv3 hs2 ⟨y1a_v2, y1a_v3, y1a_v4, rfl, hy1a_2, hy1a_3, hy1a_4⟩
 refine JL.alloc ze_25 .none rfl ?_
 intro b4
 refine JL.storeOwn 0 (cs := [.int .i64 y1.Width, .int .i64 y1.Length, y1a_v2, y1a_v3, y1a_v4]) az_25 rfl rfl rfl (one_cons rfl (one_cons rfl (one_cons (SL.one hy1a_2) (one_cons (SL.one hy1a_3) (one_cons (SL.one hy1a_4) one_nil))))) rfl rfl .none ?_
 refine JL.done hQ (JQ.go (JC.seq (JC.region (by rfl) ?_)))
 intro hQ
 refine JL.loadOwn 0 az_25 rfl rfl rfl .none rfl ?_
 obtain ⟨y5, hy5, hF⟩ := bind_some hF
 refine JL.callS (c_lays_Least n H2 y1 y1a_v2 hy1a_2 y1a_v3 hy1a_3 y1a_v4 hy1a_4 y5 hy5) rfl en_14 .none rfl ?_
 refine JL.move .none rfl ?_
 refine JL.extract rfl rfl .none rfl ?_
 refine JL.extract rfl rfl .none rfl ?_
 refine JL.assign .none rfl ?_
 refine JL.assign .none rfl ?_
 refine JL.done hQ (JQ.go (JC.seq (JC.region (by rfl) ?_)))
 intro hQ
 refine JL.loadOwn 0 az_25 rfl rfl rfl .none rfl ?_
 obtain ⟨y6, hy6, hF⟩ := bind_some hF
 refine JL.callS (c_lays_Hopes n H2 y1 y1a_v2 hy1a_2 y1a_v3 hy1a_3 y1a_v4 hy1a_4 y6 hy6) rfl en_17 .none rfl ?_
 refine JL.move .none rfl ?_
 refine JL.extract rfl rfl .none rfl ?_
 refine JL.extract rfl rfl .none rfl ?_
 refine JL.assign .none rfl ?_
 refine JL.assign .none rfl ?_
 refine JL.done hQ (JQ.go (JC.fresh (fun f => f 0 = .bool false ∧ f 1 = .pointer (some ⟨b4, 0, none⟩) ∧ f 2 = .int .i64 y5.1 ∧ f 3 = .int .i64 y5.2 ∧ f 4 = .int .i64 y6.1 ∧ f 5 = .int .i64 y6.2) ⟨rfl, rfl, rfl, rfl, rfl, rfl⟩ ?_))
 rintro f ⟨hf0, hf1, hf2, hf3, hf4, hf5⟩
 refine (JC.norm (i := 0) hf0 (JC.norm (i := 1) hf1 (JC.norm (i := 2) hf2 (JC.norm (i := 3) hf3 (JC.norm (i := 4) hf4 (JC.norm (i := 5) hf5 ?_))))))
 refine JC.seq (JC.region (by rfl) ?_)
 intro hQ
 refine JL.loadOwn 0 az_25 rfl rfl rfl .none rfl ?_
 obtain ⟨y7, hy7, hF⟩ := bind_some hF
 refine JL.callH (c_lays_Matters n H2 y1 y1a_v2 hy1a_2 y1a_v3 hy1a_3 y1a_v4 hy1a_4 y7 hy7) rfl en_18 .none rfl ?_
 rintro H8 vv9 hs8 ⟨y7a_v0, rfl, hy7a_0⟩
 refine JL.move .none rfl ?_
 refine JL.extract rfl rfl .none rfl ?_
 refine JL.extract rfl rfl .none rfl ?_
 refine JL.assign .none rfl ?_
 refine JL.assign .none rfl ?_
 refine JL.done hQ (JQ.go (JC.seq (JC.region (by rfl) ?_)))
 intro hQ
 refine JL.loadOwn 0 az_25 rfl rfl rfl .none rfl ?_
 obtain ⟨y10, hy10, hF⟩ := bind_some hF
 refine JL.callS (c_lays_Room n H8 y1 y1a_v2 (SL.mono R_Cell_mono hs8 hy1a_2) y1a_v3 (SL.mono R_Cell_mono hs8 hy1a_3) y1a_v4 (SL.mono R_Panel_mono hs8 hy1a_4) 3 y10 hy10) rfl en_22 .none rfl ?_
 refine JL.move .none rfl ?_
 refine JL.extract rfl rfl .none rfl ?_
 refine JL.extract rfl rfl .none rfl ?_
 refine JL.assign .none rfl ?_
 refine JL.assign .none rfl ?_
 refine JL.done hQ (JQ.go (JC.fresh (fun f => f 0 = .bool false ∧ f 2 = .int .i64 y5.1 ∧ f 3 = .int .i64 y5.2 ∧ f 4 = .int .i64 y6.1 ∧ f 5 = .int .i64 y6.2 ∧ f 6 = y7a_v0 ∧ f 7 = .int .i64 y7.2 ∧ f 8 = .int .i64 y10.1 ∧ f 9 = .int .i64 y10.2) ⟨rfl, rfl, rfl, rfl, rfl, rfl, rfl, rfl, rfl⟩ ?_))
 rintro f ⟨hf0, hf2, hf3, hf4, hf5, hf6, hf7, hf8, hf9⟩
 refine (JC.norm (i := 0) hf0 (JC.norm (i := 2) hf2 (JC.norm (i := 3) hf3 (JC.norm (i := 4) hf4 (JC.norm (i := 5) hf5 (JC.norm (i := 6) hf6 (JC.norm (i := 7) hf7 (JC.norm (i := 8) hf8 (JC.norm (i := 9) hf9 ?_)))))))))
 refine JC.seq (JC.region (by rfl) ?_)
 intro hQ
 refine JL.move .none rfl ?_
 refine JL.bin rfl rfl rfl .none rfl ?_
 refine JL.move .none rfl ?_
 refine JL.cut 3 (fun f => f 2 = .int .i64 y5.1 ∧ f 4 = .int .i64 y6.1 ∧ f 6 = y7a_v0 ∧ f 7 = .int .i64 y7.2 ∧ f 8 = .int .i64 y10.1 ∧ f 9 = .int .i64 y10.2 ∧ f 36 = .bool ((y5.2 == 0) && (y6.2 == 0))) ?_ ?_
 ·intro hJ11
  rcases bcases (y5.2 == 0) with hc12 | hc12
  ·skip
   refine JL.move (.some rfl rfl rfl hc12) rfl ?_
   refine JL.bin rfl rfl rfl (.some rfl rfl rfl hc12) rfl ?_
   refine JL.pick_t (b := (y5.2 == 0)) rfl hc12 .none rfl ?_
   exact hJ11 _ ⟨rfl, rfl, rfl, rfl, rfl, rfl, and_t hc12 rfl⟩
  ·skip
   refine JL.skip (.bool rfl rfl rfl hc12) rfl ?_
   refine JL.skip (.bool rfl rfl rfl hc12) rfl ?_
   refine JL.pick_f (b := (y5.2 == 0)) rfl hc12 .none rfl ?_
   exact hJ11 _ ⟨rfl, rfl, rfl, rfl, rfl, rfl, and_f hc12 rfl⟩
 ·rintro f ⟨hf2, hf4, hf6, hf7, hf8, hf9, hf36⟩
  refine (JL.norm (i := 2) hf2 (JL.norm (i := 4) hf4 (JL.norm (i := 6) hf6 (JL.norm (i := 7) hf7 (JL.norm (i := 8) hf8 (JL.norm (i := 9) hf9 (JL.norm (i := 36) hf36 ?_)))))))
  refine JL.move .none rfl ?_
  refine JL.cut 3 (fun f => f 2 = .int .i64 y5.1 ∧ f 4 = .int .i64 y6.1 ∧ f 6 = y7a_v0 ∧ f 8 = .int .i64 y10.1 ∧ f 9 = .int .i64 y10.2 ∧ f 40 = .bool (((y5.2 == 0) && (y6.2 == 0)) && (y7.2 == 0))) ?_ ?_
  ·intro hJ13
   rcases bcases ((y5.2 == 0) && (y6.2 == 0)) with hc14 | hc14
   ·skip
    refine JL.move (.some rfl rfl rfl hc14) rfl ?_
    refine JL.bin rfl rfl rfl (.some rfl rfl rfl hc14) rfl ?_
    refine JL.pick_t (b := ((y5.2 == 0) && (y6.2 == 0))) rfl hc14 .none rfl ?_
    exact hJ13 _ ⟨rfl, rfl, rfl, rfl, rfl, and_t hc14 rfl⟩
   ·skip
    refine JL.skip (.bool rfl rfl rfl hc14) rfl ?_
    refine JL.skip (.bool rfl rfl rfl hc14) rfl ?_
    refine JL.pick_f (b := ((y5.2 == 0) && (y6.2 == 0))) rfl hc14 .none rfl ?_
    exact hJ13 _ ⟨rfl, rfl, rfl, rfl, rfl, and_f hc14 rfl⟩
  ·rintro f ⟨hf2, hf4, hf6, hf8, hf9, hf40⟩
   refine (JL.norm (i := 2) hf2 (JL.norm (i := 4) hf4 (JL.norm (i := 6) hf6 (JL.norm (i := 8) hf8 (JL.norm (i := 9) hf9 (JL.norm (i := 40) hf40 ?_))))))
   refine JL.move .none rfl ?_
   refine JL.cut 3 (fun f => f 2 = .int .i64 y5.1 ∧ f 4 = .int .i64 y6.1 ∧ f 6 = y7a_v0 ∧ f 8 = .int .i64 y10.1 ∧ f 44 = .bool ((((y5.2 == 0) && (y6.2 == 0)) && (y7.2 == 0)) && (y10.2 == 0))) ?_ ?_
   ·intro hJ15
    rcases bcases (((y5.2 == 0) && (y6.2 == 0)) && (y7.2 == 0)) with hc16 | hc16
    ·skip
     refine JL.move (.some rfl rfl rfl hc16) rfl ?_
     refine JL.bin rfl rfl rfl (.some rfl rfl rfl hc16) rfl ?_
     refine JL.pick_t (b := (((y5.2 == 0) && (y6.2 == 0)) && (y7.2 == 0))) rfl hc16 .none rfl ?_
     exact hJ15 _ ⟨rfl, rfl, rfl, rfl, and_t hc16 rfl⟩
    ·skip
     refine JL.skip (.bool rfl rfl rfl hc16) rfl ?_
     refine JL.skip (.bool rfl rfl rfl hc16) rfl ?_
     refine JL.pick_f (b := (((y5.2 == 0) && (y6.2 == 0)) && (y7.2 == 0))) rfl hc16 .none rfl ?_
     exact hJ15 _ ⟨rfl, rfl, rfl, rfl, and_f hc16 rfl⟩
   ·rintro f ⟨hf2, hf4, hf6, hf8, hf44⟩
    refine (JL.norm (i := 2) hf2 (JL.norm (i := 4) hf4 (JL.norm (i := 6) hf6 (JL.norm (i := 8) hf8 (JL.norm (i := 44) hf44 ?_)))))
    refine JL.move .none rfl ?_
    refine JL.cut 3 (fun f => f 4 = .int .i64 y6.1 ∧ f 6 = y7a_v0 ∧ f 8 = .int .i64 y10.1 ∧ f 48 = .bool (((((y5.2 == 0) && (y6.2 == 0)) && (y7.2 == 0)) && (y10.2 == 0)) && (y5.1 == 4))) ?_ ?_
    ·intro hJ17
     rcases bcases ((((y5.2 == 0) && (y6.2 == 0)) && (y7.2 == 0)) && (y10.2 == 0)) with hc18 | hc18
     ·skip
      refine JL.move (.some rfl rfl rfl hc18) rfl ?_
      refine JL.bin rfl rfl rfl (.some rfl rfl rfl hc18) rfl ?_
      refine JL.pick_t (b := ((((y5.2 == 0) && (y6.2 == 0)) && (y7.2 == 0)) && (y10.2 == 0))) rfl hc18 .none rfl ?_
      exact hJ17 _ ⟨rfl, rfl, rfl, and_t hc18 rfl⟩
     ·skip
      refine JL.skip (.bool rfl rfl rfl hc18) rfl ?_
      refine JL.skip (.bool rfl rfl rfl hc18) rfl ?_
      refine JL.pick_f (b := ((((y5.2 == 0) && (y6.2 == 0)) && (y7.2 == 0)) && (y10.2 == 0))) rfl hc18 .none rfl ?_
      exact hJ17 _ ⟨rfl, rfl, rfl, and_f hc18 rfl⟩
    ·rintro f ⟨hf4, hf6, hf8, hf48⟩
     refine (JL.norm (i := 4) hf4 (JL.norm (i := 6) hf6 (JL.norm (i := 8) hf8 (JL.norm (i := 48) hf48 ?_))))
     refine JL.move .none rfl ?_
     refine JL.cut 3 (fun f => f 6 = y7a_v0 ∧ f 8 = .int .i64 y10.1 ∧ f 52 = .bool ((((((y5.2 == 0) && (y6.2 == 0)) && (y7.2 == 0)) && (y10.2 == 0)) && (y5.1 == 4)) && (y6.1 == 3))) ?_ ?_
     ·intro hJ19
      rcases bcases (((((y5.2 == 0) && (y6.2 == 0)) && (y7.2 == 0)) && (y10.2 == 0)) && (y5.1 == 4)) with hc20 | hc20
      ·skip
       refine JL.move (.some rfl rfl rfl hc20) rfl ?_
       refine JL.bin rfl rfl rfl (.some rfl rfl rfl hc20) rfl ?_
       refine JL.pick_t (b := (((((y5.2 == 0) && (y6.2 == 0)) && (y7.2 == 0)) && (y10.2 == 0)) && (y5.1 == 4))) rfl hc20 .none rfl ?_
       exact hJ19 _ ⟨rfl, rfl, and_t hc20 rfl⟩
      ·skip
       refine JL.skip (.bool rfl rfl rfl hc20) rfl ?_
       refine JL.skip (.bool rfl rfl rfl hc20) rfl ?_
       refine JL.pick_f (b := (((((y5.2 == 0) && (y6.2 == 0)) && (y7.2 == 0)) && (y10.2 == 0)) && (y5.1 == 4))) rfl hc20 .none rfl ?_
       exact hJ19 _ ⟨rfl, rfl, and_f hc20 rfl⟩
     ·rintro f ⟨hf6, hf8, hf52⟩
      refine (JL.norm (i := 6) hf6 (JL.norm (i := 8) hf8 (JL.norm (i := 52) hf52 ?_)))
      refine JL.move .none rfl ?_
      refine JL.cut 4 (fun f => f 6 = y7a_v0 ∧ f 8 = .int .i64 y10.1 ∧ f 57 = .bool (((((((y5.2 == 0) && (y6.2 == 0)) && (y7.2 == 0)) && (y10.2 == 0)) && (y5.1 == 4)) && (y6.1 == 3)) && ((y7.1.length : Int) == 1))) ?_ ?_
      ·intro hJ21
       rcases bcases ((((((y5.2 == 0) && (y6.2 == 0)) && (y7.2 == 0)) && (y10.2 == 0)) && (y5.1 == 4)) && (y6.1 == 3)) with hc22 | hc22
       ·skip
        refine JL.move (.some rfl rfl rfl hc22) rfl ?_
        refine JL.lenSL (R := RInt) ul_48 hy7a_0 (.some rfl rfl rfl hc22) rfl ?_
        refine JL.bin rfl rfl rfl (.some rfl rfl rfl hc22) rfl ?_
        refine JL.pick_t (b := ((((((y5.2 == 0) && (y6.2 == 0)) && (y7.2 == 0)) && (y10.2 == 0)) && (y5.1 == 4)) && (y6.1 == 3))) rfl hc22 .none rfl ?_
        exact hJ21 _ ⟨rfl, rfl, and_t hc22 rfl⟩
       ·skip
        refine JL.skip (.bool rfl rfl rfl hc22) rfl ?_
        refine JL.skip (.bool rfl rfl rfl hc22) rfl ?_
        refine JL.skip (.bool rfl rfl rfl hc22) rfl ?_
        refine JL.pick_f (b := ((((((y5.2 == 0) && (y6.2 == 0)) && (y7.2 == 0)) && (y10.2 == 0)) && (y5.1 == 4)) && (y6.1 == 3))) rfl hc22 .none rfl ?_
        exact hJ21 _ ⟨rfl, rfl, and_f hc22 rfl⟩
      ·rintro f ⟨hf6, hf8, hf57⟩
       refine (JL.norm (i := 6) hf6 (JL.norm (i := 8) hf8 (JL.norm (i := 57) hf57 ?_)))
       refine JL.move .none rfl ?_
       obtain ⟨p28, hp28, hF⟩ := bind_some hF
       refine JL.cut 5 (fun f => f 8 = .int .i64 y10.1 ∧ f 63 = .bool p28) ?_ ?_
       ·intro hJ29
        rcases ite_some hp28 with ⟨hc30, hF⟩ | ⟨hc30, hF⟩
        ·skip
         refine JL.move (.some rfl rfl rfl hc30) rfl ?_
         obtain ⟨y31, hy31, hF⟩ := bind_some hF
         refine JL.indexSL (R := RInt) sl_48 hy7a_0 rfl hy31 (.some rfl rfl rfl hc30) rfl ?_
         rintro b32 o33 cs34 hc35 - rfl
         refine JL.loadH 0 az_3 rfl hc35 rfl (.some rfl rfl rfl hc30) rfl ?_
         refine JL.bin rfl rfl rfl (.some rfl rfl rfl hc30) rfl ?_
         refine JL.pick_t (b := (((((((y5.2 == 0) && (y6.2 == 0)) && (y7.2 == 0)) && (y10.2 == 0)) && (y5.1 == 4)) && (y6.1 == 3)) && ((y7.1.length : Int) == 1))) rfl hc30 .none rfl ?_
         obtain rfl := Option.some.inj hF
         exact hJ29 _ ⟨rfl, rfl⟩
        ·skip
         refine JL.skip (.bool rfl rfl rfl hc30) rfl ?_
         refine JL.skip (.bool rfl rfl rfl hc30) rfl ?_
         refine JL.skip (.bool rfl rfl rfl hc30) rfl ?_
         refine JL.skip (.bool rfl rfl rfl hc30) rfl ?_
         refine JL.pick_f (b := (((((((y5.2 == 0) && (y6.2 == 0)) && (y7.2 == 0)) && (y10.2 == 0)) && (y5.1 == 4)) && (y6.1 == 3)) && ((y7.1.length : Int) == 1))) rfl hc30 .none rfl ?_
         obtain rfl := Option.some.inj hF
         exact hJ29 _ ⟨rfl, rfl⟩
       ·rintro f ⟨hf8, hf63⟩
        refine (JL.norm (i := 8) hf8 (JL.norm (i := 63) hf63 ?_))
        refine JL.move .none rfl ?_
        refine JL.cut 3 (fun f => f 67 = .bool (p28 && (y10.1 == 10))) ?_ ?_
        ·intro hJ36
         rcases bcases p28 with hc37 | hc37
         ·skip
          refine JL.move (.some rfl rfl rfl hc37) rfl ?_
          refine JL.bin rfl rfl rfl (.some rfl rfl rfl hc37) rfl ?_
          refine JL.pick_t (b := p28) rfl hc37 .none rfl ?_
          exact hJ36 _ (and_t hc37 rfl)
         ·skip
          refine JL.skip (.bool rfl rfl rfl hc37) rfl ?_
          refine JL.skip (.bool rfl rfl rfl hc37) rfl ?_
          refine JL.pick_f (b := p28) rfl hc37 .none rfl ?_
          exact hJ36 _ (and_f hc37 rfl)
        ·rintro f hf67
         refine (JL.norm (i := 67) hf67 ?_)
         refine JL.assign .none rfl ?_
         refine JL.done hQ (JQ.go (JC.ret ?_))
         obtain rfl := Option.some.inj hF
         exact JQ.outS rfl (.tmp .nil) rfl
end Go.Proofs.Ytflhjlgimihmgaa
end
section
set_option maxRecDepth 100000
set_option maxHeartbeats 40000000
namespace Go.Proofs.Ytflhjlgimihmgaa
open Go Go.RowKit Go.Dec
set_option linter.unusedVariables false
-- 12 ferrule/ferruleref03.Copy
def F_ref03_Copy_s1 (n : Nat) (s : Lap) : Int × List Panel → Option ((Int × List Panel) ⊕ (List Panel))
 | (i_981, out_982) => if decide (i_981 < (s.Panels.length : Int)) = true then ((geti s.Panels i_981).bind fun y998 => (lim (([] : List Span) ++ y998.Rows)).bind fun l1003 => (lim (out_982 ++ [(Panel.mk l1003)])).bind fun l1012 => some (Sum.inl ((w64 (i_981 + 1)), l1012))) else (some (Sum.inr out_982))
def F_ref03_Copy (n : Nat) (s : Lap) : Option Lap :=
 (lim (([] : List Cell) ++ s.Faults)).bind fun l6 => (lim (([] : List Cell) ++ s.Flaws)).bind fun l12 => (loopO n (F_ref03_Copy_s1 n s) (0, ([] : List Panel))).bind fun out_694 => some (Lap.mk s.Width s.Length l6 l12 out_694)
theorem c_ref03_Copy (n : Nat) (H : Hp) (s : Lap) (s_v2 : Value) (hs_2 : SL H 2 R_Cell s_v2 s.Faults) (s_v3 : Value) (hs_3 : SL H 2 R_Cell s_v3 s.Flaws) (s_v4 : Value) (hs_4 : SL H 1 R_Panel s_v4 s.Panels) (y : Lap) (hF : F_ref03_Copy n s = some y) : HC Try.prog 12 [.agg [.int .i64 s.Width, .int .i64 s.Length, s_v2, s_v3, s_v4].toArray] H (fun H' v => ∃ ra_v2 ra_v3 ra_v4 : Value, v = .agg [.int .i64 y.Width, .int .i64 y.Length, ra_v2, ra_v3, ra_v4].toArray ∧ SL H' 2 R_Cell ra_v2 y.Faults ∧ SL H' 2 R_Cell ra_v3 y.Flaws ∧ SL H' 1 R_Panel ra_v4 y.Panels) := by
 rw [F_ref03_Copy] at hF
 refine HC.of (N := 39) Try.func12 rfl rfl rfl fun w => ?_
 refine JC.seq (JC.region (by rfl) ?_)
 intro hQ
 refine JL.box (cs := [.int .i64 s.Width, .int .i64 s.Length, s_v2, s_v3, s_v4]) rfl .none rfl ?_
 intro b1
 refine JL.alloc ze_25 .none rfl ?_
 intro b2
 refine JL.done hQ (JQ.go (JC.seq (JC.region (by rfl) ?_)))
 intro hQ
 refine JL.loadOwn 1 az_25 rfl rfl rfl .none rfl ?_
 refine JL.alloc ze_25 .none rfl ?_
 intro b3
 refine JL.storeOwn 0 (cs := [.int .i64 s.Width, .int .i64 s.Length, s_v2, s_v3, s_v4]) az_25 rfl rfl rfl (one_cons rfl (one_cons rfl (one_cons (SL.one hs_2) (one_cons (SL.one hs_3) (one_cons (SL.one hs_4) one_nil))))) rfl rfl .none ?_
 refine JL.done hQ (JQ.go (JC.seq ?_))
 obtain ⟨l6, hl6, hF⟩ := bind_some hF
 obtain ⟨l12, hl12, hF⟩ := bind_some hF
 refine JC.mixed 12 12 #[false, false, false, false, false, false, false, false, false, false, false, false] [(b2, .cells [.int .i64 0, .int .i64 0, .slice none 0 0, .slice none 0 0, .slice none 0 0].toArray 25), (b1, .cells [.int .i64 s.Width, .int .i64 s.Length, s_v2, s_v3, s_v4].toArray 25)] (by rfl) mo_ (by kernel_rfl) (by kernel_rfl) ?_
 intro hQ hE
 refine JA.cut 4 #[true, true, true, true, true, true, true, false, true, false, false, false] (fun H113 f bs gs => ∃ (v103 : Value) (v96 : Value) (xs97 : List Value), f 1 = .pointer (some ⟨b1, 0, none⟩) ∧ f 2 = .pointer (some ⟨b2, 0, none⟩) ∧ f 3 = .pointer (some ⟨b3, 0, none⟩) ∧ f 9 = v96 ∧ f 10 = v103 ∧ f 12 = s_v3 ∧ f 14 = .pointer (some ⟨b3, 2, none⟩) ∧ bs = [(b3, .cells [.int .i64 s.Width, .int .i64 s.Length, s_v2, s_v3, s_v4].toArray 25), (b2, .cells [.int .i64 0, .int .i64 0, .slice none 0 0, .slice none 0 0, .slice none 0 0].toArray 25), (b1, .cells [.int .i64 s.Width, .int .i64 s.Length, s_v2, s_v3, s_v4].toArray 25)] ∧ gs = [⟨v103, 27, 2, 0, []⟩, ⟨v96, 27, 2, l6.length, xs97⟩] ∧ CH H113 2 R_Cell xs97 l6 ∧ HSub H H113) ?_ ?_
 ·rintro H113 f bs gs ⟨v103, v96, xs97, hf1, hf2, hf3, hf9, hf10, hf12, hf14, rfl, rfl, hm114, hs113⟩
  refine (JA.norm (i := 1) hf1 (JA.norm (i := 2) hf2 (JA.norm (i := 3) hf3 (JA.norm (i := 9) hf9 (JA.norm (i := 10) hf10 (JA.norm (i := 12) hf12 (JA.norm (i := 14) hf14 ?_)))))))
  refine JA.many [7] (by kernel_rfl) (by simp) (all_one ⟨_, #[true, true, true, true, true, true, true, true, true, false, false, false], rfl, (by kernel_rfl), ?_⟩)
  refine JL.appD (R := R_Cell) 0 (l := ([] : List Cell)) (m := s.Flaws) ap_22 rfl ⟨rfl, rfl⟩ rfl CH.nil rfl (SL.mono R_Cell_mono hs113 hs_3) (R_Cell_one _) hl12 .none rfl ?_
  intro v115 xs116 hch117
  refine JA.after hE hs113 (.cons _ (.cons_cons _ (.cons_cons _ (List.nil_sublist _)))) ?_
  refine JA.many [9] (by kernel_rfl) (by simp) (all_one ⟨_, #[true, true, true, true, true, true, true, true, true, true, false, false], rfl, (by kernel_rfl), ?_⟩)
  refine JL.oneG 1 rfl (fun ho118 => ?_)
  refine JL.storeOwn 0 (cs := [v96]) az_22 rfl ho118.2 rfl (one_cons ho118.1 one_nil) rfl rfl .none ?_
  refine JA.after hE hs113 (.cons _ (.cons_cons _ (.cons_cons _ (List.nil_sublist _)))) ?_
  refine JA.take 10 (listed' := #[true, true, true, true, true, true, true, true, true, true, true, false]) hQ rfl (by kernel_rfl) (by kernel_rfl) (by kernel_rfl) (by kernel_rfl) (by kernel_rfl) hE hs113 (.cons _ (.cons_cons _ (.cons_cons _ (List.nil_sublist _)))) ?_
  refine JL.fieldAddr fo_25_3 rfl .none rfl ?_
  refine JA.cont ?_
  refine JA.many [11] (by kernel_rfl) (by simp) (all_one ⟨_, #[true, true, true, true, true, true, true, true, true, true, true, true], rfl, (by kernel_rfl), ?_⟩)
  refine JL.oneG 0 rfl (fun ho119 => ?_)
  refine JL.storeOwn 0 (cs := [v115]) az_22 rfl ho119.2 rfl (one_cons ho119.1 one_nil) rfl rfl .none ?_
  refine JA.after hE hs113 (.cons _ (.cons_cons _ (.cons_cons _ (List.nil_sublist _)))) ?_
  refine JA.done hQ (by kernel_rfl) ?_
  refine JQ.go (JC.seq (JC.region (by rfl) ?_))
  intro hQ
  refine JL.fieldAddr fo_25_4 rfl .none rfl ?_
  refine JL.storeOwn 0 (cs := [.slice none 0 0]) az_23 rfl rfl rfl (one_cons rfl one_nil) rfl rfl .none ?_
  refine JL.done hQ (JQ.go (JC.seq (JC.seq (JC.region (by rfl) ?_))))
  intro hQ
  refine JL.assign .none rfl ?_
  refine JL.done hQ (JQ.go (JC.newNil (e := 30) (sz := 1) ?_))
  obtain ⟨r696, hlr696, hKr696⟩ := bind_some hF
  refine JC.join (fun (out_694 : List Panel) H695 f bs gs => ∃ (vout_694 : Value) (xsout_694 : List Value), f 2 = .pointer (some ⟨b2, 0, none⟩) ∧ f 3 = .pointer (some ⟨b3, 0, none⟩) ∧ bs = [(b3, .cells [.int .i64 s.Width, .int .i64 s.Length, v96, v115, vout_694].toArray 25), (b2, .cells [.int .i64 0, .int .i64 0, .slice none 0 0, .slice none 0 0, .slice none 0 0].toArray 25)] ∧ gs = [⟨vout_694, 30, 1, out_694.length, xsout_694⟩, ⟨v115, 27, 2, l12.length, xs116⟩, ⟨v96, 27, 2, l6.length, xs97⟩] ∧ CH H695 1 R_Panel xsout_694 out_694 ∧ HSub H113 H695 ∧ out_694 = r696) ?_ ?_
  ·skip
   refine JC.block (JC.loop hlr696 (fun (x : Int × List Panel) H983 f bs gs => match x with | (i_981, out_982) => ∃ (vout_982 : Value) (xsout_982 : List Value), f 1 = .pointer (some ⟨b1, 0, none⟩) ∧ f 2 = .pointer (some ⟨b2, 0, none⟩) ∧ f 3 = .pointer (some ⟨b3, 0, none⟩) ∧ f 4 = .int .i64 i_981 ∧ bs = [(b3, .cells [.int .i64 s.Width, .int .i64 s.Length, v96, v115, vout_982].toArray 25), (b2, .cells [.int .i64 0, .int .i64 0, .slice none 0 0, .slice none 0 0, .slice none 0 0].toArray 25), (b1, .cells [.int .i64 s.Width, .int .i64 s.Length, s_v2, s_v3, s_v4].toArray 25)] ∧ gs = [⟨vout_982, 30, 1, out_982.length, xsout_982⟩, ⟨v115, 27, 2, l12.length, xs116⟩, ⟨v96, 27, 2, l6.length, xs97⟩] ∧ CH H983 1 R_Panel xsout_982 out_982 ∧ HSub H113 H983) ⟨(.slice none 0 0), [], rfl, rfl, rfl, rfl, rfl, rfl, CH.nil, (HSub.refl _)⟩ ?_)
   rintro ⟨i_981, out_982⟩ x985 H983 f bs gs ⟨vout_982, xsout_982, hf1, hf2, hf3, hf4, rfl, rfl, hout_982, hs983⟩ hF hr984
   rw [F_ref03_Copy_s1] at hF
   refine (JC.norm (i := 1) hf1 (JC.norm (i := 2) hf2 (JC.norm (i := 3) hf3 (JC.norm (i := 4) hf4 ?_))))
   refine JC.seq (JC.seq (JC.region (by rfl) ?_))
   intro hQ
   refine JL.move .none rfl ?_
   refine JL.fieldAddr fo_25_4 rfl .none rfl ?_
   refine JL.loadOwn 2 az_23 rfl rfl rfl .none rfl ?_
   refine JL.lenSL (R := R_Panel) ul_23 (SL.mono R_Panel_mono (HSub.trans hs113 hs983) hs_4) .none rfl ?_
   refine JL.bin rfl rfl rfl .none rfl ?_
   refine JL.done hQ (JQ.go ?_)
   rcases ite_some hF with ⟨hc986, hF⟩ | ⟨hc986, hF⟩
   ·refine JC.cond_t (b := decide (i_981 < (s.Panels.length : Int))) rfl hc986 ?_
    refine JC.skip (JQ.go (JC.seq (JC.block ?_)))
    obtain ⟨a987, c988, rfl, hh989⟩ := hs_2
    have hs_2 : SL H 2 R_Cell (.slice a987 s.Faults.length c988) s.Faults := ⟨a987, c988, rfl, hh989⟩
    obtain ⟨a990, c991, rfl, hh992⟩ := hs_3
    have hs_3 : SL H 2 R_Cell (.slice a990 s.Flaws.length c991) s.Flaws := ⟨a990, c991, rfl, hh992⟩
    obtain ⟨a993, c994, rfl, hh995⟩ := hs_4
    have hs_4 : SL H 1 R_Panel (.slice a993 s.Panels.length c994) s.Panels := ⟨a993, c994, rfl, hh995⟩
    obtain ⟨y998, hy998, hF⟩ := bind_some hF
    obtain ⟨l1003, hl1003, hF⟩ := bind_some hF
    obtain ⟨l1012, hl1012, hF⟩ := bind_some hF
    refine JC.mixed 14 15 #[false, false, false, false, false, false, false, false, false, false, false, false, false, false, false] [(b3, .cells [.int .i64 s.Width, .int .i64 s.Length, v96, v115, vout_982].toArray 25), (b2, .cells [.int .i64 0, .int .i64 0, .slice none 0 0, .slice none 0 0, .slice none 0 0].toArray 25), (b1, .cells [.int .i64 s.Width, .int .i64 s.Length, (.slice a987 s.Faults.length c988), (.slice a990 s.Flaws.length c991), (.slice a993 s.Panels.length c994)].toArray 25)] (by rfl) mo_ (by kernel_rfl) (by kernel_rfl) ?_
    intro hQ hE
    refine JA.take 0 (listed' := #[true, false, false, false, false, false, false, false, false, false, false, false, false, false, false]) hQ rfl (by kernel_rfl) (by kernel_rfl) (by kernel_rfl) (by kernel_rfl) (by kernel_rfl) hE (HSub.refl _) (.cons_cons _ (.cons_cons _ (.cons_cons _ (List.nil_sublist _)))) ?_
    refine JL.fieldAddr fo_25_4 rfl .none rfl ?_
    refine JA.cont ?_
    refine JA.take 1 (listed' := #[true, true, false, false, false, false, false, false, false, false, false, false, false, false, false]) hQ rfl (by kernel_rfl) (by kernel_rfl) (by kernel_rfl) (by kernel_rfl) (by kernel_rfl) hE (HSub.refl _) (.cons_cons _ (.cons_cons _ (.cons_cons _ (List.nil_sublist _)))) ?_
    refine JL.loadOwn 0 az_23 rfl rfl rfl .none rfl ?_
    refine JA.cont ?_
    refine JA.take 3 (listed' := #[true, true, false, true, false, false, false, false, false, false, false, false, false, false, false]) hQ rfl (by kernel_rfl) (by kernel_rfl) (by kernel_rfl) (by kernel_rfl) (by kernel_rfl) hE (HSub.refl _) (.cons_cons _ (.cons_cons _ (.cons_cons _ (List.nil_sublist _)))) ?_
    refine JL.fieldAddr fo_25_4 rfl .none rfl ?_
    refine JA.cont ?_
    refine JA.take 4 (listed' := #[true, true, false, true, true, false, false, false, false, false, false, false, false, false, false]) hQ rfl (by kernel_rfl) (by kernel_rfl) (by kernel_rfl) (by kernel_rfl) (by kernel_rfl) hE (HSub.refl _) (.cons_cons _ (.cons_cons _ (.cons_cons _ (List.nil_sublist _)))) ?_
    refine JL.loadOwn 2 az_23 rfl rfl rfl .none rfl ?_
    refine JA.cont ?_
    refine JA.take 5 (listed' := #[true, true, false, true, true, true, false, false, false, false, false, false, false, false, false]) hQ rfl (by kernel_rfl) (by kernel_rfl) (by kernel_rfl) (by kernel_rfl) (by kernel_rfl) hE (HSub.refl _) (.cons_cons _ (.cons_cons _ (.cons_cons _ (List.nil_sublist _)))) ?_
    refine JL.move .none rfl ?_
    refine JA.cont ?_
    refine JA.take 6 (listed' := #[true, true, false, true, true, true, true, false, false, false, false, false, false, false, false]) hQ rfl (by kernel_rfl) (by kernel_rfl) (by kernel_rfl) (by kernel_rfl) (by kernel_rfl) hE (HSub.refl _) (.cons_cons _ (.cons_cons _ (.cons_cons _ (List.nil_sublist _)))) ?_
    refine JL.indexSL (R := R_Panel) sl_23 (SL.mono R_Panel_mono (HSub.trans hs113 hs983) hs_4) rfl hy998 .none rfl ?_
    rintro b1105 o1106 cs1107 hc1108 - ⟨y998_v0, rfl, hy998_0⟩
    refine JA.cont ?_
    refine JA.take 7 (listed' := #[true, true, false, true, true, true, true, true, false, false, false, false, false, false, false]) hQ rfl (by kernel_rfl) (by kernel_rfl) (by kernel_rfl) (by kernel_rfl) (by kernel_rfl) hE (HSub.refl _) (.cons_cons _ (.cons_cons _ (.cons_cons _ (List.nil_sublist _)))) ?_
    refine JL.fieldAddr fo_30_0 rfl .none rfl ?_
    refine JA.cont ?_
    refine JA.take 8 (listed' := #[true, true, false, true, true, true, true, true, true, false, false, false, false, false, false]) hQ rfl (by kernel_rfl) (by kernel_rfl) (by kernel_rfl) (by kernel_rfl) (by kernel_rfl) hE (HSub.refl _) (.cons_cons _ (.cons_cons _ (.cons_cons _ (List.nil_sublist _)))) ?_
    refine JL.loadH 0 az_28 rfl hc1108 rfl .none rfl ?_
    refine JA.cont ?_
    refine JA.many [2] (by kernel_rfl) (by simp) (all_one ⟨_, #[true, true, true, true, true, true, true, true, true, false, false, false, false, false, false], rfl, (by kernel_rfl), ?_⟩)
    refine JL.emptySlice ap_28 .none rfl ?_
    intro v1109
    refine JA.after hE (HSub.refl _) (.cons_cons _ (.cons_cons _ (.cons_cons _ (List.nil_sublist _)))) ?_
    refine JA.many [9] (by kernel_rfl) (by simp) (all_one ⟨_, #[true, true, true, true, true, true, true, true, true, true, false, false, false, false, false], rfl, (by kernel_rfl), ?_⟩)
    refine JL.appD (R := R_Span) 0 (l := ([] : List Span)) (m := y998.Rows) ap_28 rfl ⟨rfl, rfl⟩ rfl CH.nil rfl hy998_0 (R_Span_one _) hl1003 .none rfl ?_
    intro v1111 xs1112 hch1113
    refine JA.after hE (HSub.refl _) (.cons_cons _ (.cons_cons _ (.cons_cons _ (List.nil_sublist _)))) ?_
    refine JA.many [10] (by kernel_rfl) (by simp) (all_one ⟨_, #[true, true, true, true, true, true, true, true, true, true, true, false, false, false, false], rfl, (by kernel_rfl), ?_⟩)
    refine JL.formG 0 rfl (fun a1114 n1115 c1116 hh1117 => ?_)
    dsimp only at hh1117
    subst hh1117
    refine JL.build (l := [(.slice a1114 n1115 c1116)]) (by kernel_rfl) .none rfl ?_
    refine JA.after hE (HSub.refl _) (.cons_cons _ (.cons_cons _ (.cons_cons _ (List.nil_sublist _)))) ?_
    refine JA.many [11] (by kernel_rfl) (by simp) (all_one ⟨_, #[true, true, true, true, true, true, true, true, true, true, true, true, false, false, false], rfl, (by kernel_rfl), ?_⟩)
    refine JL.buildSlice (e := 30) (l := [(.slice a1114 n1115 c1116)]) (by kernel_rfl) .none rfl ?_
    intro b1118
    refine JA.after hE (HSub.refl _) (.cons _ (.cons_cons _ (.cons_cons _ (.cons_cons _ (List.nil_sublist _))))) ?_
    refine JA.many [12] (by kernel_rfl) (by simp) (all_one ⟨_, #[true, true, true, true, true, true, true, true, true, true, true, true, true, false, false], rfl, (by kernel_rfl), ?_⟩)
    refine JL.freezeG 0 (R := R_Span) rfl R_Span_mono hch1113 rfl ?_
    intro H1119 hs1119 hg1120
    refine JL.appO (R := R_Panel) 0 0 (l := out_982) (m := [(Panel.mk l1003)]) ap_23 rfl ⟨rfl, rfl⟩ rfl (CH.mono R_Panel_mono hs1119 hout_982) rfl rfl rfl (CH.cons (cs := [(.slice a1114 n1115 c1116)]) rfl ⟨(.slice a1114 n1115 c1116), rfl, hg1120⟩ CH.nil) rfl (one_cons (SL.one hg1120) one_nil) hl1012 .none rfl ?_
    intro v1121 xs1122 hch1123
    refine JA.after hE hs1119 (.cons _ (.cons_cons _ (.cons_cons _ (.cons_cons _ (List.nil_sublist _))))) ?_
    refine JA.take 13 (listed' := #[true, true, true, true, true, true, true, true, true, true, true, true, true, true, false]) hQ rfl (by kernel_rfl) (by kernel_rfl) (by kernel_rfl) (by kernel_rfl) (by kernel_rfl) hE hs1119 (.cons _ (.cons_cons _ (.cons_cons _ (.cons_cons _ (List.nil_sublist _))))) ?_
    refine JL.fieldAddr fo_25_4 rfl .none rfl ?_
    refine JA.cont ?_
    refine JA.many [14] (by kernel_rfl) (by simp) (all_one ⟨_, #[true, true, true, true, true, true, true, true, true, true, true, true, true, true, true], rfl, (by kernel_rfl), ?_⟩)
    refine JL.oneG 0 rfl (fun ho1124 => ?_)
    refine JL.storeOwn 1 (cs := [v1121]) az_23 rfl ho1124.2 rfl (one_cons ho1124.1 one_nil) rfl rfl .none ?_
    refine JA.sink (by kernel_rfl) ?_
    refine JA.done hQ (by kernel_rfl) ?_
    refine JQ.normal_block (JQ.go (JC.fresh (fun f => f 1 = .pointer (some ⟨b1, 0, none⟩) ∧ f 2 = .pointer (some ⟨b2, 0, none⟩) ∧ f 3 = .pointer (some ⟨b3, 0, none⟩) ∧ f 4 = .int .i64 i_981) ⟨rfl, rfl, rfl, rfl⟩ ?_))
    rintro f ⟨hf1, hf2, hf3, hf4⟩
    refine (JC.norm (i := 1) hf1 (JC.norm (i := 2) hf2 (JC.norm (i := 3) hf3 (JC.norm (i := 4) hf4 ?_))))
    refine JC.region (by rfl) ?_
    intro hQ
    refine JL.move .none rfl ?_
    refine JL.bin rfl rfl rfl .none rfl ?_
    refine JL.assign .none rfl ?_
    refine JL.done hQ ?_
    obtain rfl := Option.some.inj hF
    refine JQ.mask [false, true, true, true] [true, true, true] ?_
    exact JQ.next rfl ⟨v1121, xs1122, rfl, rfl, rfl, rfl, rfl, rfl, hch1123, (HSub.trans hs983 hs1119)⟩
   ·refine JC.cond_f (b := decide (i_981 < (s.Panels.length : Int))) rfl hc986 ?_
    refine JC.exit (JQ.exit_then (JQ.exit_then (JQ.exit_block ?_)))
    obtain rfl := Option.some.inj hF
    have ehr984 := hr984 _ rfl
    subst ehr984
    refine JQ.mask [true, true, false] [true, true, true] ?_
    exact JQ.join out_982 ⟨vout_982, xsout_982, rfl, rfl, rfl, rfl, hout_982, hs983, rfl⟩
  ·rintro out_694 H695 f bs gs ⟨vout_694, xsout_694, hf2, hf3, rfl, rfl, hout_694, hs695, rfl⟩
   have hF := hKr696
   try dsimp only at hF
   refine (JQ.norm (i := 2) hf2 (JQ.norm (i := 3) hf3 ?_))
   refine JQ.go (JC.seq (JC.region (by rfl) ?_))
   intro hQ
   refine JL.loadOwn 0 az_25 rfl rfl rfl .none rfl ?_
   refine JL.oneG 2 rfl (fun ho1125 => ?_)
   refine JL.oneG 1 rfl (fun ho1126 => ?_)
   refine JL.oneG 0 rfl (fun ho1127 => ?_)
   refine JL.storeOwn 1 (cs := [.int .i64 s.Width, .int .i64 s.Length, v96, v115, vout_694]) az_25 rfl rfl rfl (one_cons rfl (one_cons rfl (one_cons ho1125.1 (one_cons ho1126.1 (one_cons ho1127.1 one_nil))))) rfl rfl .none ?_
   refine JL.done hQ (JQ.go (JC.ret (JQ.freezeG 2 (R := R_Cell) rfl R_Cell_mono (CH.mono R_Cell_mono hs695 hm114) rfl ?_)))
   intro H1128 hs1128 hg1129
   refine JQ.freezeG 1 (R := R_Cell) rfl R_Cell_mono (CH.mono R_Cell_mono (HSub.trans hs695 hs1128) hch117) rfl ?_
   intro H1130 hs1130 hg1131
   refine JQ.freezeG 0 (R := R_Panel) rfl R_Panel_mono (CH.mono R_Panel_mono (HSub.trans hs1128 hs1130) hout_694) rfl ?_
   intro H1132 hs1132 hg1133
   obtain rfl := Option.some.inj hF
   exact JQ.outH rfl (.cell 1 az_25 rfl rfl rfl .nil) ⟨v96, v115, vout_694, rfl, (SL.mono R_Cell_mono (HSub.trans hs1130 hs1132) hg1129), (SL.mono R_Cell_mono hs1132 hg1131), hg1133⟩
 intro nd112_0
 refine JA.cut 6 #[true, true, true, false, true, true, true, false, false, false, false, false] (fun H1134 f bs gs => ∃ (v99 : Value) (v92 : Value), f 1 = .pointer (some ⟨b1, 0, none⟩) ∧ f 2 = .pointer (some ⟨b2, 0, none⟩) ∧ f 3 = .pointer (some ⟨b3, 0, none⟩) ∧ f 6 = v92 ∧ f 8 = s_v2 ∧ f 10 = v99 ∧ f 12 = s_v3 ∧ bs = [(b3, .cells [.int .i64 s.Width, .int .i64 s.Length, s_v2, s_v3, s_v4].toArray 25), (b2, .cells [.int .i64 0, .int .i64 0, .slice none 0 0, .slice none 0 0, .slice none 0 0].toArray 25), (b1, .cells [.int .i64 s.Width, .int .i64 s.Length, s_v2, s_v3, s_v4].toArray 25)] ∧ gs = [⟨v99, 27, 2, 0, []⟩, ⟨v92, 27, 2, 0, []⟩] ∧ HSub H H1134) ?_ ?_
 ·rintro H1134 f bs gs ⟨v99, v92, hf1, hf2, hf3, hf6, hf8, hf10, hf12, rfl, rfl, hs1134⟩
  refine (JA.norm (i := 1) hf1 (JA.norm (i := 2) hf2 (JA.norm (i := 3) hf3 (JA.norm (i := 6) hf6 (JA.norm (i := 8) hf8 (JA.norm (i := 10) hf10 (JA.norm (i := 12) hf12 ?_)))))))
  refine JA.many [3] (by kernel_rfl) (by simp) (all_one ⟨_, #[true, true, true, true, true, true, true, false, false, false, false, false], rfl, (by kernel_rfl), ?_⟩)
  refine JL.appD (R := R_Cell) 1 (l := ([] : List Cell)) (m := s.Faults) ap_22 rfl ⟨rfl, rfl⟩ rfl CH.nil rfl (SL.mono R_Cell_mono hs1134 hs_2) (R_Cell_one _) hl6 .none rfl ?_
  intro v1135 xs1136 hch1137
  refine JA.after hE hs1134 (.cons _ (.cons_cons _ (.cons_cons _ (List.nil_sublist _)))) ?_
  refine JA.take 8 (listed' := #[true, true, true, true, true, true, true, false, true, false, false, false]) hQ rfl (by kernel_rfl) (by kernel_rfl) (by kernel_rfl) (by kernel_rfl) (by kernel_rfl) hE hs1134 (.cons _ (.cons_cons _ (.cons_cons _ (List.nil_sublist _)))) ?_
  refine JL.fieldAddr fo_25_2 rfl .none rfl ?_
  refine JA.cont ?_
  exact nd112_0 _ _ _ _ ⟨v99, v1135, xs1136, rfl, rfl, rfl, rfl, rfl, rfl, rfl, rfl, rfl, hch1137, hs1134⟩
 intro nd112_1
 refine JA.take 1 (listed' := #[false, true, false, false, false, false, false, false, false, false, false, false]) hQ rfl (by kernel_rfl) (by kernel_rfl) (by kernel_rfl) (by kernel_rfl) (by kernel_rfl) hE (HSub.refl _) (.cons _ (.cons_cons _ (.cons_cons _ (List.nil_sublist _)))) ?_
 refine JL.fieldAddr fo_25_2 rfl .none rfl ?_
 refine JA.cont ?_
 refine JA.take 2 (listed' := #[false, true, true, false, false, false, false, false, false, false, false, false]) hQ rfl (by kernel_rfl) (by kernel_rfl) (by kernel_rfl) (by kernel_rfl) (by kernel_rfl) hE (HSub.refl _) (.cons _ (.cons_cons _ (.cons_cons _ (List.nil_sublist _)))) ?_
 refine JL.loadOwn 1 az_22 rfl rfl rfl .none rfl ?_
 refine JA.cont ?_
 refine JA.take 5 (listed' := #[false, true, true, false, false, true, false, false, false, false, false, false]) hQ rfl (by kernel_rfl) (by kernel_rfl) (by kernel_rfl) (by kernel_rfl) (by kernel_rfl) hE (HSub.refl _) (.cons _ (.cons_cons _ (.cons_cons _ (List.nil_sublist _)))) ?_
 refine JL.fieldAddr fo_25_3 rfl .none rfl ?_
 refine JA.cont ?_
 refine JA.take 6 (listed' := #[false, true, true, false, false, true, true, false, false, false, false, false]) hQ rfl (by kernel_rfl) (by kernel_rfl) (by kernel_rfl) (by kernel_rfl) (by kernel_rfl) hE (HSub.refl _) (.cons _ (.cons_cons _ (.cons_cons _ (List.nil_sublist _)))) ?_
 refine JL.loadOwn 1 az_22 rfl rfl rfl .none rfl ?_
 refine JA.cont ?_
 refine JA.many [0, 4] (by kernel_rfl) (by simp) (all_cons ⟨_, #[true, true, true, false, false, true, true, false, false, false, false, false], rfl, (by kernel_rfl), ?_⟩ (all_one ⟨_, #[false, true, true, false, true, true, true, false, false, false, false, false], rfl, (by kernel_rfl), ?_⟩))
 ·skip
  refine JL.emptySlice ap_22 .none rfl ?_
  intro v1138
  refine JA.after hE (HSub.refl _) (.cons _ (.cons_cons _ (.cons_cons _ (List.nil_sublist _)))) ?_
  refine JA.many [3, 4] (by kernel_rfl) (by simp) (all_cons ⟨_, #[true, true, true, true, false, true, true, false, false, false, false, false], rfl, (by kernel_rfl), ?_⟩ (all_one ⟨_, #[true, true, true, false, true, true, true, false, false, false, false, false], rfl, (by kernel_rfl), ?_⟩))
  ·skip
   refine JL.appD (R := R_Cell) 0 (l := ([] : List Cell)) (m := s.Faults) ap_22 rfl ⟨rfl, rfl⟩ rfl CH.nil rfl hs_2 (R_Cell_one _) hl6 .none rfl ?_
   intro v1140 xs1141 hch1142
   refine JA.after hE (HSub.refl _) (.cons _ (.cons_cons _ (.cons_cons _ (List.nil_sublist _)))) ?_
   refine JA.take 8 (listed' := #[true, true, true, true, false, true, true, false, true, false, false, false]) hQ rfl (by kernel_rfl) (by kernel_rfl) (by kernel_rfl) (by kernel_rfl) (by kernel_rfl) hE (HSub.refl _) (.cons _ (.cons_cons _ (.cons_cons _ (List.nil_sublist _)))) ?_
   refine JL.fieldAddr fo_25_2 rfl .none rfl ?_
   refine JA.cont ?_
   refine JA.many [4] (by kernel_rfl) (by simp) (all_one ⟨_, #[true, true, true, true, true, true, true, false, true, false, false, false], rfl, (by kernel_rfl), ?_⟩)
   refine JL.emptySlice ap_22 .none rfl ?_
   intro v1143
   refine JA.after hE (HSub.refl _) (.cons _ (.cons_cons _ (.cons_cons _ (List.nil_sublist _)))) ?_
   exact nd112_0 _ _ _ _ ⟨v1143, v1140, xs1141, rfl, rfl, rfl, rfl, rfl, rfl, rfl, rfl, rfl, hch1142, (HSub.refl _)⟩
  ·skip
   refine JL.emptySlice ap_22 .none rfl ?_
   intro v1145
   refine JA.after hE (HSub.refl _) (.cons _ (.cons_cons _ (.cons_cons _ (List.nil_sublist _)))) ?_
   exact nd112_1 _ _ _ _ ⟨v1145, v1138, rfl, rfl, rfl, rfl, rfl, rfl, rfl, rfl, rfl, (HSub.refl _)⟩
 ·skip
  refine JL.emptySlice ap_22 .none rfl ?_
  intro v1147
  refine JA.after hE (HSub.refl _) (.cons _ (.cons_cons _ (.cons_cons _ (List.nil_sublist _)))) ?_
  refine JA.many [0] (by kernel_rfl) (by simp) (all_one ⟨_, #[true, true, true, false, true, true, true, false, false, false, false, false], rfl, (by kernel_rfl), ?_⟩)
  refine JL.emptySlice ap_22 .none rfl ?_
  intro v1149
  refine JA.after hE (HSub.refl _) (.cons _ (.cons_cons _ (.cons_cons _ (List.nil_sublist _)))) ?_
  refine JA.permG (swapAt_perm 0 _) ?_
  exact nd112_1 _ _ _ _ ⟨v1147, v1149, rfl, rfl, rfl, rfl, rfl, rfl, rfl, rfl, rfl, (HSub.refl _)⟩
-- 19 ferrule/ferrulelaw03.isKnown
def F_law03_isKnown (n : Nat) (e : Int) : Option Bool :=
 some ((e == 0) || (e == 3))
theorem c_law03_isKnown (n : Nat) (H : Hp) (e : Int) (y : Bool) (hF : F_law03_isKnown n e = some y) : SC Try.prog 19 [.int .i64 e] (.bool y) H := by
 rw [F_law03_isKnown] at hF
 refine SC.of (N := 9) Try.func19 rfl rfl rfl fun w => ?_
 refine JC.seq (JC.region (by rfl) ?_)
 intro hQ
 refine JL.assign .none rfl ?_
 refine JL.done hQ (JQ.go (JC.seq (JC.region (by rfl) ?_)))
 intro hQ
 refine JL.move .none rfl ?_
 refine JL.bin rfl rfl rfl .none rfl ?_
 refine JL.move .none rfl ?_
 refine JL.cut 3 (fun f => f 8 = .bool ((e == 0) || (e == 3))) ?_ ?_
 ·intro hJ1
  rcases bcases (e == 0) with hc2 | hc2
  ·skip
   refine JL.skip (.bool rfl rfl rfl hc2) rfl ?_
   refine JL.skip (.bool rfl rfl rfl hc2) rfl ?_
   refine JL.pick_t (b := (e == 0)) rfl hc2 .none rfl ?_
   exact hJ1 _ (or_t hc2 rfl)
  ·skip
   refine JL.move (.some rfl rfl rfl hc2) rfl ?_
   refine JL.bin rfl rfl rfl (.some rfl rfl rfl hc2) rfl ?_
   refine JL.pick_f (b := (e == 0)) rfl hc2 .none rfl ?_
   exact hJ1 _ (or_f hc2 rfl)
 ·rintro f hf8
  refine (JL.norm (i := 8) hf8 ?_)
  refine JL.assign .none rfl ?_
  refine JL.done hQ (JQ.go (JC.ret ?_))
  obtain rfl := Option.some.inj hF
  exact JQ.outS rfl (.tmp .nil) rfl
end Go.Proofs.Ytflhjlgimihmgaa
end
section
namespace Go.Proofs.Ytflhjlgimihmgaa
open Go Go.RowKit Go.Dec
set_option linter.unusedVariables false
-- 13 ferrule/ferrulelaw03.atLeast
-- 20 ferrule/lays.Lay
def F_lays_Lay (n : Nat) (s : Lap) : Option ((List Place) × Int) :=
 (F_lays_sure n s).bind fun y2 => some (y2.2.1, y2.2.2)
-- 24 ferrule/ferruleref03.IsPlace
-- 16 ferrule/ferruleref03.TurnedRows
-- 50 ferrule/ferruleref03.CellsOf
end Go.Proofs.Ytflhjlgimihmgaa
end
section
set_option maxRecDepth 100000
set_option maxHeartbeats 40000000
namespace Go.Proofs.Ytflhjlgimihmgaa
open Go Go.RowKit Go.Dec
set_option linter.unusedVariables false
-- 25 ferrule/ferruleref03.Rows
-- 21 ferrule/ferrulelaw03.rows
-- 23 ferrule/ferruleref03.Area
-- 54 ferrule/lays.covered
def F_lays_covered_s2 (n : Nat) (p : Place) (x_444 : Int) (y450 : Span) : Int × List Cell → Option ((Int × List Cell) ⊕ (List Cell))
 | (col_506, out_507) => if decide (col_506 ≤ y450.High) = true then ((lim (out_507 ++ [(Cell.mk (w64 (p.Row + x_444)) (w64 (p.Col + col_506)))])).bind fun l513 => some (Sum.inl ((w64 (col_506 + 1)), l513))) else (some (Sum.inr out_507))
def F_lays_covered_s1 (n : Nat) (p : Place) (y3 : (List Span)) : Int × List Cell → Option ((Int × List Cell) ⊕ (List Cell))
 | (x_444, out_445) => if decide (x_444 < (y3.length : Int)) = true then ((geti y3 x_444).bind fun y450 => (loopO n (F_lays_covered_s2 n p x_444 y450) (y450.Low, out_445)).bind fun out_485 => some (Sum.inl ((w64 (x_444 + 1)), out_485))) else (some (Sum.inr out_445))
def F_lays_covered (n : Nat) (panel : Panel) (p : Place) : Option (List Cell) :=
 (F_lays_rows n panel p.Turned).bind fun y3 => (loopO n (F_lays_covered_s1 n p y3) (0, ([] : List Cell))).bind fun out_299 => some out_299
theorem c_lays_covered (n : Nat) (H : Hp) (panel : Panel) (panel_v0 : Value) (hpanel_0 : SL H 2 R_Span panel_v0 panel.Rows) (p : Place) (y : (List Cell)) (hF : F_lays_covered n panel p = some y) : HC Try.prog 54 [.agg [panel_v0].toArray, .agg [.int .i64 p.Row, .int .i64 p.Col, .int .i64 p.Turned].toArray] H (fun H' ra_v0 => SL H' 2 R_Cell ra_v0 y) := by
 rw [F_lays_covered] at hF
 refine HC.of (N := 41) Try.func54 rfl rfl rfl fun w => ?_
 refine JC.seq (JC.region (by rfl) ?_)
 intro hQ
 refine JL.box (cs := [panel_v0]) rfl .none rfl ?_
 intro b1
 refine JL.box (cs := [.int .i64 p.Row, .int .i64 p.Col, .int .i64 p.Turned]) rfl .none rfl ?_
 intro b2
 refine JL.assign .none rfl ?_
 refine JL.done hQ (JQ.go (JC.seq (JC.region (by rfl) ?_)))
 intro hQ
 refine JL.assign .none rfl ?_
 refine JL.done hQ (JQ.go (JC.seq (JC.seq (JC.region (by rfl) ?_))))
 intro hQ
 refine JL.loadOwn 1 az_30 rfl rfl rfl .none rfl ?_
 refine JL.fieldAddr fo_62_2 rfl .none rfl ?_
 refine JL.loadOwn 0 az_3 rfl rfl rfl .none rfl ?_
 obtain ⟨y3, hy3, hF⟩ := bind_some hF
 refine JL.callH (c_lays_rows n H panel panel_v0 hpanel_0 p.Turned y3 hy3) rfl en_71 .none rfl ?_
 intro H4 y3a_v0 hs4 hy3a_0
 refine JL.lenSL (R := R_Span) ul_28 hy3a_0 .none rfl ?_
 refine JL.move .none rfl ?_
 refine JL.done hQ (JQ.go (JC.newNil (e := 27) (sz := 2) ?_))
 obtain ⟨r301, hlr301, hKr301⟩ := bind_some hF
 refine JC.join (fun (out_299 : List Cell) H300 f bs gs => ∃ (vout_299 : Value) (xsout_299 : List Value), f 5 = vout_299 ∧ bs = [] ∧ gs = [⟨vout_299, 27, 2, out_299.length, xsout_299⟩] ∧ CH H300 2 R_Cell xsout_299 out_299 ∧ HSub H4 H300 ∧ out_299 = r301) ?_ ?_
 ·skip
  refine JC.block (JC.mask [true, false] [true] ?_)
  refine JC.loop hlr301 (fun (x : Int × List Cell) H446 f bs gs => match x with | (x_444, out_445) => ∃ (vout_445 : Value) (xsout_445 : List Value), f 3 = .pointer (some ⟨b2, 0, none⟩) ∧ f 5 = vout_445 ∧ f 12 = y3a_v0 ∧ f 13 = .int .i64 (y3.length : Int) ∧ f 14 = .int .i64 x_444 ∧ bs = [(b2, .cells [.int .i64 p.Row, .int .i64 p.Col, .int .i64 p.Turned].toArray 62)] ∧ gs = [⟨vout_445, 27, 2, out_445.length, xsout_445⟩] ∧ CH H446 2 R_Cell xsout_445 out_445 ∧ HSub H4 H446) ⟨(.slice none 0 0), [], rfl, rfl, rfl, rfl, rfl, rfl, rfl, CH.nil, (HSub.refl _)⟩ ?_
  rintro ⟨x_444, out_445⟩ x448 H446 f bs gs ⟨vout_445, xsout_445, hf3, hf5, hf12, hf13, hf14, rfl, rfl, hout_445, hs446⟩ hF hr447
  rw [F_lays_covered_s1] at hF
  refine (JC.norm (i := 3) hf3 (JC.norm (i := 5) hf5 (JC.norm (i := 12) hf12 (JC.norm (i := 13) hf13 (JC.norm (i := 14) hf14 ?_)))))
  refine JC.seq (JC.region (by rfl) ?_)
  intro hQ
  refine JL.bin rfl rfl rfl .none rfl ?_
  refine JL.done hQ (JQ.go (JC.seq ?_))
  rcases ite_some hF with ⟨hc449, hF⟩ | ⟨hc449, hF⟩
  ·refine JC.cond_t (b := decide (x_444 < (y3.length : Int))) rfl hc449 ?_
   refine JC.skip (JQ.go (JC.seq (JC.block (JC.seq (JC.region (by rfl) ?_)))))
   intro hQ
   refine JL.move .none rfl ?_
   obtain ⟨y450, hy450, hF⟩ := bind_some hF
   refine JL.indexSL (R := R_Span) sl_28 (SL.mono R_Span_mono hs446 hy3a_0) rfl hy450 .none rfl ?_
   rintro b451 o452 cs453 hc454 - rfl
   refine JL.loadH 0 az_46 rfl hc454 rfl .none rfl ?_
   refine JL.alloc ze_46 .none rfl ?_
   intro b455
   refine JL.assign .none rfl ?_
   refine JL.storeOwn 0 (cs := [.int .i64 y450.Low, .int .i64 y450.High]) az_46 rfl rfl rfl (one_cons rfl (one_cons rfl one_nil)) rfl rfl .none ?_
   refine JL.done hQ (JQ.go (JC.seq (JC.region (by rfl) ?_)))
   intro hQ
   refine JL.fieldAddr fo_46_0 rfl .none rfl ?_
   refine JL.loadOwn 0 az_3 rfl rfl rfl .none rfl ?_
   refine JL.assign .none rfl ?_
   refine JL.done hQ (JQ.go ?_)
   obtain ⟨r487, hlr487, hKr487⟩ := bind_some hF
   refine JC.join (fun (out_485 : List Cell) H486 f bs gs => ∃ (vout_485 : Value) (xsout_485 : List Value), f 3 = .pointer (some ⟨b2, 0, none⟩) ∧ f 5 = vout_485 ∧ f 12 = y3a_v0 ∧ f 13 = .int .i64 (y3.length : Int) ∧ f 14 = .int .i64 x_444 ∧ bs = [(b2, .cells [.int .i64 p.Row, .int .i64 p.Col, .int .i64 p.Turned].toArray 62)] ∧ gs = [⟨vout_485, 27, 2, out_485.length, xsout_485⟩] ∧ CH H486 2 R_Cell xsout_485 out_485 ∧ HSub H446 H486 ∧ out_485 = r487) ?_ ?_
   ·skip
    refine JC.block (JC.loop hlr487 (fun (x : Int × List Cell) H508 f bs gs => match x with | (col_506, out_507) => ∃ (vout_507 : Value) (xsout_507 : List Value), f 3 = .pointer (some ⟨b2, 0, none⟩) ∧ f 5 = vout_507 ∧ f 6 = .int .i64 x_444 ∧ f 7 = .pointer (some ⟨b455, 0, none⟩) ∧ f 8 = .int .i64 col_506 ∧ f 12 = y3a_v0 ∧ f 13 = .int .i64 (y3.length : Int) ∧ f 14 = .int .i64 x_444 ∧ bs = [(b455, .cells [.int .i64 y450.Low, .int .i64 y450.High].toArray 46), (b2, .cells [.int .i64 p.Row, .int .i64 p.Col, .int .i64 p.Turned].toArray 62)] ∧ gs = [⟨vout_507, 27, 2, out_507.length, xsout_507⟩] ∧ CH H508 2 R_Cell xsout_507 out_507 ∧ HSub H446 H508) ⟨vout_445, xsout_445, rfl, rfl, rfl, rfl, rfl, rfl, rfl, rfl, rfl, rfl, hout_445, (HSub.refl _)⟩ ?_)
    rintro ⟨col_506, out_507⟩ x510 H508 f bs gs ⟨vout_507, xsout_507, hf3, hf5, hf6, hf7, hf8, hf12, hf13, hf14, rfl, rfl, hout_507, hs508⟩ hF hr509
    rw [F_lays_covered_s2] at hF
    refine (JC.norm (i := 3) hf3 (JC.norm (i := 5) hf5 (JC.norm (i := 6) hf6 (JC.norm (i := 7) hf7 (JC.norm (i := 8) hf8 (JC.norm (i := 12) hf12 (JC.norm (i := 13) hf13 (JC.norm (i := 14) hf14 ?_))))))))
    refine JC.seq (JC.seq (JC.region (by rfl) ?_))
    intro hQ
    refine JL.move .none rfl ?_
    refine JL.fieldAddr fo_46_1 rfl .none rfl ?_
    refine JL.loadOwn 0 az_3 rfl rfl rfl .none rfl ?_
    refine JL.bin rfl rfl rfl .none rfl ?_
    refine JL.done hQ (JQ.go ?_)
    rcases ite_some hF with ⟨hc511, hF⟩ | ⟨hc511, hF⟩
    ·refine JC.cond_t (b := decide (col_506 ≤ y450.High)) rfl hc511 ?_
     refine JC.skip (JQ.go (JC.seq (JC.block (JC.region (by rfl) ?_))))
     intro hQ
     refine JL.move .none rfl ?_
     refine JL.fieldAddr fo_62_0 rfl .none rfl ?_
     refine JL.loadOwn 1 az_3 rfl rfl rfl .none rfl ?_
     refine JL.move .none rfl ?_
     refine JL.bin rfl rfl rfl .none rfl ?_
     refine JL.fieldAddr fo_62_1 rfl .none rfl ?_
     refine JL.loadOwn 1 az_3 rfl rfl rfl .none rfl ?_
     refine JL.move .none rfl ?_
     refine JL.bin rfl rfl rfl .none rfl ?_
     refine JL.build (l := [.int .i64 (w64 (p.Row + x_444)), .int .i64 (w64 (p.Col + col_506))]) (by kernel_rfl) .none rfl ?_
     refine JL.buildSlice (e := 27) (l := [.int .i64 (w64 (p.Row + x_444)), .int .i64 (w64 (p.Col + col_506))]) (by kernel_rfl) .none rfl ?_
     intro b512
     obtain ⟨l513, hl513, hF⟩ := bind_some hF
     refine JL.appO (R := R_Cell) 0 0 (l := out_507) (m := [(Cell.mk (w64 (p.Row + x_444)) (w64 (p.Col + col_506)))]) ap_22 rfl ⟨rfl, rfl⟩ rfl hout_507 rfl rfl rfl (CH.cons (cs := [.int .i64 (w64 (p.Row + x_444)), .int .i64 (w64 (p.Col + col_506))]) rfl rfl CH.nil) rfl (one_cons rfl (one_cons rfl one_nil)) hl513 .none rfl ?_
     intro v514 xs515 hch516
     refine JL.assign .none rfl ?_
     refine JL.done hQ (JQ.normal_block (JQ.go (JC.fresh (fun f => f 3 = .pointer (some ⟨b2, 0, none⟩) ∧ f 5 = v514 ∧ f 6 = .int .i64 x_444 ∧ f 7 = .pointer (some ⟨b455, 0, none⟩) ∧ f 8 = .int .i64 col_506 ∧ f 12 = y3a_v0 ∧ f 13 = .int .i64 (y3.length : Int) ∧ f 14 = .int .i64 x_444) ⟨rfl, rfl, rfl, rfl, rfl, rfl, rfl, rfl⟩ ?_)))
     rintro f ⟨hf3, hf5, hf6, hf7, hf8, hf12, hf13, hf14⟩
     refine (JC.norm (i := 3) hf3 (JC.norm (i := 5) hf5 (JC.norm (i := 6) hf6 (JC.norm (i := 7) hf7 (JC.norm (i := 8) hf8 (JC.norm (i := 12) hf12 (JC.norm (i := 13) hf13 (JC.norm (i := 14) hf14 ?_))))))))
     refine JC.region (by rfl) ?_
     intro hQ
     refine JL.move .none rfl ?_
     refine JL.bin rfl rfl rfl .none rfl ?_
     refine JL.assign .none rfl ?_
     refine JL.done hQ ?_
     obtain rfl := Option.some.inj hF
     refine JQ.mask [false, true, true] [true] ?_
     exact JQ.next rfl ⟨v514, xs515, rfl, rfl, rfl, rfl, rfl, rfl, rfl, rfl, rfl, rfl, hch516, hs508⟩
    ·refine JC.cond_f (b := decide (col_506 ≤ y450.High)) rfl hc511 ?_
     refine JC.exit (JQ.exit_then (JQ.exit_then (JQ.exit_block ?_)))
     obtain rfl := Option.some.inj hF
     have ehr509 := hr509 _ rfl
     subst ehr509
     refine JQ.mask [false, true] [true] ?_
     exact JQ.join out_507 ⟨vout_507, xsout_507, rfl, rfl, rfl, rfl, rfl, rfl, rfl, hout_507, hs508, rfl⟩
   ·rintro out_485 H486 f bs gs ⟨vout_485, xsout_485, hf3, hf5, hf12, hf13, hf14, rfl, rfl, hout_485, hs486, rfl⟩
    have hF := hKr487
    try dsimp only at hF
    refine (JQ.norm (i := 3) hf3 (JQ.norm (i := 5) hf5 (JQ.norm (i := 12) hf12 (JQ.norm (i := 13) hf13 (JQ.norm (i := 14) hf14 ?_)))))
    refine JQ.normal_block (JQ.go (JC.region (by rfl) ?_))
    intro hQ
    refine JL.bin rfl rfl rfl .none rfl ?_
    refine JL.move .none rfl ?_
    refine JL.done hQ ?_
    obtain rfl := Option.some.inj hF
    exact JQ.next rfl ⟨vout_485, xsout_485, rfl, rfl, rfl, rfl, rfl, rfl, rfl, hout_485, (HSub.trans hs446 hs486)⟩
  ·refine JC.cond_f (b := decide (x_444 < (y3.length : Int))) rfl hc449 ?_
   refine JC.exit (JQ.exit_then (JQ.exit_then (JQ.exit_block ?_)))
   obtain rfl := Option.some.inj hF
   have ehr447 := hr447 _ rfl
   subst ehr447
   refine JQ.mask [false] [true] ?_
   exact JQ.join out_445 ⟨vout_445, xsout_445, rfl, rfl, rfl, hout_445, hs446, rfl⟩
 ·rintro out_299 H300 f bs gs ⟨vout_299, xsout_299, hf5, rfl, rfl, hout_299, hs300, rfl⟩
  have hF := hKr301
  try dsimp only at hF
  refine (JQ.norm (i := 5) hf5 ?_)
  refine JQ.go (JC.seq (JC.region (by rfl) ?_))
  intro hQ
  refine JL.move .none rfl ?_
  refine JL.assign .none rfl ?_
  refine JL.done hQ (JQ.go (JC.ret (JQ.freezeG 0 (R := R_Cell) rfl R_Cell_mono hout_299 rfl ?_)))
  intro H517 hs517 hg518
  obtain rfl := Option.some.inj hF
  exact JQ.outH rfl (.tmp .nil) hg518
end Go.Proofs.Ytflhjlgimihmgaa
end
section
set_option maxRecDepth 100000
set_option maxHeartbeats 40000000
namespace Go.Proofs.Ytflhjlgimihmgaa
open Go Go.RowKit Go.Dec
set_option linter.unusedVariables false
-- 26 ferrule/lays.Waste
def F_lays_Waste_s1 (n : Nat) (s : Lap) : Int × Int → Option ((Int × Int) ⊕ Int)
 | (all_71, x_72) => if decide (x_72 < (s.Panels.length : Int)) = true then ((geti s.Panels x_72).bind fun y77 => (F_lays_covered n y77 (Place.mk 0 0 0)).bind fun y83 => some (Sum.inl ((w64 (all_71 + (y83.length : Int))), (w64 (x_72 + 1))))) else (some (Sum.inr all_71))
def F_lays_Waste (n : Nat) (s : Lap) : Option (Span × Int) :=
 (F_lays_Least n s).bind fun y3 => if (y3.2 != 0) = true then (some ((Span.mk 0 0), y3.2)) else ((F_lays_Hopes n s).bind fun y5 => (loopO n (F_lays_Waste_s1 n s) (0, 0)).bind fun all_44 => some ((Span.mk (w64 ((w64 (s.Width * y5.1)) - all_44)) (w64 ((w64 (s.Width * y3.1)) - all_44))), 0))
theorem c_lays_Waste (n : Nat) (H : Hp) (s : Lap) (s_v2 : Value) (hs_2 : SL H 2 R_Cell s_v2 s.Faults) (s_v3 : Value) (hs_3 : SL H 2 R_Cell s_v3 s.Flaws) (s_v4 : Value) (hs_4 : SL H 1 R_Panel s_v4 s.Panels) (y : Span × Int) (hF : F_lays_Waste n s = some y) : SC Try.prog 26 [.agg [.int .i64 s.Width, .int .i64 s.Length, s_v2, s_v3, s_v4].toArray] (.tuple [.agg [.int .i64 y.1.Low, .int .i64 y.1.High].toArray, .int .i64 y.2].toArray) H := by
 rw [F_lays_Waste] at hF
 refine SC.of (N := 52) Try.func26 rfl rfl rfl fun w => ?_
 refine JC.seq (JC.region (by rfl) ?_)
 intro hQ
 refine JL.box (cs := [.int .i64 s.Width, .int .i64 s.Length, s_v2, s_v3, s_v4]) rfl .none rfl ?_
 intro b1
 refine JL.alloc ze_46 .none rfl ?_
 intro b2
 refine JL.assign .none rfl ?_
 refine JL.done hQ (JQ.go (JC.seq (JC.region (by rfl) ?_)))
 intro hQ
 refine JL.loadOwn 1 az_25 rfl rfl rfl .none rfl ?_
 obtain ⟨y3, hy3, hF⟩ := bind_some hF
 refine JL.callS (c_lays_Least n H s s_v2 hs_2 s_v3 hs_3 s_v4 hs_4 y3 hy3) rfl en_14 .none rfl ?_
 refine JL.move .none rfl ?_
 refine JL.extract rfl rfl .none rfl ?_
 refine JL.extract rfl rfl .none rfl ?_
 refine JL.assign .none rfl ?_
 refine JL.assign .none rfl ?_
 refine JL.done hQ (JQ.go (JC.seq (JC.seq (JC.region (by rfl) ?_))))
 intro hQ
 refine JL.move .none rfl ?_
 refine JL.bin rfl rfl rfl .none rfl ?_
 refine JL.done hQ (JQ.go ?_)
 rcases ite_some hF with ⟨hc4, hF⟩ | ⟨hc4, hF⟩
 ·refine JC.cond_t (b := (y3.2 != 0)) rfl hc4 ?_
  refine JC.seq (JC.region (by rfl) ?_)
  intro hQ
  refine JL.build (l := [.int .i64 0, .int .i64 0]) (by kernel_rfl) .none rfl ?_
  refine JL.move .none rfl ?_
  refine JL.storeOwn 0 (cs := [.int .i64 0, .int .i64 0]) az_46 rfl rfl rfl (one_cons rfl (one_cons rfl one_nil)) rfl rfl .none ?_
  refine JL.assign .none rfl ?_
  refine JL.done hQ (JQ.go (JC.fresh (fun f => f 2 = .pointer (some ⟨b2, 0, none⟩) ∧ f 3 = .int .i64 y3.2) ⟨rfl, rfl⟩ ?_))
  rintro f ⟨hf2, hf3⟩
  refine (JC.norm (i := 2) hf2 (JC.norm (i := 3) hf3 ?_))
  refine JC.ret (JQ.ret_then ?_)
  obtain rfl := Option.some.inj hF
  exact JQ.outS rfl (.cell 0 az_46 rfl rfl rfl (.tmp .nil)) rfl
 ·refine JC.cond_f (b := (y3.2 != 0)) rfl hc4 ?_
  refine JC.skip (JQ.go (JC.seq (JC.region (by rfl) ?_)))
  intro hQ
  refine JL.loadOwn 1 az_25 rfl rfl rfl .none rfl ?_
  obtain ⟨y5, hy5, hF⟩ := bind_some hF
  refine JL.callS (c_lays_Hopes n H s s_v2 hs_2 s_v3 hs_3 s_v4 hs_4 y5 hy5) rfl en_17 .none rfl ?_
  refine JL.move .none rfl ?_
  refine JL.extract rfl rfl .none rfl ?_
  refine JL.extract rfl rfl .none rfl ?_
  refine JL.assign .none rfl ?_
  refine JL.assign .none rfl ?_
  refine JL.done hQ (JQ.go (JC.fresh (fun f => f 1 = .pointer (some ⟨b1, 0, none⟩) ∧ f 2 = .pointer (some ⟨b2, 0, none⟩) ∧ f 3 = .int .i64 0 ∧ f 4 = .int .i64 y3.1 ∧ f 6 = .int .i64 y5.1) ⟨rfl, rfl, rfl, rfl, rfl⟩ ?_))
  rintro f ⟨hf1, hf2, hf3, hf4, hf6⟩
  refine (JC.norm (i := 1) hf1 (JC.norm (i := 2) hf2 (JC.norm (i := 3) hf3 (JC.norm (i := 4) hf4 (JC.norm (i := 6) hf6 ?_)))))
  refine JC.seq (JC.region (by rfl) ?_)
  intro hQ
  refine JL.assign .none rfl ?_
  refine JL.done hQ (JQ.go (JC.seq (JC.seq (JC.region (by rfl) ?_))))
  intro hQ
  refine JL.fieldAddr fo_25_4 rfl .none rfl ?_
  refine JL.loadOwn 1 az_23 rfl rfl rfl .none rfl ?_
  refine JL.lenSL (R := R_Panel) ul_23 hs_4 .none rfl ?_
  refine JL.move .none rfl ?_
  refine JL.done hQ (JQ.go ?_)
  obtain ⟨r46, hlr46, hKr46⟩ := bind_some hF
  refine JC.join (fun (all_44 : Int) H45 f bs gs => f 1 = .pointer (some ⟨b1, 0, none⟩) ∧ f 2 = .pointer (some ⟨b2, 0, none⟩) ∧ f 4 = .int .i64 y3.1 ∧ f 6 = .int .i64 y5.1 ∧ f 8 = .int .i64 all_44 ∧ bs = [(b2, .cells [.int .i64 0, .int .i64 0].toArray 46), (b1, .cells [.int .i64 s.Width, .int .i64 s.Length, s_v2, s_v3, s_v4].toArray 25)] ∧ gs = [] ∧ HSub H H45 ∧ all_44 = r46) ?_ ?_
  ·skip
   refine JC.block (JC.loop hlr46 (fun (x : Int × Int) H73 f bs gs => match x with | (all_71, x_72) => f 1 = .pointer (some ⟨b1, 0, none⟩) ∧ f 2 = .pointer (some ⟨b2, 0, none⟩) ∧ f 4 = .int .i64 y3.1 ∧ f 6 = .int .i64 y5.1 ∧ f 8 = .int .i64 all_71 ∧ f 26 = s_v4 ∧ f 27 = .int .i64 (s.Panels.length : Int) ∧ f 28 = .int .i64 x_72 ∧ bs = [(b2, .cells [.int .i64 0, .int .i64 0].toArray 46), (b1, .cells [.int .i64 s.Width, .int .i64 s.Length, s_v2, s_v3, s_v4].toArray 25)] ∧ gs = [] ∧ HSub H H73) ⟨rfl, rfl, rfl, rfl, rfl, rfl, rfl, rfl, rfl, rfl, (HSub.refl _)⟩ ?_)
   rintro ⟨all_71, x_72⟩ x75 H73 f bs gs ⟨hf1, hf2, hf4, hf6, hf8, hf26, hf27, hf28, rfl, rfl, hs73⟩ hF hr74
   rw [F_lays_Waste_s1] at hF
   refine (JC.norm (i := 1) hf1 (JC.norm (i := 2) hf2 (JC.norm (i := 4) hf4 (JC.norm (i := 6) hf6 (JC.norm (i := 8) hf8 (JC.norm (i := 26) hf26 (JC.norm (i := 27) hf27 (JC.norm (i := 28) hf28 ?_))))))))
   refine JC.seq (JC.region (by rfl) ?_)
   intro hQ
   refine JL.bin rfl rfl rfl .none rfl ?_
   refine JL.done hQ (JQ.go (JC.seq ?_))
   rcases ite_some hF with ⟨hc76, hF⟩ | ⟨hc76, hF⟩
   ·refine JC.cond_t (b := decide (x_72 < (s.Panels.length : Int))) rfl hc76 ?_
    refine JC.skip (JQ.go (JC.seq (JC.block (JC.seq (JC.region (by rfl) ?_)))))
    intro hQ
    obtain ⟨y77, hy77, hF⟩ := bind_some hF
    refine JL.indexSL (R := R_Panel) sl_23 (SL.mono R_Panel_mono hs73 hs_4) rfl hy77 .none rfl ?_
    rintro b78 o79 cs80 hc81 - ⟨y77_v0, rfl, hy77_0⟩
    refine JL.loadH 0 az_30 rfl hc81 rfl .none rfl ?_
    refine JL.alloc ze_30 .none rfl ?_
    intro b82
    refine JL.storeOwn 0 (cs := [y77_v0]) az_30 rfl rfl rfl (one_cons (SL.one hy77_0) one_nil) rfl rfl .none ?_
    refine JL.done hQ (JQ.go (JC.region (by rfl) ?_))
    intro hQ
    refine JL.move .none rfl ?_
    refine JL.loadOwn 0 az_30 rfl rfl rfl .none rfl ?_
    refine JL.build (l := [.int .i64 0, .int .i64 0, .int .i64 0]) (by kernel_rfl) .none rfl ?_
    obtain ⟨y83, hy83, hF⟩ := bind_some hF
    refine JL.callH (c_lays_covered n H73 y77 y77_v0 hy77_0 (Place.mk 0 0 0) y83 hy83) rfl en_54 .none rfl ?_
    intro H84 y83a_v0 hs84 hy83a_0
    refine JL.lenSL (R := R_Cell) ul_22 hy83a_0 .none rfl ?_
    refine JL.bin rfl rfl rfl .none rfl ?_
    refine JL.assign .none rfl ?_
    refine JL.done hQ (JQ.normal_block (JQ.go (JC.fresh (fun f => f 1 = .pointer (some ⟨b1, 0, none⟩) ∧ f 2 = .pointer (some ⟨b2, 0, none⟩) ∧ f 4 = .int .i64 y3.1 ∧ f 6 = .int .i64 y5.1 ∧ f 8 = .int .i64 (w64 (all_71 + (y83.length : Int))) ∧ f 26 = s_v4 ∧ f 27 = .int .i64 (s.Panels.length : Int) ∧ f 28 = .int .i64 x_72) ⟨rfl, rfl, rfl, rfl, rfl, rfl, rfl, rfl⟩ ?_)))
    rintro f ⟨hf1, hf2, hf4, hf6, hf8, hf26, hf27, hf28⟩
    refine (JC.norm (i := 1) hf1 (JC.norm (i := 2) hf2 (JC.norm (i := 4) hf4 (JC.norm (i := 6) hf6 (JC.norm (i := 8) hf8 (JC.norm (i := 26) hf26 (JC.norm (i := 27) hf27 (JC.norm (i := 28) hf28 ?_))))))))
    refine JC.region (by rfl) ?_
    intro hQ
    refine JL.bin rfl rfl rfl .none rfl ?_
    refine JL.move .none rfl ?_
    refine JL.done hQ ?_
    obtain rfl := Option.some.inj hF
    refine JQ.mask [false, true, true] [] ?_
    exact JQ.next rfl ⟨rfl, rfl, rfl, rfl, rfl, rfl, rfl, rfl, rfl, rfl, (HSub.trans hs73 hs84)⟩
   ·refine JC.cond_f (b := decide (x_72 < (s.Panels.length : Int))) rfl hc76 ?_
    refine JC.exit (JQ.exit_then (JQ.exit_then (JQ.exit_block ?_)))
    obtain rfl := Option.some.inj hF
    have ehr74 := hr74 _ rfl
    subst ehr74
    exact JQ.join all_71 ⟨rfl, rfl, rfl, rfl, rfl, rfl, rfl, hs73, rfl⟩
  ·rintro all_44 H45 f bs gs ⟨hf1, hf2, hf4, hf6, hf8, rfl, rfl, hs45, rfl⟩
   have hF := hKr46
   try dsimp only at hF
   refine (JQ.norm (i := 1) hf1 (JQ.norm (i := 2) hf2 (JQ.norm (i := 4) hf4 (JQ.norm (i := 6) hf6 (JQ.norm (i := 8) hf8 ?_)))))
   refine JQ.go (JC.seq (JC.region (by rfl) ?_))
   intro hQ
   refine JL.fieldAddr fo_25_0 rfl .none rfl ?_
   refine JL.loadOwn 1 az_3 rfl rfl rfl .none rfl ?_
   refine JL.move .none rfl ?_
   refine JL.bin rfl rfl rfl .none rfl ?_
   refine JL.move .none rfl ?_
   refine JL.bin rfl rfl rfl .none rfl ?_
   refine JL.fieldAddr fo_25_0 rfl .none rfl ?_
   refine JL.loadOwn 1 az_3 rfl rfl rfl .none rfl ?_
   refine JL.move .none rfl ?_
   refine JL.bin rfl rfl rfl .none rfl ?_
   refine JL.move .none rfl ?_
   refine JL.bin rfl rfl rfl .none rfl ?_
   refine JL.build (l := [.int .i64 (w64 ((w64 (s.Width * y5.1)) - all_44)), .int .i64 (w64 ((w64 (s.Width * y3.1)) - all_44))]) (by kernel_rfl) .none rfl ?_
   refine JL.storeOwn 0 (cs := [.int .i64 (w64 ((w64 (s.Width * y5.1)) - all_44)), .int .i64 (w64 ((w64 (s.Width * y3.1)) - all_44))]) az_46 rfl rfl rfl (one_cons rfl (one_cons rfl one_nil)) rfl rfl .none ?_
   refine JL.assign .none rfl ?_
   refine JL.done hQ (JQ.go (JC.fresh (fun f => f 2 = .pointer (some ⟨b2, 0, none⟩) ∧ f 3 = .int .i64 0) ⟨rfl, rfl⟩ ?_))
   rintro f ⟨hf2, hf3⟩
   refine (JC.norm (i := 2) hf2 (JC.norm (i := 3) hf3 ?_))
   refine JC.ret ?_
   obtain rfl := Option.some.inj hF
   exact JQ.outS rfl (.cell 0 az_46 rfl rfl rfl (.tmp .nil)) rfl
-- 65 ferrule/lays.isPlace
-- 35 ferrule/lays.Cells
-- 36 ferrule/ferruleref03.Cells
-- 76 slices.IndexFunc[[]ferrule/api.Place,ferrule/api.Place]
-- 66 slices.ContainsFunc[[]ferrule/api.Place,ferrule/api.Place]
-- 67 ferrule/lays.Needs$1
end Go.Proofs.Ytflhjlgimihmgaa
end
section
namespace Go.Dec
theorem w64_nat {i : Nat} (h : i ≤ 4611686018427387904) : w64 ((i : Int) + 1) = ((i + 1 : Nat) : Int) := by
  rw [w64_id] <;> omega
theorem lim_ok {α : Type} {l : List α} (h : l.length ≤ 4294967296) : lim l = some l := by simp [lim, h]
section
variable {S R : Type} {step : S → Option (S ⊕ R)}
theorem loopO_succ {n : Nat} {s : S} : loopO (n + 1) step s = (match step s with | none => none | some (.inl s') => loopO n step s' | some (.inr r) => some r) := by
  rw [loopO]; rcases step s with _ | (_ | _) <;> rfl
theorem loop_done {n : Nat} {s : S} {r : R} (h : step s = some (.inr r)) (hn : 0 < n) : loopO n step s = some r := by
  obtain ⟨m, rfl⟩ : ∃ k, n = k + 1 := ⟨n - 1, by omega⟩
  rw [loopO_succ, h]
/-- a loop that folds a list; I: what is so of the state before round i -/
theorem loop_fold {α β : Type} (l : List α) (enc : Nat → β → S) (g : β → α → β) (fin : β → R) (I : Nat → β → Prop) {n : Nat} (b0 : β) (h0 : I 0 b0)
    (h : ∀ i x b, l[i]? = some x → I i b → step (enc i b) = some (.inl (enc (i + 1) (g b x))) ∧ I (i + 1) (g b x))
    (hd : ∀ b, I l.length b → step (enc l.length b) = some (.inr (fin b))) (hn : l.length < n) : loopO n step (enc 0 b0) = some (fin (l.foldl g b0)) ∧ I l.length (l.foldl g b0) := by
  have key : ∀ (k i : Nat) (b : β) (n : Nat), i + k = l.length → I i b → k < n → loopO n step (enc i b) = some (fin ((l.drop i).foldl g b)) ∧ I l.length ((l.drop i).foldl g b) := by
    intro k
    induction k with
    | zero =>
      intro i b n hi hI hn
      have e : i = l.length := by omega
      subst e
      rw [List.drop_length]
      exact ⟨loop_done (hd b hI) hn, hI⟩
    | succ k ih =>
      intro i b n hi hI hn
      obtain ⟨m, rfl⟩ : ∃ k, n = k + 1 := ⟨n - 1, by omega⟩
      have hlt : i < l.length := by omega
      obtain ⟨h1, h2⟩ := h i l[i] b (List.getElem?_eq_getElem hlt) hI
      rw [loopO_succ, h1, List.drop_eq_getElem_cons hlt, List.foldl_cons]
      exact ih (i + 1) _ m (by omega) h2 (by omega)
  have := key l.length 0 b0 n (by omega) h0 hn
  rwa [List.drop_zero] at this
/-- a search by index -/
theorem loop_all {ρ : Type} {step : Int → Option (Int ⊕ (ρ ⊕ Unit))} (k : Nat) (p : Nat → Bool) (r : ρ) {n : Nat} (hk : k ≤ 4611686018427387904)
    (h : ∀ i, i < k → step (i : Int) = some (bif p i then .inl ((i + 1 : Nat) : Int) else .inr (.inl r))) (hd : step (k : Int) = some (.inr (.inr ()))) (hn : k < n) :
    loopO n step 0 = some (bif (List.range k).all p then .inr () else .inl r) := by
  have key : ∀ (m i n : Nat), i + m = k → m < n → loopO n step (i : Int) = some (bif (List.range' i m).all p then .inr () else .inl r) := by
    intro m
    induction m with
    | zero => intro i n hi hn; have : i = k := by omega
              subst this; rw [loop_done hd (by omega)]; simp
    | succ m ih =>
      intro i n hi hn
      obtain ⟨m', rfl⟩ : ∃ k, n = k + 1 := ⟨n - 1, by omega⟩
      rw [loopO_succ, h i (by omega), List.range'_succ, List.all_cons]
      cases hp : p i with
      | false => simp
      | true => simp only [cond_true, Bool.true_and]; exact ih (i + 1) m' (by omega) (by omega)
  have := key k 0 n (by omega) hn
  rw [List.range_eq_range']
  exact this
/-- a search in a list -/
theorem loop_all_l {α ρ : Type} {step : Int → Option (Int ⊕ (ρ ⊕ Unit))} (l : List α) (p : α → Bool) (r : ρ) {n : Nat} (hk : l.length ≤ 4611686018427387904)
    (h : ∀ i x, l[i]? = some x → i < l.length → step (i : Int) = some (bif p x then .inl ((i + 1 : Nat) : Int) else .inr (.inl r))) (hd : step (l.length : Int) = some (.inr (.inr ()))) (hn : l.length < n) :
    loopO n step 0 = some (bif l.all p then .inr () else .inl r) := by
  have := loop_all l.length (fun i => match l[i]? with | some x => p x | none => true) r hk (fun i hi => by
    rw [h i l[i] (List.getElem?_eq_getElem hi) hi]; simp [hi]) hd hn
  rw [this]
  have e : (List.range l.length).all (fun i => match l[i]? with | some x => p x | none => true) = l.all p := by
    rw [Bool.eq_iff_iff]
    simp only [List.all_eq_true, List.mem_range]
    constructor
    · intro h x hx
      obtain ⟨i, hi⟩ := List.mem_iff_getElem?.1 hx
      have := h i (List.getElem?_eq_some_iff.1 hi).1
      simpa [hi] using this
    · intro h i hi
      simpa [hi] using h _ (List.getElem_mem hi)
  rw [e]
end
theorem foldl_append_map {α β : Type} (f : α → β) : ∀ (l : List α) (out : List β), l.foldl (fun o x => o ++ [f x]) out = out ++ l.map f
  | [], out => by simp
  | a :: l, out => by rw [List.foldl_cons, foldl_append_map f l]; simp
end Go.Dec
end
section
namespace Go.Dec
def span (a b : Int) : List Int := (List.range (b + 1 - a).toNat).map fun j : Nat => a + j
theorem span_mem' {a b x : Int} : x ∈ span a b ↔ a ≤ x ∧ x ≤ b := by
  simp only [span, List.mem_map, List.mem_range]
  constructor
  · rintro ⟨j, h, rfl⟩; omega
  · intro h; exact ⟨(x - a).toNat, by omega, by omega⟩
theorem span_len (a b : Int) : (span a b).length = (b + 1 - a).toNat := by simp [span]
theorem span_nil {a b : Int} (h : b < a) : span a b = [] := by
  have : (b + 1 - a).toNat = 0 := by omega
  simp [span, this]
theorem span_cons {a b : Int} (h : a ≤ b) : span a b = a :: span (a + 1) b := by
  have : (b + 1 - a).toNat = (b + 1 - (a + 1)).toNat + 1 := by omega
  unfold span
  rw [this, List.range_succ_eq_map, List.map_cons, List.map_map]
  simp only [Int.natCast_zero, Int.add_zero]
  congr 1
  apply List.map_congr_left
  intro j _
  simp only [Function.comp]
  omega
theorem mul_in {x y A C : Int} (h1 : 0 ≤ x) (h2 : x ≤ A) (h3 : 0 ≤ y) (h4 : y ≤ C) : 0 ≤ x * y ∧ x * y ≤ A * C := by
  refine ⟨Int.mul_nonneg h1 h3, ?_⟩
  have a := Int.mul_le_mul_of_nonneg_right h2 h3
  have b := Int.mul_le_mul_of_nonneg_left h4 (show 0 ≤ A by omega)
  omega
end Go.Dec
end
section
namespace Go.Dec
def expand (m : Mp) : List (List Int) := m.flatMap fun p => List.replicate p.2.toNat p.1
/-- the map counts the list's members -/
structure RM (L : List (List Int)) (m : Mp) : Prop where
  srt : Srt m
  pos : ∀ p ∈ m, 0 < p.2
  perm : (expand m).Perm L
theorem mget_cons {p : List Int × Int} {r : Mp} {k : List Int} : mget (p :: r) k = if p.1 = k then p.2 else mget r k := by
  unfold mget
  rw [List.find?_cons]
  by_cases h : p.1 = k
  · have : (p.1 == k) = true := by simpa using h
    rw [this, if_pos h]
  · have : (p.1 == k) = false := by simpa using h
    rw [this, if_neg h]
theorem mget_nil {k : List Int} : mget [] k = 0 := rfl
theorem expand_cons (p : List Int × Int) (r : Mp) : expand (p :: r) = List.replicate p.2.toNat p.1 ++ expand r := by simp [expand]
theorem mget_nonneg {m : Mp} (hp : ∀ p ∈ m, 0 < p.2) (k : List Int) : 0 ≤ mget m k := by
  induction m with
  | nil => simp [mget_nil]
  | cons p r ih =>
    rw [mget_cons]
    split
    · have := hp p (List.mem_cons_self ..); omega
    · exact ih fun q hq => hp q (List.mem_cons_of_mem _ hq)
theorem expand_mput {k : List Int} {c : Int} (hc : 0 < c) : ∀ {m : Mp}, Srt m → (∀ p ∈ m, 0 < p.2) → (expand (mput m k (mget m k + c))).Perm (expand m ++ List.replicate c.toNat k)
  | [], _, _ => by simp [mput, mget_nil, expand]
  | p :: r, hs, hp => by
    obtain ⟨h1, h2⟩ := List.pairwise_cons.1 hs
    have hp' : ∀ q ∈ r, 0 < q.2 := fun q hq => hp q (List.mem_cons_of_mem _ hq)
    have hpp := hp p (List.mem_cons_self ..)
    rw [mget_cons]
    unfold mput
    by_cases e : p.1 = k
    · rw [if_pos e, if_pos (by simpa using e), expand_cons, expand_cons]
      simp only
      have e1 : (p.2 + c).toNat = p.2.toNat + c.toNat := by omega
      rw [e1, ← List.replicate_append_replicate, e]
      rw [List.append_assoc, List.append_assoc]
      exact List.Perm.append_left _ List.perm_append_comm
    · rw [if_neg e, if_neg (by simpa using e)]
      by_cases hl : klt k p.1 = true
      · rw [if_pos hl]
        have h0 : mget r k = 0 := mget_of_not fun q hq e2 => by
          have := klt_trans hl (h1 q hq)
          rw [e2, klt_irrefl] at this
          cases this
        rw [h0, expand_cons, Int.zero_add]
        exact List.perm_append_comm
      · rw [if_neg hl, expand_cons, expand_cons, List.append_assoc]
        exact List.Perm.append_left _ (expand_mput hc h2 hp')
theorem RM.nil : RM [] [] := ⟨List.Pairwise.nil, by simp, by simp [expand]⟩
theorem RM.add {L : List (List Int)} {m : Mp} (h : RM L m) (k : List Int) {c : Int} (hc : 0 < c) : RM (L ++ List.replicate c.toNat k) (mput m k (mget m k + c)) := by
  refine ⟨srt_mput h.srt, fun p hp => ?_, (expand_mput hc h.srt h.pos).trans (h.perm.append_right _)⟩
  rcases (mem_mput h.srt).1 hp with rfl | ⟨hp, _⟩
  · have := mget_nonneg h.pos k; simp only; omega
  · exact h.pos p hp
theorem mget_count {k : List Int} : ∀ {m : Mp}, Srt m → (∀ p ∈ m, 0 < p.2) → mget m k = ((expand m).count k : Nat)
  | [], _, _ => by simp [mget_nil, expand]
  | p :: r, hs, hp => by
    obtain ⟨h1, h2⟩ := List.pairwise_cons.1 hs
    have hp' : ∀ q ∈ r, 0 < q.2 := fun q hq => hp q (List.mem_cons_of_mem _ hq)
    have hpp := hp p (List.mem_cons_self ..)
    rw [mget_cons, expand_cons, List.count_append, List.count_replicate]
    have ih := mget_count (k := k) h2 hp'
    by_cases e : p.1 = k
    · rw [if_pos e, if_pos (by simpa using e)]
      have h0 : mget r k = 0 := mget_of_not fun q hq e2 => by
        have := h1 q hq
        rw [e2, ← e, klt_irrefl] at this
        cases this
      omega
    · rw [if_neg e, if_neg (by simpa using e)]
      omega
theorem RM.get {L : List (List Int)} {m : Mp} (h : RM L m) (k : List Int) : mget m k = (L.count k : Nat) := by
  rw [mget_count h.srt h.pos, h.perm.count_eq]
theorem RM.mem {L : List (List Int)} {m : Mp} (h : RM L m) {p : List Int × Int} : p ∈ m ↔ p.2 = (L.count p.1 : Nat) ∧ p.1 ∈ L := by
  constructor
  · intro hp
    have h1 := mget_of_mem h.srt (k := p.1) (v := p.2) hp
    rw [h.get] at h1
    refine ⟨h1.symm, ?_⟩
    have := h.pos p hp
    exact List.count_pos_iff.1 (by omega)
  · rintro ⟨h1, h2⟩
    have h3 : 0 < L.count p.1 := List.count_pos_iff.2 h2
    have h4 := h.get p.1
    unfold mget at h4
    cases hf : m.find? (fun q => q.1 == p.1) with
    | none => rw [hf] at h4; simp only at h4; omega
    | some q =>
      rw [hf] at h4
      simp only at h4
      have h5 := List.find?_some hf
      have e : q = p := by
        have : q.1 = p.1 := by simpa using h5
        exact Prod.ext this (by omega)
      rw [← e]
      exact List.mem_of_find?_eq_some hf
theorem RM.key {L : List (List Int)} {m : Mp} (h : RM L m) {x : List Int} : (∃ c, (x, c) ∈ m) ↔ x ∈ L :=
  ⟨fun ⟨_, hc⟩ => (h.mem.1 hc).2, fun hx => ⟨(L.count x : Nat), h.mem.2 ⟨rfl, hx⟩⟩⟩
theorem expand_filter (q : List Int → Bool) : ∀ (m : Mp), expand (m.filter fun p => q p.1) = (expand m).filter q
  | [] => by simp [expand]
  | p :: r => by
    rw [expand_cons, List.filter_append]
    cases hq : q p.1 with
    | true => rw [List.filter_cons_of_pos (p := fun p : List Int × Int => q p.1) hq, expand_cons, expand_filter q r, List.filter_replicate_of_pos hq]
    | false => rw [List.filter_cons_of_neg (p := fun p : List Int × Int => q p.1) (by simp [hq]), expand_filter q r, List.filter_replicate_of_neg (by simp [hq]), List.nil_append]
theorem RM.filter {L : List (List Int)} {m : Mp} (h : RM L m) (q : List Int → Bool) : RM (L.filter q) (m.filter fun p => q p.1) :=
  ⟨h.srt.filter _, fun p hp => h.pos p (List.mem_filter.1 hp).1, by rw [expand_filter]; exact h.perm.filter _⟩
end Go.Dec
end
section
namespace Go.Proofs.Ytflhjlgimihmgaa
open Go Go.RowKit Go.Dec
/-- a loop over a list that may be left early -/
theorem loop_list {S R α β : Type} {step : S → Option (S ⊕ R)} (l : List α) (enc : Nat → β → S) (I : Nat → β → Prop) (Post : R → Prop) {n : Nat} (b0 : β) (h0 : I 0 b0)
    (h : ∀ i x b, l[i]? = some x → I i b → (∃ b', step (enc i b) = some (.inl (enc (i + 1) b')) ∧ I (i + 1) b') ∨ (∃ r, step (enc i b) = some (.inr r) ∧ Post r))
    (hd : ∀ b, I l.length b → ∃ r, step (enc l.length b) = some (.inr r) ∧ Post r) (hn : l.length < n) : ∃ r, loopO n step (enc 0 b0) = some r ∧ Post r := by
  have key : ∀ (k i : Nat) (b : β) (n : Nat), i + k = l.length → I i b → k < n → ∃ r, loopO n step (enc i b) = some r ∧ Post r := by
    intro k
    induction k with
    | zero =>
      intro i b n hi hI hn
      have e : i = l.length := by omega
      subst e
      obtain ⟨r, hr, hp⟩ := hd b hI
      exact ⟨r, loop_done hr hn, hp⟩
    | succ k ih =>
      intro i b n hi hI hn
      obtain ⟨m, rfl⟩ : ∃ k, n = k + 1 := ⟨n - 1, by omega⟩
      have hlt : i < l.length := by omega
      rcases h i l[i] b (List.getElem?_eq_getElem hlt) hI with ⟨b', h1, h2⟩ | ⟨r, h1, h2⟩
      · rw [loopO_succ, h1]
        exact ih (i + 1) b' m (by omega) h2 (by omega)
      · exact ⟨r, by rw [loopO_succ, h1], h2⟩
  exact key l.length 0 b0 n (by omega) h0 hn
/-- .. over numbers -/
theorem loop_nats {S R β : Type} {step : S → Option (S ⊕ R)} (k : Nat) (enc : Nat → β → S) (I : Nat → β → Prop) (Post : R → Prop) {n : Nat} (b0 : β) (h0 : I 0 b0)
    (h : ∀ i b, i < k → I i b → (∃ b', step (enc i b) = some (.inl (enc (i + 1) b')) ∧ I (i + 1) b') ∨ (∃ r, step (enc i b) = some (.inr r) ∧ Post r))
    (hd : ∀ b, I k b → ∃ r, step (enc k b) = some (.inr r) ∧ Post r) (hn : k < n) : ∃ r, loopO n step (enc 0 b0) = some r ∧ Post r := by
  have := loop_list (step := step) (List.range k) enc I Post b0 h0 (fun i x b hx hI => h i b (by have := (List.getElem?_eq_some_iff.1 hx).1; simpa using this) hI) (fun b hI => by rw [List.length_range] at hI ⊢; exact hd b hI) (n := n) (by simpa using hn)
  exact this
theorem cell_ext {a b : Cell} (h1 : a.Row = b.Row) (h2 : a.Col = b.Col) : a = b := by
  obtain ⟨r, c⟩ := a; obtain ⟨r', c'⟩ := b; simp only at h1 h2; subst h1; subst h2; rfl
def cellE (a b : Cell) : Bool := a.Row == b.Row && a.Col == b.Col
theorem cellE_t {a b : Cell} : cellE a b = true ↔ a = b := by
  simp only [cellE, Bool.and_eq_true, beq_iff_eq]
  exact ⟨fun h => cell_ext h.1 h.2, fun h => by subst h; exact ⟨rfl, rfl⟩⟩
def inB (l : List Cell) (c : Cell) : Bool := l.any fun x => cellE x c
theorem inB_t {l : List Cell} {c : Cell} : inB l c = true ↔ c ∈ l := by
  simp only [inB, List.any_eq_true, cellE_t]
  exact ⟨fun ⟨x, h, e⟩ => e ▸ h, fun h => ⟨c, h, rfl⟩⟩
theorem inB_f {l : List Cell} {c : Cell} : inB l c = false ↔ c ∉ l := by rw [← inB_t]; cases inB l c <;> simp
section
variable {n : Nat}
theorem dlt (i : Nat) (k : Nat) : decide ((i : Int) < (k : Int)) = decide (i < k) := by simp
theorem p_within (x a b : Int) : F_ref03_within n x a b = some (decide (a ≤ x) && decide (x ≤ b)) := rfl
theorem p_lwithin (x a b : Int) : F_lays_within n x a b = some (decide (a ≤ x) && decide (x ≤ b)) := rfl
theorem p_In (hn : 1000000 ≤ n) (l : List Cell) (hl : l.length ≤ 10000) (c : Cell) : F_ref03_In n l c = some (inB l c) := by
  rw [F_ref03_In]
  have := loop_all_l (step := F_ref03_In_s1 n l c) l (fun x => !cellE x c) true (n := n) (by omega) (fun i x hx hi => by
    rw [F_ref03_In_s1, dlt, decide_eq_true hi, geti_nat, hx]
    simp only [if_true, Option.bind_some, w64_nat (show i ≤ 4611686018427387904 by omega), cellE]
    cases (x.Row == c.Row && x.Col == c.Col) <;> rfl) (by rw [F_ref03_In_s1, dlt]; simp) (by omega)
  rw [this]
  have e : inB l c = !(l.all fun x => !cellE x c) := by
    simp only [inB, List.any_eq_not_all_not]
  rw [e]
  cases l.all fun x => !cellE x c <;> rfl
def InC (s : Lap) (c : Cell) : Prop := (0 ≤ c.Row ∧ c.Row ≤ s.Length - 1) ∧ (0 ≤ c.Col ∧ c.Col ≤ s.Width - 1)
def cellB (s : Lap) (c : Cell) : Bool := (decide (0 ≤ c.Row) && decide (c.Row ≤ s.Length - 1)) && (decide (0 ≤ c.Col) && decide (c.Col ≤ s.Width - 1))
theorem cellB_t {s : Lap} {c : Cell} : cellB s c = true ↔ InC s c := by simp [cellB, InC]
def AreC (s : Lap) (l others : List Cell) : Prop := (∀ c ∈ l, InC s c ∧ c ∉ others) ∧ l.Nodup ∧ l.length ≤ 20
structure VPn (p : Panel) : Prop where
  n : 1 ≤ p.Rows.length ∧ p.Rows.length ≤ 4
  r : ∀ s ∈ p.Rows, 0 ≤ s.Low ∧ s.Low ≤ s.High ∧ s.High ≤ 7
  z : ∃ s ∈ p.Rows, s.Low = 0
structure VL (s : Lap) : Prop where
  w : 1 ≤ s.Width ∧ s.Width ≤ 8
  l : 1 ≤ s.Length ∧ s.Length ≤ 12
  fa : AreC s s.Faults []
  fl : AreC s s.Flaws s.Faults
  np : s.Panels.length ≤ 5
  p : ∀ p ∈ s.Panels, VPn p
/-- not far too much of anything -/
structure Small (s : Lap) : Prop where
  fa : s.Faults.length ≤ 40
  fl : s.Flaws.length ≤ 40
  np : s.Panels.length ≤ 20
  p : ∀ p ∈ s.Panels, p.Rows.length ≤ 20
theorem p_IsCell {s : Lap} (hl : 1 ≤ s.Length ∧ s.Length ≤ 12) (hw : 1 ≤ s.Width ∧ s.Width ≤ 8) (c : Cell) : F_ref03_IsCell n s c = some (cellB s c) := by
  rw [F_ref03_IsCell, p_within, p_within, w64_id (by omega) (by omega), w64_id (by omega) (by omega)]
  simp only [Option.bind_some, cellB]
  cases (decide (0 ≤ c.Row) && decide (c.Row ≤ s.Length - 1)) <;> rfl
theorem nodup_iff_take {α : Type} {l : List α} : l.Nodup ↔ ∀ i x, l[i]? = some x → x ∉ l.take i := by
  constructor
  · intro h i x hx hm
    obtain ⟨j, hj⟩ := List.mem_iff_getElem?.1 hm
    rw [List.getElem?_take] at hj
    split at hj
    · rename_i hlt
      obtain ⟨h1, h2⟩ := List.getElem?_eq_some_iff.1 hx
      obtain ⟨h3, h4⟩ := List.getElem?_eq_some_iff.1 hj
      exact List.pairwise_iff_getElem.1 h j i h3 h1 hlt (by rw [h4, h2])
    · cases hj
  · intro h
    refine List.pairwise_iff_getElem.2 fun i j hi hj hij e => ?_
    exact h j l[j] (List.getElem?_eq_getElem hj) (List.mem_iff_getElem?.2 ⟨i, by rw [List.getElem?_take, if_pos hij, List.getElem?_eq_getElem hi, e]⟩)
theorem p_areCells (hn : 1000000 ≤ n) {s : Lap} (hl : 1 ≤ s.Length ∧ s.Length ≤ 12) (hw : 1 ≤ s.Width ∧ s.Width ≤ 8) (l others : List Cell) (h1 : l.length ≤ 40) (h2 : others.length ≤ 40) :
    ∃ b, F_ref03_areCells n s l others = some b ∧ (b = true ↔ AreC s l others) := by
  rw [F_ref03_areCells]
  obtain ⟨r, hr, hp⟩ := loop_list (step := F_ref03_areCells_s1 n s l others) l (fun i (_ : Unit) => (i : Int)) (fun i _ => ∀ j x, j < i → l[j]? = some x → (InC s x ∧ x ∉ others) ∧ x ∉ l.take j)
    (fun r => match r with | .inl b => b = false ∧ ¬ AreC s l others | .inr _ => ∀ j x, l[j]? = some x → (InC s x ∧ x ∉ others) ∧ x ∉ l.take j) (n := n) () (by intro j x h; omega) (fun i x _ hx hI => by
      have hi := (List.getElem?_eq_some_iff.1 hx).1
      rw [F_ref03_areCells_s1, dlt, decide_eq_true hi, geti_nat, hx]
      have hslc : slc l 0 (i : Int) = some (l.take i) := by
        unfold slc; rw [if_pos ⟨by omega, by omega, by omega⟩]; simp
      simp only [if_true, Option.bind_some, p_IsCell hl hw, hslc, p_In hn (l.take i) (by rw [List.length_take]; omega), p_In hn others (by omega), w64_nat (show i ≤ 4611686018427387904 by omega)]
      by_cases hb : (InC s x ∧ x ∉ others) ∧ x ∉ l.take i
      · refine .inl ⟨(), ?_, fun j y hj hy => ?_⟩
        · rw [cellB_t.2 hb.1.1, inB_f.2 hb.1.2, inB_f.2 hb.2]; rfl
        · rcases Nat.lt_or_ge j i with h | h
          · exact hI j y h hy
          · obtain rfl : j = i := by omega
            rw [hx] at hy; cases hy; exact hb
      · refine .inr ⟨.inl false, ?_, rfl, fun hA => hb ⟨hA.1 x (List.mem_of_getElem? hx), nodup_iff_take.1 hA.2.1 i x hx⟩⟩
        cases h3 : cellB s x with
        | false => rfl
        | true =>
          cases h4 : inB (l.take i) x with
          | true => rfl
          | false =>
            cases h5 : inB others x with
            | true => rfl
            | false => exact absurd ⟨⟨cellB_t.1 h3, inB_f.1 h5⟩, inB_f.1 h4⟩ hb) (fun _ hI => by
      refine ⟨.inr (), by rw [F_ref03_areCells_s1, dlt]; simp, fun j x hx => hI j x (List.getElem?_eq_some_iff.1 hx).1 hx⟩) (by omega)
  rw [show ((0 : Int)) = ((0 : Nat) : Int) from rfl, hr]
  cases r with
  | inl b => exact ⟨b, rfl, by rw [hp.1]; simp; exact hp.2⟩
  | inr u =>
    refine ⟨_, rfl, ?_⟩
    rw [decide_eq_true_iff]
    constructor
    · intro h
      refine ⟨fun c hc => ?_, nodup_iff_take.2 fun i x hx => (hp i x hx).2, by omega⟩
      obtain ⟨i, hi⟩ := List.mem_iff_getElem?.1 hc
      exact (hp i c hi).1
    · intro h; have := h.2.2; omega
theorem p_isPanel (hn : 1000000 ≤ n) (p : Panel) (hp : p.Rows.length ≤ 20) : ∃ b, F_ref03_isPanel n p = some b ∧ (b = true ↔ VPn p) := by
  rw [F_ref03_isPanel]
  obtain ⟨r, hr, hpost⟩ := loop_list (step := F_ref03_isPanel_s1 n p) p.Rows (fun i (m : Int) => (m, (i : Int)))
    (fun i m => (∀ j x, j < i → p.Rows[j]? = some x → 0 ≤ x.Low ∧ x.Low ≤ x.High ∧ x.High ≤ 7) ∧ (0 ≤ m) ∧ (m = 0 ↔ ∃ j x, j < i ∧ p.Rows[j]? = some x ∧ x.Low = 0))
    (fun r => match r with | .inl b => b = false ∧ ¬ VPn p | .inr m => (∀ s ∈ p.Rows, 0 ≤ s.Low ∧ s.Low ≤ s.High ∧ s.High ≤ 7) ∧ (m = 0 ↔ ∃ s ∈ p.Rows, s.Low = 0)) (n := n) 8 ⟨by intro j x h; omega, by decide, by constructor <;> intro h; omega; obtain ⟨j, _, h, _⟩ := h; omega⟩ (fun i x m hx hI => by
      have hi := (List.getElem?_eq_some_iff.1 hx).1
      rw [F_ref03_isPanel_s1, dlt, decide_eq_true hi, geti_nat, hx]
      simp only [if_true, Option.bind_some, p_within, w64_nat (show i ≤ 4611686018427387904 by omega)]
      by_cases hb : 0 ≤ x.Low ∧ x.Low ≤ x.High ∧ x.High ≤ 7
      · refine .inl ⟨min m x.Low, ?_, fun j y hj hy => ?_, by omega, ?_⟩
        · rw [decide_eq_true hb.1, decide_eq_true hb.2.1, decide_eq_false (show ¬ 7 < x.High by omega)]; rfl
        · rcases Nat.lt_or_ge j i with h | h
          · exact hI.1 j y h hy
          · obtain rfl : j = i := by omega
            rw [hx] at hy; cases hy; exact hb
        · constructor
          · intro h
            by_cases hm : m = 0
            · obtain ⟨j, y, h1, h2, h3⟩ := hI.2.2.1 hm
              exact ⟨j, y, by omega, h2, h3⟩
            · exact ⟨i, x, by omega, hx, by have := hI.2.1; omega⟩
          · rintro ⟨j, y, h1, h2, h3⟩
            rcases Nat.lt_or_ge j i with h | h
            · have := hI.2.2.2 ⟨j, y, h, h2, h3⟩; omega
            · obtain rfl : j = i := by omega
              rw [hx] at h2; cases h2; have := hI.2.1; omega
      · refine .inr ⟨.inl false, ?_, rfl, fun hA => hb (hA.r x (List.mem_of_getElem? hx))⟩
        by_cases h1 : 0 ≤ x.Low
        · by_cases h2 : x.Low ≤ x.High
          · have h3 : 7 < x.High := by omega
            rw [decide_eq_true h1, decide_eq_true h2, decide_eq_true h3]; rfl
          · rw [decide_eq_true h1, decide_eq_false h2]; rfl
        · rw [decide_eq_false h1]; rfl) (fun m hI => by
      refine ⟨.inr m, by rw [F_ref03_isPanel_s1, dlt]; simp, fun s hs => ?_, hI.2.2.trans ?_⟩
      · obtain ⟨j, hj⟩ := List.mem_iff_getElem?.1 hs
        exact hI.1 j s (List.getElem?_eq_some_iff.1 hj).1 hj
      · constructor
        · rintro ⟨j, y, _, h2, h3⟩; exact ⟨y, List.mem_of_getElem? h2, h3⟩
        · rintro ⟨s, hs, h⟩
          obtain ⟨j, hj⟩ := List.mem_iff_getElem?.1 hs
          exact ⟨j, s, (List.getElem?_eq_some_iff.1 hj).1, hj, h⟩) (by omega)
  rw [show ((8 : Int), (0 : Int)) = ((8 : Int), ((0 : Nat) : Int)) from rfl, hr]
  cases r with
  | inl b => exact ⟨b, rfl, by rw [hpost.1]; simp; exact hpost.2⟩
  | inr m =>
    refine ⟨_, rfl, ?_⟩
    simp only [Bool.and_eq_true, decide_eq_true_iff, beq_iff_eq]
    constructor
    · rintro ⟨⟨h1, h2⟩, h3⟩
      exact ⟨⟨by omega, by omega⟩, hpost.1, hpost.2.1 h3⟩
    · intro h
      exact ⟨⟨by have := h.n.1; omega, by have := h.n.2; omega⟩, hpost.2.2 h.z⟩
theorem p_Check (hn : 1000000 ≤ n) (s : Lap) (hs : Small s) : ∃ v, F_ref03_Check n s = some v ∧ (v = 0 ∨ v = 30) ∧ (v = 0 ↔ VL s) := by
  rw [F_ref03_Check, p_within, p_within]
  simp only [Option.bind_some]
  by_cases hw : 1 ≤ s.Width ∧ s.Width ≤ 8
  · by_cases hl : 1 ≤ s.Length ∧ s.Length ≤ 12
    · rw [decide_eq_true hw.1, decide_eq_true hw.2, decide_eq_true hl.1, decide_eq_true hl.2]
      obtain ⟨b1, e1, q1⟩ := p_areCells hn hl hw s.Faults [] hs.fa (by simp)
      obtain ⟨b2, e2, q2⟩ := p_areCells hn hl hw s.Flaws s.Faults hs.fl hs.fa
      have bad : ∀ {P : Prop}, ¬ VL s → (∃ v, (some 30 : Option Int) = some v ∧ (v = 0 ∨ v = 30) ∧ (v = 0 ↔ VL s)) := fun h => ⟨30, rfl, .inr rfl, by simp; exact h⟩
      rw [e1, e2]
      cases b1 with
      | false => exact bad (P := True) fun h => by have := q1.2 h.fa; cases this
      | true =>
        cases b2 with
        | false => exact bad (P := True) fun h => by have := q2.2 h.fl; cases this
        | true =>
          simp only [Bool.and_self, Bool.not_true, Bool.false_eq_true, if_false, Option.bind_some, Bool.false_or, decide_eq_true_eq]
          by_cases hnp : 5 < (s.Panels.length : Int)
          · rw [if_pos hnp]; exact bad (P := True) fun h => by have := h.np; omega
          · rw [if_neg hnp]
            obtain ⟨r, hr, hp⟩ := loop_list (step := F_ref03_Check_s1 n s) s.Panels (fun i (_ : Unit) => (i : Int)) (fun i _ => ∀ j x, j < i → s.Panels[j]? = some x → VPn x)
              (fun r => match r with | .inl v => v = 30 ∧ ¬ VL s | .inr _ => ∀ p ∈ s.Panels, VPn p) (n := n) () (by intro j x h; omega) (fun i x _ hx hI => by
                have hi := (List.getElem?_eq_some_iff.1 hx).1
                obtain ⟨b, e, q⟩ := p_isPanel hn x (hs.p x (List.mem_of_getElem? hx))
                rw [F_ref03_Check_s1, dlt, decide_eq_true hi, geti_nat, hx]
                simp only [if_true, Option.bind_some, e, w64_nat (show i ≤ 4611686018427387904 by omega)]
                cases b with
                | true =>
                  refine .inl ⟨(), rfl, fun j y hj hy => ?_⟩
                  rcases Nat.lt_or_ge j i with h | h
                  · exact hI j y h hy
                  · obtain rfl : j = i := by omega
                    rw [hx] at hy; cases hy; exact q.1 rfl
                | false => exact .inr ⟨.inl 30, rfl, rfl, fun h => by have := q.2 (h.p x (List.mem_of_getElem? hx)); cases this⟩) (fun _ hI => by
                refine ⟨.inr (), by rw [F_ref03_Check_s1, dlt]; simp, fun p hp => ?_⟩
                obtain ⟨j, hj⟩ := List.mem_iff_getElem?.1 hp
                exact hI j p (List.getElem?_eq_some_iff.1 hj).1 hj) (by have := hs.np; omega)
            rw [show ((0 : Int)) = ((0 : Nat) : Int) from rfl, hr]
            cases r with
            | inl v => exact ⟨v, rfl, .inr hp.1, by rw [hp.1]; simp; exact hp.2⟩
            | inr u => exact ⟨0, rfl, .inl rfl, iff_of_true rfl ⟨hw, hl, q1.1 rfl, q2.1 rfl, by omega, hp⟩⟩
    · refine ⟨30, ?_, .inr rfl, by simp; exact fun h => hl h.l⟩
      rw [decide_eq_true hw.1, decide_eq_true hw.2]
      by_cases h1 : 1 ≤ s.Length
      · rw [decide_eq_true h1, decide_eq_false (show ¬ s.Length ≤ 12 by omega)]; rfl
      · rw [decide_eq_false h1]; rfl
  · refine ⟨30, ?_, .inr rfl, by simp; exact fun h => hw h.w⟩
    by_cases h1 : 1 ≤ s.Width
    · rw [decide_eq_true h1, decide_eq_false (show ¬ s.Width ≤ 8 by omega)]; rfl
    · rw [decide_eq_false h1]; rfl
end
end Go.Proofs.Ytflhjlgimihmgaa
end
