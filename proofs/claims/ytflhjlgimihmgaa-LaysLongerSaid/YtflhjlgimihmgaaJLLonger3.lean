/-
  A part of the proof of LLonger: the texts GenK1, GenK2.
-/
import Derived.Test.YtflhjlgimihmgaaJLLonger2
section
set_option maxRecDepth 100000
set_option maxHeartbeats 40000000
namespace Go.Proofs.Ytflhjlgimihmgaa
open Go Go.RowKit Go.Dec
set_option linter.unusedVariables false
-- 27 ferrule/ferrulelaw03.Far
def F_law03_Far_s1 (n : Nat) (s : Lap) : Int → Option (Int ⊕ (Bool ⊕ Unit))
 | i_56 => if decide (i_56 < (s.Panels.length : Int)) = true then ((geti s.Panels i_56).bind fun y61 => if decide (20 < (y61.Rows.length : Int)) = true then (some (Sum.inr (Sum.inl true))) else (some (Sum.inl (w64 (i_56 + 1))))) else (some (Sum.inr (Sum.inr ())))
def F_law03_Far (n : Nat) (s : Lap) : Option Bool :=
 if (((decide (40 < (s.Faults.length : Int))) || (decide (40 < (s.Flaws.length : Int)))) || (decide (20 < (s.Panels.length : Int)))) = true then (some true) else ((loopO n (F_law03_Far_s1 n s) 0).bind fun r37 => match r37 with | .inl o => some o | .inr _ => (F_ref03_Check n s).bind fun y67 => some ((y67 == 0) && ((((decide (5 < s.Width)) || (decide (6 < s.Length))) || (decide (3 < (s.Panels.length : Int)))) || (decide (3 < (s.Flaws.length : Int))))))
theorem c_law03_Far (n : Nat) (H : Hp) (s : Lap) (s_v2 : Value) (hs_2 : SL H 2 R_Cell s_v2 s.Faults) (s_v3 : Value) (hs_3 : SL H 2 R_Cell s_v3 s.Flaws) (s_v4 : Value) (hs_4 : SL H 1 R_Panel s_v4 s.Panels) (y : Bool) (hF : F_law03_Far n s = some y) : SC Try.prog 27 [.agg [.int .i64 s.Width, .int .i64 s.Length, s_v2, s_v3, s_v4].toArray] (.bool y) H := by
 rw [F_law03_Far] at hF
 refine SC.of (N := 60) Try.func27 rfl rfl rfl fun w => ?_
 refine JC.seq (JC.region (by rfl) ?_)
 intro hQ
 refine JL.box (cs := [.int .i64 s.Width, .int .i64 s.Length, s_v2, s_v3, s_v4]) rfl .none rfl ?_
 intro b1
 refine JL.assign .none rfl ?_
 refine JL.done hQ (JQ.go (JC.seq (JC.seq (JC.region (by rfl) ?_))))
 intro hQ
 refine JL.fieldAddr fo_25_2 rfl .none rfl ?_
 refine JL.loadOwn 0 az_22 rfl rfl rfl .none rfl ?_
 refine JL.lenSL (R := R_Cell) ul_22 hs_2 .none rfl ?_
 refine JL.bin rfl rfl rfl .none rfl ?_
 refine JL.move .none rfl ?_
 refine JL.cut 5 (fun f => f 1 = .pointer (some ⟨b1, 0, none⟩) ∧ f 13 = .bool ((decide (40 < (s.Faults.length : Int))) || (decide (40 < (s.Flaws.length : Int))))) ?_ ?_
 ·intro hJ2
  rcases bcases (decide (40 < (s.Faults.length : Int))) with hc3 | hc3
  ·skip
   refine JL.skip (.bool rfl rfl rfl hc3) rfl ?_
   refine JL.skip (.bool rfl rfl rfl hc3) rfl ?_
   refine JL.skip (.bool rfl rfl rfl hc3) rfl ?_
   refine JL.skip (.bool rfl rfl rfl hc3) rfl ?_
   refine JL.pick_t (b := decide (40 < (s.Faults.length : Int))) rfl hc3 .none rfl ?_
   exact hJ2 _ ⟨rfl, or_t hc3 rfl⟩
  ·skip
   refine JL.fieldAddr fo_25_3 rfl (.some rfl rfl rfl hc3) rfl ?_
   refine JL.loadOwn 0 az_22 rfl rfl rfl (.some rfl rfl rfl hc3) rfl ?_
   refine JL.lenSL (R := R_Cell) ul_22 hs_3 (.some rfl rfl rfl hc3) rfl ?_
   refine JL.bin rfl rfl rfl (.some rfl rfl rfl hc3) rfl ?_
   refine JL.pick_f (b := decide (40 < (s.Faults.length : Int))) rfl hc3 .none rfl ?_
   exact hJ2 _ ⟨rfl, or_f hc3 rfl⟩
 ·rintro f ⟨hf1, hf13⟩
  refine (JL.norm (i := 1) hf1 (JL.norm (i := 13) hf13 ?_))
  refine JL.move .none rfl ?_
  refine JL.cut 5 (fun f => f 1 = .pointer (some ⟨b1, 0, none⟩) ∧ f 19 = .bool (((decide (40 < (s.Faults.length : Int))) || (decide (40 < (s.Flaws.length : Int)))) || (decide (20 < (s.Panels.length : Int))))) ?_ ?_
  ·intro hJ4
   rcases bcases ((decide (40 < (s.Faults.length : Int))) || (decide (40 < (s.Flaws.length : Int)))) with hc5 | hc5
   ·skip
    refine JL.skip (.bool rfl rfl rfl hc5) rfl ?_
    refine JL.skip (.bool rfl rfl rfl hc5) rfl ?_
    refine JL.skip (.bool rfl rfl rfl hc5) rfl ?_
    refine JL.skip (.bool rfl rfl rfl hc5) rfl ?_
    refine JL.pick_t (b := ((decide (40 < (s.Faults.length : Int))) || (decide (40 < (s.Flaws.length : Int))))) rfl hc5 .none rfl ?_
    exact hJ4 _ ⟨rfl, or_t hc5 rfl⟩
   ·skip
    refine JL.fieldAddr fo_25_4 rfl (.some rfl rfl rfl hc5) rfl ?_
    refine JL.loadOwn 0 az_23 rfl rfl rfl (.some rfl rfl rfl hc5) rfl ?_
    refine JL.lenSL (R := R_Panel) ul_23 hs_4 (.some rfl rfl rfl hc5) rfl ?_
    refine JL.bin rfl rfl rfl (.some rfl rfl rfl hc5) rfl ?_
    refine JL.pick_f (b := ((decide (40 < (s.Faults.length : Int))) || (decide (40 < (s.Flaws.length : Int))))) rfl hc5 .none rfl ?_
    exact hJ4 _ ⟨rfl, or_f hc5 rfl⟩
  ·rintro f ⟨hf1, hf19⟩
   refine (JL.norm (i := 1) hf1 (JL.norm (i := 19) hf19 ?_))
   refine JL.done hQ (JQ.go ?_)
   rcases ite_some hF with ⟨hc6, hF⟩ | ⟨hc6, hF⟩
   ·refine JC.cond_t (b := (((decide (40 < (s.Faults.length : Int))) || (decide (40 < (s.Flaws.length : Int)))) || (decide (20 < (s.Panels.length : Int))))) rfl hc6 ?_
    refine JC.seq (JC.region (by rfl) ?_)
    intro hQ
    refine JL.assign .none rfl ?_
    refine JL.done hQ (JQ.go (JC.ret (JQ.ret_then ?_)))
    obtain rfl := Option.some.inj hF
    exact JQ.outS rfl (.tmp .nil) rfl
   ·refine JC.cond_f (b := (((decide (40 < (s.Faults.length : Int))) || (decide (40 < (s.Flaws.length : Int)))) || (decide (20 < (s.Panels.length : Int))))) rfl hc6 ?_
    refine JC.skip (JQ.go (JC.seq (JC.seq (JC.region (by rfl) ?_))))
    intro hQ
    refine JL.assign .none rfl ?_
    refine JL.done hQ (JQ.go ?_)
    obtain ⟨r37, hlr37, hKr37⟩ := bind_some hF
    refine JC.join (fun (_ : Unit) H36 f bs gs => f 1 = .pointer (some ⟨b1, 0, none⟩) ∧ bs = [(b1, .cells [.int .i64 s.Width, .int .i64 s.Length, s_v2, s_v3, s_v4].toArray 25)] ∧ gs = [] ∧ HSub H H36 ∧ Sum.inr () = r37) ?_ ?_
    ·skip
     refine JC.block (JC.loop hlr37 (fun (i_56 : Int) H57 f bs gs => f 1 = .pointer (some ⟨b1, 0, none⟩) ∧ f 3 = .int .i64 i_56 ∧ bs = [(b1, .cells [.int .i64 s.Width, .int .i64 s.Length, s_v2, s_v3, s_v4].toArray 25)] ∧ gs = [] ∧ HSub H H57) ⟨rfl, rfl, rfl, rfl, (HSub.refl _)⟩ ?_)
     rintro i_56 x59 H57 f bs gs ⟨hf1, hf3, rfl, rfl, hs57⟩ hF hr58
     rw [F_law03_Far_s1] at hF
     refine (JC.norm (i := 1) hf1 (JC.norm (i := 3) hf3 ?_))
     refine JC.seq (JC.seq (JC.region (by rfl) ?_))
     intro hQ
     refine JL.move .none rfl ?_
     refine JL.fieldAddr fo_25_4 rfl .none rfl ?_
     refine JL.loadOwn 0 az_23 rfl rfl rfl .none rfl ?_
     refine JL.lenSL (R := R_Panel) ul_23 (SL.mono R_Panel_mono hs57 hs_4) .none rfl ?_
     refine JL.bin rfl rfl rfl .none rfl ?_
     refine JL.done hQ (JQ.go ?_)
     rcases ite_some hF with ⟨hc60, hF⟩ | ⟨hc60, hF⟩
     ·refine JC.cond_t (b := decide (i_56 < (s.Panels.length : Int))) rfl hc60 ?_
      refine JC.skip (JQ.go (JC.seq (JC.block (JC.seq (JC.region (by rfl) ?_)))))
      intro hQ
      refine JL.fieldAddr fo_25_4 rfl .none rfl ?_
      refine JL.loadOwn 0 az_23 rfl rfl rfl .none rfl ?_
      refine JL.move .none rfl ?_
      obtain ⟨y61, hy61, hF⟩ := bind_some hF
      refine JL.indexSL (R := R_Panel) sl_23 (SL.mono R_Panel_mono hs57 hs_4) rfl hy61 .none rfl ?_
      rintro b62 o63 cs64 hc65 - ⟨y61_v0, rfl, hy61_0⟩
      refine JL.fieldAddr fo_30_0 rfl .none rfl ?_
      refine JL.loadH 0 az_28 rfl hc65 rfl .none rfl ?_
      refine JL.lenSL (R := R_Span) ul_28 hy61_0 .none rfl ?_
      refine JL.bin rfl rfl rfl .none rfl ?_
      refine JL.done hQ (JQ.go (JC.fresh (fun f => f 1 = .pointer (some ⟨b1, 0, none⟩) ∧ f 3 = .int .i64 i_56 ∧ f 34 = .bool (decide (20 < (y61.Rows.length : Int)))) ⟨rfl, rfl, rfl⟩ ?_))
      rintro f ⟨hf1, hf3, hf34⟩
      refine (JC.norm (i := 1) hf1 (JC.norm (i := 3) hf3 (JC.norm (i := 34) hf34 ?_)))
      rcases ite_some hF with ⟨hc66, hF⟩ | ⟨hc66, hF⟩
      ·refine JC.cond_t (b := decide (20 < (y61.Rows.length : Int))) rfl hc66 ?_
       refine JC.seq (JC.region (by rfl) ?_)
       intro hQ
       refine JL.assign .none rfl ?_
       refine JL.done hQ (JQ.go (JC.ret (JQ.ret_block (JQ.ret_then (JQ.ret_then (JQ.ret_block (JQ.ret_join (JQ.ret_then ?_))))))))
       obtain rfl := Option.some.inj hF
       have ehr58 := hr58 _ rfl
       subst ehr58
       have hF := hKr37
       try dsimp only at hF
       obtain rfl := Option.some.inj hF
       exact JQ.outS rfl (.tmp .nil) rfl
      ·refine JC.cond_f (b := decide (20 < (y61.Rows.length : Int))) rfl hc66 ?_
       refine JC.skip (JQ.normal_block (JQ.go (JC.region (by rfl) ?_)))
       intro hQ
       refine JL.move .none rfl ?_
       refine JL.bin rfl rfl rfl .none rfl ?_
       refine JL.assign .none rfl ?_
       refine JL.done hQ ?_
       obtain rfl := Option.some.inj hF
       exact JQ.next rfl ⟨rfl, rfl, rfl, rfl, hs57⟩
     ·refine JC.cond_f (b := decide (i_56 < (s.Panels.length : Int))) rfl hc60 ?_
      refine JC.exit (JQ.exit_then (JQ.exit_then (JQ.exit_block ?_)))
      obtain rfl := Option.some.inj hF
      have ehr58 := hr58 _ rfl
      subst ehr58
      exact JQ.join () ⟨rfl, rfl, rfl, hs57, rfl⟩
    ·rintro _ H36 f bs gs ⟨hf1, rfl, rfl, hs36, rfl⟩
     have hF := hKr37
     try dsimp only at hF
     refine (JQ.norm (i := 1) hf1 ?_)
     refine JQ.go (JC.seq (JC.region (by rfl) ?_))
     intro hQ
     refine JL.loadOwn 0 az_25 rfl rfl rfl .none rfl ?_
     obtain ⟨y67, hy67, hF⟩ := bind_some hF
     refine JL.callS (c_ref03_Check n H36 s s_v2 (SL.mono R_Cell_mono hs36 hs_2) s_v3 (SL.mono R_Cell_mono hs36 hs_3) s_v4 (SL.mono R_Panel_mono hs36 hs_4) y67 hy67) rfl en_34 .none rfl ?_
     refine JL.bin rfl rfl rfl .none rfl ?_
     refine JL.move .none rfl ?_
     refine JL.cut 21 (fun f => f 59 = .bool ((y67 == 0) && ((((decide (5 < s.Width)) || (decide (6 < s.Length))) || (decide (3 < (s.Panels.length : Int)))) || (decide (3 < (s.Flaws.length : Int)))))) ?_ ?_
     ·intro hJ74
      rcases bcases (y67 == 0) with hc75 | hc75
      ·skip
       refine JL.fieldAddr fo_25_0 rfl (.some rfl rfl rfl hc75) rfl ?_
       refine JL.loadOwn 0 az_3 rfl rfl rfl (.some rfl rfl rfl hc75) rfl ?_
       refine JL.bin rfl rfl rfl (.some rfl rfl rfl hc75) rfl ?_
       refine JL.move (.some rfl rfl rfl hc75) rfl ?_
       refine JL.cut 4 (fun f => f 1 = .pointer (some ⟨b1, 0, none⟩) ∧ f 38 = .bool (y67 == 0) ∧ f 46 = .bool ((decide (5 < s.Width)) || (decide (6 < s.Length)))) ?_ ?_
       ·intro hJ76
        rcases bcases (decide (5 < s.Width)) with hc77 | hc77
        ·skip
         refine JL.skip (.bool rfl rfl rfl hc77) rfl ?_
         refine JL.skip (.bool rfl rfl rfl hc77) rfl ?_
         refine JL.skip (.bool rfl rfl rfl hc77) rfl ?_
         refine JL.pick_t (b := decide (5 < s.Width)) rfl hc77 (.some rfl rfl rfl hc75) rfl ?_
         exact hJ76 _ ⟨rfl, rfl, or_t hc77 rfl⟩
        ·skip
         refine JL.fieldAddr fo_25_1 rfl (.some rfl rfl rfl hc77) rfl ?_
         refine JL.loadOwn 0 az_3 rfl rfl rfl (.some rfl rfl rfl hc77) rfl ?_
         refine JL.bin rfl rfl rfl (.some rfl rfl rfl hc77) rfl ?_
         refine JL.pick_f (b := decide (5 < s.Width)) rfl hc77 (.some rfl rfl rfl hc75) rfl ?_
         exact hJ76 _ ⟨rfl, rfl, or_f hc77 rfl⟩
       ·rintro f ⟨hf1, hf38, hf46⟩
        refine (JL.norm (i := 1) hf1 (JL.norm (i := 38) hf38 (JL.norm (i := 46) hf46 ?_)))
        refine JL.move (.some rfl rfl rfl hc75) rfl ?_
        refine JL.cut 5 (fun f => f 1 = .pointer (some ⟨b1, 0, none⟩) ∧ f 38 = .bool (y67 == 0) ∧ f 52 = .bool (((decide (5 < s.Width)) || (decide (6 < s.Length))) || (decide (3 < (s.Panels.length : Int))))) ?_ ?_
        ·intro hJ78
         rcases bcases ((decide (5 < s.Width)) || (decide (6 < s.Length))) with hc79 | hc79
         ·skip
          refine JL.skip (.bool rfl rfl rfl hc79) rfl ?_
          refine JL.skip (.bool rfl rfl rfl hc79) rfl ?_
          refine JL.skip (.bool rfl rfl rfl hc79) rfl ?_
          refine JL.skip (.bool rfl rfl rfl hc79) rfl ?_
          refine JL.pick_t (b := ((decide (5 < s.Width)) || (decide (6 < s.Length)))) rfl hc79 (.some rfl rfl rfl hc75) rfl ?_
          exact hJ78 _ ⟨rfl, rfl, or_t hc79 rfl⟩
         ·skip
          refine JL.fieldAddr fo_25_4 rfl (.some rfl rfl rfl hc79) rfl ?_
          refine JL.loadOwn 0 az_23 rfl rfl rfl (.some rfl rfl rfl hc79) rfl ?_
          refine JL.lenSL (R := R_Panel) ul_23 (SL.mono R_Panel_mono hs36 hs_4) (.some rfl rfl rfl hc79) rfl ?_
          refine JL.bin rfl rfl rfl (.some rfl rfl rfl hc79) rfl ?_
          refine JL.pick_f (b := ((decide (5 < s.Width)) || (decide (6 < s.Length)))) rfl hc79 (.some rfl rfl rfl hc75) rfl ?_
          exact hJ78 _ ⟨rfl, rfl, or_f hc79 rfl⟩
        ·rintro f ⟨hf1, hf38, hf52⟩
         refine (JL.norm (i := 1) hf1 (JL.norm (i := 38) hf38 (JL.norm (i := 52) hf52 ?_)))
         refine JL.move (.some rfl rfl rfl hc75) rfl ?_
         refine JL.cut 5 (fun f => f 38 = .bool (y67 == 0) ∧ f 58 = .bool ((((decide (5 < s.Width)) || (decide (6 < s.Length))) || (decide (3 < (s.Panels.length : Int)))) || (decide (3 < (s.Flaws.length : Int))))) ?_ ?_
         ·intro hJ80
          rcases bcases (((decide (5 < s.Width)) || (decide (6 < s.Length))) || (decide (3 < (s.Panels.length : Int)))) with hc81 | hc81
          ·skip
           refine JL.skip (.bool rfl rfl rfl hc81) rfl ?_
           refine JL.skip (.bool rfl rfl rfl hc81) rfl ?_
           refine JL.skip (.bool rfl rfl rfl hc81) rfl ?_
           refine JL.skip (.bool rfl rfl rfl hc81) rfl ?_
           refine JL.pick_t (b := (((decide (5 < s.Width)) || (decide (6 < s.Length))) || (decide (3 < (s.Panels.length : Int))))) rfl hc81 (.some rfl rfl rfl hc75) rfl ?_
           exact hJ80 _ ⟨rfl, or_t hc81 rfl⟩
          ·skip
           refine JL.fieldAddr fo_25_3 rfl (.some rfl rfl rfl hc81) rfl ?_
           refine JL.loadOwn 0 az_22 rfl rfl rfl (.some rfl rfl rfl hc81) rfl ?_
           refine JL.lenSL (R := R_Cell) ul_22 (SL.mono R_Cell_mono hs36 hs_3) (.some rfl rfl rfl hc81) rfl ?_
           refine JL.bin rfl rfl rfl (.some rfl rfl rfl hc81) rfl ?_
           refine JL.pick_f (b := (((decide (5 < s.Width)) || (decide (6 < s.Length))) || (decide (3 < (s.Panels.length : Int))))) rfl hc81 (.some rfl rfl rfl hc75) rfl ?_
           exact hJ80 _ ⟨rfl, or_f hc81 rfl⟩
         ·rintro f ⟨hf38, hf58⟩
          refine (JL.norm (i := 38) hf38 (JL.norm (i := 58) hf58 ?_))
          refine JL.pick_t (b := (y67 == 0)) rfl hc75 .none rfl ?_
          exact hJ74 _ (and_t hc75 rfl)
      ·skip
       refine JL.skip (.bool rfl rfl rfl hc75) rfl ?_
       refine JL.skip (.bool rfl rfl rfl hc75) rfl ?_
       refine JL.skip (.bool rfl rfl rfl hc75) rfl ?_
       refine JL.skip (.bool rfl rfl rfl hc75) rfl ?_
       refine JL.skip (.no rfl rfl rfl) rfl ?_
       refine JL.skip (.no rfl rfl rfl) rfl ?_
       refine JL.skip (.no rfl rfl rfl) rfl ?_
       refine JL.skip (.bool rfl rfl rfl hc75) rfl ?_
       refine JL.skip (.bool rfl rfl rfl hc75) rfl ?_
       refine JL.skip (.no rfl rfl rfl) rfl ?_
       refine JL.skip (.no rfl rfl rfl) rfl ?_
       refine JL.skip (.no rfl rfl rfl) rfl ?_
       refine JL.skip (.no rfl rfl rfl) rfl ?_
       refine JL.skip (.bool rfl rfl rfl hc75) rfl ?_
       refine JL.skip (.bool rfl rfl rfl hc75) rfl ?_
       refine JL.skip (.no rfl rfl rfl) rfl ?_
       refine JL.skip (.no rfl rfl rfl) rfl ?_
       refine JL.skip (.no rfl rfl rfl) rfl ?_
       refine JL.skip (.no rfl rfl rfl) rfl ?_
       refine JL.skip (.bool rfl rfl rfl hc75) rfl ?_
       refine JL.pick_f (b := (y67 == 0)) rfl hc75 .none rfl ?_
       exact hJ74 _ (and_f hc75 rfl)
     ·rintro f hf59
      refine (JL.norm (i := 59) hf59 ?_)
      refine JL.assign .none rfl ?_
      refine JL.done hQ (JQ.go (JC.ret ?_))
      obtain rfl := Option.some.inj hF
      exact JQ.outS rfl (.tmp .nil) rfl
-- 10 ferrule/ferrulelaw03.ready
def F_law03_ready (n : Nat) (s : Lap) : Option Bool :=
 (F_law03_Far n s).bind fun y2 => (if (!y2) = true then ((F_ref03_Check n s).bind fun y7 => some (y7 == 0)) else (some false) : Option Bool).bind fun p4 => some p4
theorem c_law03_ready (n : Nat) (H : Hp) (s : Lap) (s_v2 : Value) (hs_2 : SL H 2 R_Cell s_v2 s.Faults) (s_v3 : Value) (hs_3 : SL H 2 R_Cell s_v3 s.Flaws) (s_v4 : Value) (hs_4 : SL H 1 R_Panel s_v4 s.Panels) (y : Bool) (hF : F_law03_ready n s = some y) : SC Try.prog 10 [.agg [.int .i64 s.Width, .int .i64 s.Length, s_v2, s_v3, s_v4].toArray] (.bool y) H := by
 rw [F_law03_ready] at hF
 refine SC.of (N := 11) Try.func10 rfl rfl rfl fun w => ?_
 refine JC.seq (JC.region (by rfl) ?_)
 intro hQ
 refine JL.box (cs := [.int .i64 s.Width, .int .i64 s.Length, s_v2, s_v3, s_v4]) rfl .none rfl ?_
 intro b1
 refine JL.assign .none rfl ?_
 refine JL.done hQ (JQ.go (JC.seq (JC.region (by rfl) ?_)))
 intro hQ
 refine JL.loadOwn 0 az_25 rfl rfl rfl .none rfl ?_
 obtain ⟨y2, hy2, hF⟩ := bind_some hF
 refine JL.callS (c_law03_Far n H s s_v2 hs_2 s_v3 hs_3 s_v4 hs_4 y2 hy2) rfl en_27 .none rfl ?_
 refine JL.not rfl .none rfl ?_
 refine JL.move .none rfl ?_
 obtain ⟨p4, hp4, hF⟩ := bind_some hF
 refine JL.cut 4 (fun f => f 10 = .bool p4) ?_ ?_
 ·intro hJ5
  rcases ite_some hp4 with ⟨hc6, hF⟩ | ⟨hc6, hF⟩
  ·skip
   refine JL.loadOwn 0 az_25 rfl rfl rfl (.some rfl rfl rfl hc6) rfl ?_
   obtain ⟨y7, hy7, hF⟩ := bind_some hF
   refine JL.callS (c_ref03_Check n H s s_v2 hs_2 s_v3 hs_3 s_v4 hs_4 y7 hy7) rfl en_34 (.some rfl rfl rfl hc6) rfl ?_
   refine JL.bin rfl rfl rfl (.some rfl rfl rfl hc6) rfl ?_
   refine JL.pick_t (b := (!y2)) rfl hc6 .none rfl ?_
   obtain rfl := Option.some.inj hF
   exact hJ5 _ (rfl)
  ·skip
   refine JL.skip (.bool rfl rfl rfl hc6) rfl ?_
   refine JL.skip (.bool rfl rfl rfl hc6) rfl ?_
   refine JL.skip (.bool rfl rfl rfl hc6) rfl ?_
   refine JL.pick_f (b := (!y2)) rfl hc6 .none rfl ?_
   obtain rfl := Option.some.inj hF
   exact hJ5 _ (rfl)
 ·rintro f hf10
  refine (JL.norm (i := 10) hf10 ?_)
  refine JL.assign .none rfl ?_
  refine JL.done hQ (JQ.go (JC.ret ?_))
  obtain rfl := Option.some.inj hF
  exact JQ.outS rfl (.tmp .nil) rfl
-- 42 ferrule/ferrulelaw03.Example
def F_law03_Example (n : Nat)  : Option Lap :=
 some (Lap.mk 4 5 [(Cell.mk 0 1)] [(Cell.mk 1 3)] [(Panel.mk [(Span.mk 0 1), (Span.mk 0 1)]), (Panel.mk [(Span.mk 0 2)])])
theorem c_law03_Example (n : Nat) (H : Hp)  (y : Lap) (hF : F_law03_Example n = some y) : HC Try.prog 42 [] H (fun H' v => ∃ ra_v2 ra_v3 ra_v4 : Value, v = .agg [.int .i64 y.Width, .int .i64 y.Length, ra_v2, ra_v3, ra_v4].toArray ∧ SL H' 2 R_Cell ra_v2 y.Faults ∧ SL H' 2 R_Cell ra_v3 y.Flaws ∧ SL H' 1 R_Panel ra_v4 y.Panels) := by
 rw [F_law03_Example] at hF
 refine HC.of (N := 14) Try.func42 rfl rfl rfl fun w => ?_
 refine JC.seq (JC.region (by rfl) ?_)
 intro hQ
 refine JL.alloc ze_25 .none rfl ?_
 intro b1
 refine JL.done hQ (JQ.go (JC.seq (JC.region (by rfl) ?_)))
 intro hQ
 refine JL.build (l := [.int .i64 0, .int .i64 1]) (by kernel_rfl) .none rfl ?_
 refine JL.buildSlice (e := 27) (l := [.int .i64 0, .int .i64 1]) (by kernel_rfl) .none rfl ?_
 intro b2
 refine JL.build (l := [.int .i64 1, .int .i64 3]) (by kernel_rfl) .none rfl ?_
 refine JL.buildSlice (e := 27) (l := [.int .i64 1, .int .i64 3]) (by kernel_rfl) .none rfl ?_
 intro b3
 refine JL.build (l := [.int .i64 0, .int .i64 1]) (by kernel_rfl) .none rfl ?_
 refine JL.build (l := [.int .i64 0, .int .i64 1]) (by kernel_rfl) .none rfl ?_
 refine JL.buildSlice (e := 46) (l := [.int .i64 0, .int .i64 1, .int .i64 0, .int .i64 1]) (by kernel_rfl) .none rfl ?_
 intro b4
 refine JL.build (l := [.slice (some ⟨b4, 0, none⟩) 2 2]) (by kernel_rfl) .none rfl ?_
 refine JL.build (l := [.int .i64 0, .int .i64 2]) (by kernel_rfl) .none rfl ?_
 refine JL.buildSlice (e := 46) (l := [.int .i64 0, .int .i64 2]) (by kernel_rfl) .none rfl ?_
 intro b5
 refine JL.build (l := [.slice (some ⟨b5, 0, none⟩) 1 1]) (by kernel_rfl) .none rfl ?_
 refine JL.buildSlice (e := 30) (l := [.slice (some ⟨b4, 0, none⟩) 2 2, .slice (some ⟨b5, 0, none⟩) 1 1]) (by kernel_rfl) .none rfl ?_
 intro b6
 refine JL.build (l := [.int .i64 4, .int .i64 5, .slice (some ⟨b2, 0, none⟩) 1 1, .slice (some ⟨b3, 0, none⟩) 1 1, .slice (some ⟨b6, 0, none⟩) 2 2]) (by kernel_rfl) .none rfl ?_
 refine JL.storeOwn 5 (cs := [.int .i64 4, .int .i64 5, .slice (some ⟨b2, 0, none⟩) 1 1, .slice (some ⟨b3, 0, none⟩) 1 1, .slice (some ⟨b6, 0, none⟩) 2 2]) az_25 rfl rfl rfl (one_cons rfl (one_cons rfl (one_cons rfl (one_cons rfl (one_cons rfl one_nil))))) rfl rfl .none ?_
 refine JL.done hQ (JQ.go (JC.fresh (fun f => f 0 = .pointer (some ⟨b1, 0, none⟩)) rfl ?_))
 rintro f hf0
 refine (JC.norm (i := 0) hf0 ?_)
 refine JC.ret (JQ.freezeC 4 (l := [.int .i64 0, .int .i64 1]) rfl ?_)
 intro H7 hs7 hc8
 have hg9 : SL H7 2 R_Cell (.slice (some ⟨b2, 0, none⟩) 1 1) [(Cell.mk 0 1)] := CH.sl (l := [(Cell.mk 0 1)]) (CH.cons (cs := [.int .i64 0, .int .i64 1]) rfl rfl CH.nil) hc8 ⟨by simp, by simp⟩
 refine JQ.freezeC 3 (l := [.int .i64 1, .int .i64 3]) rfl ?_
 intro H10 hs10 hc11
 have hg12 : SL H10 2 R_Cell (.slice (some ⟨b3, 0, none⟩) 1 1) [(Cell.mk 1 3)] := CH.sl (l := [(Cell.mk 1 3)]) (CH.cons (cs := [.int .i64 1, .int .i64 3]) rfl rfl CH.nil) hc11 ⟨by simp, by simp⟩
 refine JQ.freezeC 2 (l := [.int .i64 0, .int .i64 1, .int .i64 0, .int .i64 1]) rfl ?_
 intro H13 hs13 hc14
 have hg15 : SL H13 2 R_Span (.slice (some ⟨b4, 0, none⟩) 2 2) [(Span.mk 0 1), (Span.mk 0 1)] := CH.sl (l := [(Span.mk 0 1), (Span.mk 0 1)]) (CH.cons (cs := [.int .i64 0, .int .i64 1]) rfl rfl (CH.cons (cs := [.int .i64 0, .int .i64 1]) rfl rfl CH.nil)) hc14 ⟨by simp, by simp⟩
 refine JQ.freezeC 1 (l := [.int .i64 0, .int .i64 2]) rfl ?_
 intro H16 hs16 hc17
 have hg18 : SL H16 2 R_Span (.slice (some ⟨b5, 0, none⟩) 1 1) [(Span.mk 0 2)] := CH.sl (l := [(Span.mk 0 2)]) (CH.cons (cs := [.int .i64 0, .int .i64 2]) rfl rfl CH.nil) hc17 ⟨by simp, by simp⟩
 refine JQ.freezeC 0 (l := [(.slice (some ⟨b4, 0, none⟩) 2 2), (.slice (some ⟨b5, 0, none⟩) 1 1)]) rfl ?_
 intro H19 hs19 hc20
 have hg21 : SL H19 1 R_Panel (.slice (some ⟨b6, 0, none⟩) 2 2) [(Panel.mk [(Span.mk 0 1), (Span.mk 0 1)]), (Panel.mk [(Span.mk 0 2)])] := CH.sl (l := [(Panel.mk [(Span.mk 0 1), (Span.mk 0 1)]), (Panel.mk [(Span.mk 0 2)])]) (CH.cons (cs := [(.slice (some ⟨b4, 0, none⟩) 2 2)]) rfl ⟨(.slice (some ⟨b4, 0, none⟩) 2 2), rfl, (SL.mono R_Span_mono (HSub.trans hs16 hs19) hg15)⟩ (CH.cons (cs := [(.slice (some ⟨b5, 0, none⟩) 1 1)]) rfl ⟨(.slice (some ⟨b5, 0, none⟩) 1 1), rfl, (SL.mono R_Span_mono hs19 hg18)⟩ CH.nil)) hc20 ⟨by simp, by simp⟩
 obtain rfl := Option.some.inj hF
 exact JQ.outH rfl (.cell 0 az_25 rfl rfl rfl .nil) ⟨(.slice (some ⟨b2, 0, none⟩) 1 1), (.slice (some ⟨b3, 0, none⟩) 1 1), (.slice (some ⟨b6, 0, none⟩) 2 2), rfl, (SL.mono R_Cell_mono (HSub.trans hs10 (HSub.trans hs13 (HSub.trans hs16 hs19))) hg9), (SL.mono R_Cell_mono (HSub.trans hs13 (HSub.trans hs16 hs19)) hg12), hg21⟩
-- 48 ferrule/lays.within
def F_lays_within (n : Nat) (n_ : Int) (low : Int) (high : Int) : Option Bool :=
 some ((decide (low ≤ n_)) && (decide (n_ ≤ high)))
theorem c_lays_within (n : Nat) (H : Hp) (n_ : Int) (low : Int) (high : Int) (y : Bool) (hF : F_lays_within n n_ low high = some y) : SC Try.prog 48 [.int .i64 n_, .int .i64 low, .int .i64 high] (.bool y) H := by
 rw [F_lays_within] at hF
 refine SC.of (N := 15) Try.func48 rfl rfl rfl fun w => ?_
 refine JC.seq (JC.region (by rfl) ?_)
 intro hQ
 refine JL.assign .none rfl ?_
 refine JL.done hQ (JQ.go (JC.seq (JC.region (by rfl) ?_)))
 intro hQ
 refine JL.move .none rfl ?_
 refine JL.move .none rfl ?_
 refine JL.bin rfl rfl rfl .none rfl ?_
 refine JL.move .none rfl ?_
 refine JL.cut 4 (fun f => f 14 = .bool ((decide (low ≤ n_)) && (decide (n_ ≤ high)))) ?_ ?_
 ·intro hJ1
  rcases bcases (decide (low ≤ n_)) with hc2 | hc2
  ·skip
   refine JL.move (.some rfl rfl rfl hc2) rfl ?_
   refine JL.move (.some rfl rfl rfl hc2) rfl ?_
   refine JL.bin rfl rfl rfl (.some rfl rfl rfl hc2) rfl ?_
   refine JL.pick_t (b := decide (low ≤ n_)) rfl hc2 .none rfl ?_
   exact hJ1 _ (and_t hc2 rfl)
  ·skip
   refine JL.skip (.bool rfl rfl rfl hc2) rfl ?_
   refine JL.skip (.bool rfl rfl rfl hc2) rfl ?_
   refine JL.skip (.bool rfl rfl rfl hc2) rfl ?_
   refine JL.pick_f (b := decide (low ≤ n_)) rfl hc2 .none rfl ?_
   exact hJ1 _ (and_f hc2 rfl)
 ·rintro f hf14
  refine (JL.norm (i := 14) hf14 ?_)
  refine JL.assign .none rfl ?_
  refine JL.done hQ (JQ.go (JC.ret ?_))
  obtain rfl := Option.some.inj hF
  exact JQ.outS rfl (.tmp .nil) rfl
-- 59 slices.Concat[[]ferrule/api.Cell,ferrule/api.Cell]
def F_slices_Concat___api_Cell_api_Cell__s1 (n : Nat) (slices : List (List Cell)) : Int × Int → Option ((Int × Int) ⊕ Int)
 | (size_71, x_72) => if decide (x_72 < (slices.length : Int)) = true then ((geti slices x_72).bind fun y77 => (if decide ((w64 (size_71 + (y77.length : Int))) < 0) = true then (none) else (some ())).bind fun (_ : Unit) => some (Sum.inl ((w64 (size_71 + (y77.length : Int))), (w64 (x_72 + 1))))) else (some (Sum.inr size_71))
def F_slices_Concat___api_Cell_api_Cell__s2 (n : Nat) (slices : List (List Cell)) : Int × List Cell → Option ((Int × List Cell) ⊕ (List Cell))
 | (x_159, out_160) => if decide (x_159 < (slices.length : Int)) = true then ((geti slices x_159).bind fun y165 => (lim (out_160 ++ y165)).bind fun l170 => some (Sum.inl ((w64 (x_159 + 1)), l170))) else (some (Sum.inr out_160))
def F_slices_Concat___api_Cell_api_Cell_ (n : Nat) (slices : List (List Cell)) : Option (List Cell) :=
 (loopO n (F_slices_Concat___api_Cell_api_Cell__s1 n slices) (0, 0)).bind fun size_42 => (growck size_42).bind fun u86 => (loopO n (F_slices_Concat___api_Cell_api_Cell__s2 n slices) (0, ([] : List Cell))).bind fun out_130 => some out_130
theorem c_slices_Concat___api_Cell_api_Cell_ (n : Nat) (H : Hp) (slices : List (List Cell)) (slices_v0 : Value) (hslices_0 : SL H 1 (RSl 2 R_Cell) slices_v0 slices) (y : (List Cell)) (hF : F_slices_Concat___api_Cell_api_Cell_ n slices = some y) : HC Try.prog 59 [slices_v0] H (fun H' ra_v0 => SL H' 2 R_Cell ra_v0 y) := by
 rw [F_slices_Concat___api_Cell_api_Cell_] at hF
 refine HC.of (N := 36) Try.func59 rfl rfl rfl fun w => ?_
 refine JC.seq (JC.region (by rfl) ?_)
 intro hQ
 refine JL.assign .none rfl ?_
 refine JL.done hQ (JQ.go (JC.seq (JC.region (by rfl) ?_)))
 intro hQ
 refine JL.assign .none rfl ?_
 refine JL.done hQ (JQ.go (JC.seq (JC.seq (JC.region (by rfl) ?_))))
 intro hQ
 refine JL.move .none rfl ?_
 refine JL.lenSL (R := (RSl 2 R_Cell)) ul_108 hslices_0 .none rfl ?_
 refine JL.move .none rfl ?_
 refine JL.done hQ (JQ.go ?_)
 obtain ⟨r44, hlr44, hKr44⟩ := bind_some hF
 refine JC.join (fun (size_42 : Int) H43 f bs gs => f 0 = slices_v0 ∧ f 3 = .int .i64 size_42 ∧ bs = [] ∧ gs = [] ∧ HSub H H43 ∧ size_42 = r44) ?_ ?_
 ·skip
  refine JC.block (JC.loop hlr44 (fun (x : Int × Int) H73 f bs gs => match x with | (size_71, x_72) => f 0 = slices_v0 ∧ f 3 = .int .i64 size_71 ∧ f 9 = slices_v0 ∧ f 10 = .int .i64 (slices.length : Int) ∧ f 11 = .int .i64 x_72 ∧ bs = [] ∧ gs = [] ∧ HSub H H73) ⟨rfl, rfl, rfl, rfl, rfl, rfl, rfl, (HSub.refl _)⟩ ?_)
  rintro ⟨size_71, x_72⟩ x75 H73 f bs gs ⟨hf0, hf3, hf9, hf10, hf11, rfl, rfl, hs73⟩ hF hr74
  rw [F_slices_Concat___api_Cell_api_Cell__s1] at hF
  refine (JC.norm (i := 0) hf0 (JC.norm (i := 3) hf3 (JC.norm (i := 9) hf9 (JC.norm (i := 10) hf10 (JC.norm (i := 11) hf11 ?_)))))
  refine JC.seq (JC.region (by rfl) ?_)
  intro hQ
  refine JL.bin rfl rfl rfl .none rfl ?_
  refine JL.done hQ (JQ.go (JC.seq ?_))
  rcases ite_some hF with ⟨hc76, hF⟩ | ⟨hc76, hF⟩
  ·refine JC.cond_t (b := decide (x_72 < (slices.length : Int))) rfl hc76 ?_
   refine JC.skip (JQ.go (JC.seq (JC.block (JC.seq (JC.region (by rfl) ?_)))))
   intro hQ
   obtain ⟨y77, hy77, hF⟩ := bind_some hF
   refine JL.indexSL (R := (RSl 2 R_Cell)) sl_108 (SL.mono (RSl.mono R_Cell_mono) hs73 hslices_0) rfl hy77 .none rfl ?_
   rintro b78 o79 cs80 hc81 - ⟨y77_v0, rfl, hy77_0⟩
   refine JL.loadH 0 az_22 rfl hc81 rfl .none rfl ?_
   refine JL.assign .none rfl ?_
   refine JL.done hQ (JQ.go (JC.seq (JC.region (by rfl) ?_)))
   intro hQ
   refine JL.move .none rfl ?_
   refine JL.move .none rfl ?_
   refine JL.lenSL (R := R_Cell) ul_22 hy77_0 .none rfl ?_
   refine JL.bin rfl rfl rfl .none rfl ?_
   refine JL.assign .none rfl ?_
   refine JL.done hQ (JQ.go (JC.seq (JC.region (by rfl) ?_)))
   intro hQ
   refine JL.move .none rfl ?_
   refine JL.bin rfl rfl rfl .none rfl ?_
   refine JL.done hQ (JQ.go (JC.fresh (fun f => f 0 = slices_v0 ∧ f 3 = .int .i64 (w64 (size_71 + (y77.length : Int))) ∧ f 9 = slices_v0 ∧ f 10 = .int .i64 (slices.length : Int) ∧ f 11 = .int .i64 x_72 ∧ f 20 = .bool (decide ((w64 (size_71 + (y77.length : Int))) < 0))) ⟨rfl, rfl, rfl, rfl, rfl, rfl⟩ ?_))
   rintro f ⟨hf0, hf3, hf9, hf10, hf11, hf20⟩
   refine (JC.norm (i := 0) hf0 (JC.norm (i := 3) hf3 (JC.norm (i := 9) hf9 (JC.norm (i := 10) hf10 (JC.norm (i := 11) hf11 (JC.norm (i := 20) hf20 ?_))))))
   obtain ⟨r84, hlr84, hKr84⟩ := bind_some hF
   refine JC.join (fun (_ : Unit) H83 f bs gs => f 0 = slices_v0 ∧ f 3 = .int .i64 (w64 (size_71 + (y77.length : Int))) ∧ f 9 = slices_v0 ∧ f 10 = .int .i64 (slices.length : Int) ∧ f 11 = .int .i64 x_72 ∧ bs = [] ∧ gs = [] ∧ HSub H73 H83 ∧ () = r84) ?_ ?_
   ·have hF := hlr84
    rcases ite_some hF with ⟨hc85, hF⟩ | ⟨hc85, hF⟩
    ·refine JC.cond_t (b := decide ((w64 (size_71 + (y77.length : Int))) < 0)) rfl hc85 ?_
     cases hF
    ·refine JC.cond_f (b := decide ((w64 (size_71 + (y77.length : Int))) < 0)) rfl hc85 ?_
     refine JC.skip ?_
     obtain rfl := Option.some.inj hF
     exact JQ.join () ⟨rfl, rfl, rfl, rfl, rfl, rfl, rfl, (HSub.refl _), rfl⟩
   ·rintro _ H83 f bs gs ⟨hf0, hf3, hf9, hf10, hf11, rfl, rfl, hs83, rfl⟩
    have hF := hKr84
    try dsimp only at hF
    refine (JQ.norm (i := 0) hf0 (JQ.norm (i := 3) hf3 (JQ.norm (i := 9) hf9 (JQ.norm (i := 10) hf10 (JQ.norm (i := 11) hf11 ?_)))))
    refine JQ.normal_block (JQ.go (JC.region (by rfl) ?_))
    intro hQ
    refine JL.bin rfl rfl rfl .none rfl ?_
    refine JL.move .none rfl ?_
    refine JL.done hQ ?_
    obtain rfl := Option.some.inj hF
    exact JQ.next rfl ⟨rfl, rfl, rfl, rfl, rfl, rfl, rfl, (HSub.trans hs73 hs83)⟩
  ·refine JC.cond_f (b := decide (x_72 < (slices.length : Int))) rfl hc76 ?_
   refine JC.exit (JQ.exit_then (JQ.exit_then (JQ.exit_block ?_)))
   obtain rfl := Option.some.inj hF
   have ehr74 := hr74 _ rfl
   subst ehr74
   exact JQ.join size_71 ⟨rfl, rfl, rfl, rfl, hs73, rfl⟩
 ·rintro size_42 H43 f bs gs ⟨hf0, hf3, rfl, rfl, hs43, rfl⟩
  have hF := hKr44
  try dsimp only at hF
  refine (JQ.norm (i := 0) hf0 (JQ.norm (i := 3) hf3 ?_))
  refine JQ.go (JC.seq (JC.region (by rfl) ?_))
  intro hQ
  refine JL.move .none rfl ?_
  obtain ⟨u86, hu86, hF⟩ := bind_some hF
  refine JL.callO (c_Grow H43 size_42 u86 hu86) rfl en_74 .none rfl ?_
  rintro v87 _ _ ⟨rfl, rfl⟩
  refine JL.assign .none rfl ?_
  refine JL.done hQ (JQ.go (JC.seq (JC.seq (JC.region (by rfl) ?_))))
  intro hQ
  refine JL.move .none rfl ?_
  refine JL.lenSL (R := (RSl 2 R_Cell)) ul_108 (SL.mono (RSl.mono R_Cell_mono) hs43 hslices_0) .none rfl ?_
  refine JL.move .none rfl ?_
  refine JL.done hQ (JQ.go ?_)
  obtain ⟨r132, hlr132, hKr132⟩ := bind_some hF
  refine JC.join (fun (out_130 : List Cell) H131 f bs gs => ∃ (vout_130 : Value) (xsout_130 : List Value), f 6 = vout_130 ∧ bs = [] ∧ gs = [⟨vout_130, 27, 2, out_130.length, xsout_130⟩] ∧ CH H131 2 R_Cell xsout_130 out_130 ∧ HSub H43 H131 ∧ out_130 = r132) ?_ ?_
  ·skip
   refine JC.block (JC.loop hlr132 (fun (x : Int × List Cell) H161 f bs gs => match x with | (x_159, out_160) => ∃ (vout_160 : Value) (xsout_160 : List Value), f 6 = vout_160 ∧ f 25 = slices_v0 ∧ f 26 = .int .i64 (slices.length : Int) ∧ f 27 = .int .i64 x_159 ∧ bs = [] ∧ gs = [⟨vout_160, 27, 2, out_160.length, xsout_160⟩] ∧ CH H161 2 R_Cell xsout_160 out_160 ∧ HSub H43 H161) ⟨v87, [], rfl, rfl, rfl, rfl, rfl, rfl, CH.nil, (HSub.refl _)⟩ ?_)
   rintro ⟨x_159, out_160⟩ x163 H161 f bs gs ⟨vout_160, xsout_160, hf6, hf25, hf26, hf27, rfl, rfl, hout_160, hs161⟩ hF hr162
   rw [F_slices_Concat___api_Cell_api_Cell__s2] at hF
   refine (JC.norm (i := 6) hf6 (JC.norm (i := 25) hf25 (JC.norm (i := 26) hf26 (JC.norm (i := 27) hf27 ?_))))
   refine JC.seq (JC.region (by rfl) ?_)
   intro hQ
   refine JL.bin rfl rfl rfl .none rfl ?_
   refine JL.done hQ (JQ.go (JC.seq ?_))
   rcases ite_some hF with ⟨hc164, hF⟩ | ⟨hc164, hF⟩
   ·refine JC.cond_t (b := decide (x_159 < (slices.length : Int))) rfl hc164 ?_
    refine JC.skip (JQ.go (JC.seq (JC.block (JC.seq (JC.region (by rfl) ?_)))))
    intro hQ
    obtain ⟨y165, hy165, hF⟩ := bind_some hF
    refine JL.indexSL (R := (RSl 2 R_Cell)) sl_108 (SL.mono (RSl.mono R_Cell_mono) (HSub.trans hs43 hs161) hslices_0) rfl hy165 .none rfl ?_
    rintro b166 o167 cs168 hc169 - ⟨y165_v0, rfl, hy165_0⟩
    refine JL.loadH 0 az_22 rfl hc169 rfl .none rfl ?_
    refine JL.assign .none rfl ?_
    refine JL.done hQ (JQ.go (JC.region (by rfl) ?_))
    intro hQ
    refine JL.move .none rfl ?_
    refine JL.move .none rfl ?_
    obtain ⟨l170, hl170, hF⟩ := bind_some hF
    refine JL.appD (R := R_Cell) 0 (l := out_160) (m := y165) ap_22 rfl ⟨rfl, rfl⟩ rfl hout_160 rfl hy165_0 (R_Cell_one _) hl170 .none rfl ?_
    intro v171 xs172 hch173
    refine JL.assign .none rfl ?_
    refine JL.done hQ (JQ.normal_block (JQ.go (JC.region (by rfl) ?_)))
    intro hQ
    refine JL.bin rfl rfl rfl .none rfl ?_
    refine JL.move .none rfl ?_
    refine JL.done hQ ?_
    obtain rfl := Option.some.inj hF
    exact JQ.next rfl ⟨v171, xs172, rfl, rfl, rfl, rfl, rfl, rfl, hch173, hs161⟩
   ·refine JC.cond_f (b := decide (x_159 < (slices.length : Int))) rfl hc164 ?_
    refine JC.exit (JQ.exit_then (JQ.exit_then (JQ.exit_block ?_)))
    obtain rfl := Option.some.inj hF
    have ehr162 := hr162 _ rfl
    subst ehr162
    exact JQ.join out_160 ⟨vout_160, xsout_160, rfl, rfl, rfl, hout_160, hs161, rfl⟩
  ·rintro out_130 H131 f bs gs ⟨vout_130, xsout_130, hf6, rfl, rfl, hout_130, hs131, rfl⟩
   have hF := hKr132
   try dsimp only at hF
   refine (JQ.norm (i := 6) hf6 ?_)
   refine JQ.go (JC.seq (JC.region (by rfl) ?_))
   intro hQ
   refine JL.move .none rfl ?_
   refine JL.assign .none rfl ?_
   refine JL.done hQ (JQ.go (JC.ret (JQ.freezeG 0 (R := R_Cell) rfl R_Cell_mono hout_130 rfl ?_)))
   intro H174 hs174 hg175
   obtain rfl := Option.some.inj hF
   exact JQ.outH rfl (.tmp .nil) hg175
-- 75 slices.IndexFunc[[]ferrule/api.Panel,ferrule/api.Panel]
def F_slices_IndexFunc___api_Panel_api_Panel__s1 (n : Nat) (s : List Panel) (f_ : Panel → Option Bool) : Int → Option (Int ⊕ (Int ⊕ Unit))
 | x_55 => if decide (x_55 < (s.length : Int)) = true then ((geti s x_55).bind fun y60 => (f_ y60).bind fun y65 => if y65 = true then (some (Sum.inr (Sum.inl x_55))) else (some (Sum.inl (w64 (x_55 + 1))))) else (some (Sum.inr (Sum.inr ())))
def F_slices_IndexFunc___api_Panel_api_Panel_ (n : Nat) (s : List Panel) (f_ : Panel → Option Bool) : Option Int :=
 (loopO n (F_slices_IndexFunc___api_Panel_api_Panel__s1 n s f_) 0).bind fun r34 => match r34 with | .inl o => some o | .inr _ => some (-1)
theorem c_slices_IndexFunc___api_Panel_api_Panel_ (n : Nat) (H : Hp) (s : List Panel) (s_v0 : Value) (hs_0 : SL H 1 R_Panel s_v0 s) (f_ : Panel → Option Bool) (f__k : Nat) (f__c : List Value) (f__e : Ent Try.prog f__k) (f__h : ∀ H', HSub H H' → ∀ (a0_ : Panel) (a0__v0 : Value) (ha0__0 : SL H' 2 R_Span a0__v0 a0_.Rows) (y : Bool), f_ a0_ = some y → SC Try.prog f__k ([.agg [a0__v0].toArray] ++ f__c) (.bool y) H') (y : Int) (hF : F_slices_IndexFunc___api_Panel_api_Panel_ n s f_ = some y) : SC Try.prog 75 [s_v0, .func (.func f__k) #[] f__c.toArray] (.int .i64 y) H := by
 rw [F_slices_IndexFunc___api_Panel_api_Panel_] at hF
 refine SC.of (N := 19) Try.func75 rfl rfl rfl fun w => ?_
 refine JC.seq (JC.region (by rfl) ?_)
 intro hQ
 refine JL.assign .none rfl ?_
 refine JL.done hQ (JQ.go (JC.seq (JC.seq (JC.region (by rfl) ?_))))
 intro hQ
 refine JL.move .none rfl ?_
 refine JL.lenSL (R := R_Panel) ul_23 hs_0 .none rfl ?_
 refine JL.move .none rfl ?_
 refine JL.done hQ (JQ.go ?_)
 obtain ⟨r34, hlr34, hKr34⟩ := bind_some hF
 refine JC.join (fun (_ : Unit) H33 f bs gs => bs = [] ∧ gs = [] ∧ HSub H H33 ∧ Sum.inr () = r34) ?_ ?_
 ·skip
  refine JC.block (JC.loop hlr34 (fun (x_55 : Int) H56 f bs gs => f 0 = s_v0 ∧ f 1 = .func (.func f__k) #[] f__c.toArray ∧ f 7 = .int .i64 (s.length : Int) ∧ f 8 = .int .i64 x_55 ∧ bs = [] ∧ gs = [] ∧ HSub H H56) ⟨rfl, rfl, rfl, rfl, rfl, rfl, (HSub.refl _)⟩ ?_)
  rintro x_55 x58 H56 f bs gs ⟨hf0, hf1, hf7, hf8, rfl, rfl, hs56⟩ hF hr57
  rw [F_slices_IndexFunc___api_Panel_api_Panel__s1] at hF
  refine (JC.norm (i := 0) hf0 (JC.norm (i := 1) hf1 (JC.norm (i := 7) hf7 (JC.norm (i := 8) hf8 ?_))))
  refine JC.seq (JC.region (by rfl) ?_)
  intro hQ
  refine JL.bin rfl rfl rfl .none rfl ?_
  refine JL.done hQ (JQ.go (JC.seq ?_))
  rcases ite_some hF with ⟨hc59, hF⟩ | ⟨hc59, hF⟩
  ·refine JC.cond_t (b := decide (x_55 < (s.length : Int))) rfl hc59 ?_
   refine JC.skip (JQ.go (JC.seq (JC.block (JC.seq (JC.region (by rfl) ?_)))))
   intro hQ
   refine JL.move .none rfl ?_
   refine JL.assign .none rfl ?_
   refine JL.done hQ (JQ.go (JC.seq (JC.region (by rfl) ?_)))
   intro hQ
   refine JL.move .none rfl ?_
   refine JL.move .none rfl ?_
   refine JL.move .none rfl ?_
   obtain ⟨y60, hy60, hF⟩ := bind_some hF
   refine JL.indexSL (R := R_Panel) sl_23 (SL.mono R_Panel_mono hs56 hs_0) rfl hy60 .none rfl ?_
   rintro b61 o62 cs63 hc64 - ⟨y60_v0, rfl, hy60_0⟩
   refine JL.loadH 0 az_30 rfl hc64 rfl .none rfl ?_
   obtain ⟨y65, hy65, hF⟩ := bind_some hF
   refine JL.callV rfl (f__h H56 hs56 y60 y60_v0 hy60_0 y65 hy65) rfl f__e .none rfl ?_
   refine JL.done hQ (JQ.go ?_)
   rcases ite_some hF with ⟨hc66, hF⟩ | ⟨hc66, hF⟩
   ·refine JC.cond_t (b := y65) rfl hc66 ?_
    refine JC.seq (JC.region (by rfl) ?_)
    intro hQ
    refine JL.move .none rfl ?_
    refine JL.assign .none rfl ?_
    refine JL.done hQ (JQ.go (JC.fresh (fun f => f 4 = .int .i64 x_55) rfl ?_))
    rintro f hf4
    refine (JC.norm (i := 4) hf4 ?_)
    refine JC.ret (JQ.ret_block (JQ.ret_then (JQ.ret_then (JQ.ret_block (JQ.ret_join (JQ.ret_then ?_))))))
    obtain rfl := Option.some.inj hF
    have ehr57 := hr57 _ rfl
    subst ehr57
    have hF := hKr34
    try dsimp only at hF
    obtain rfl := Option.some.inj hF
    exact JQ.outS rfl (.tmp .nil) rfl
   ·refine JC.cond_f (b := y65) rfl hc66 ?_
    refine JC.skip (JQ.normal_block (JQ.go (JC.region (by rfl) ?_)))
    intro hQ
    refine JL.bin rfl rfl rfl .none rfl ?_
    refine JL.move .none rfl ?_
    refine JL.done hQ ?_
    obtain rfl := Option.some.inj hF
    exact JQ.next rfl ⟨rfl, rfl, rfl, rfl, rfl, rfl, hs56⟩
  ·refine JC.cond_f (b := decide (x_55 < (s.length : Int))) rfl hc59 ?_
   refine JC.exit (JQ.exit_then (JQ.exit_then (JQ.exit_block ?_)))
   obtain rfl := Option.some.inj hF
   have ehr57 := hr57 _ rfl
   subst ehr57
   exact JQ.join () ⟨rfl, rfl, hs56, rfl⟩
 ·rintro _ H33 f bs gs ⟨rfl, rfl, hs33, rfl⟩
  have hF := hKr34
  try dsimp only at hF
  refine JQ.go (JC.seq (JC.region (by rfl) ?_))
  intro hQ
  refine JL.assign .none rfl ?_
  refine JL.done hQ (JQ.go (JC.ret ?_))
  obtain rfl := Option.some.inj hF
  exact JQ.outS rfl (.tmp .nil) rfl
-- 60 slices.ContainsFunc[[]ferrule/api.Panel,ferrule/api.Panel]
def F_slices_ContainsFunc___api_Panel_api_Panel_ (n : Nat) (s : List Panel) (f_ : Panel → Option Bool) : Option Bool :=
 (F_slices_IndexFunc___api_Panel_api_Panel_ n s f_).bind fun y1 => some (decide (0 ≤ y1))
theorem c_slices_ContainsFunc___api_Panel_api_Panel_ (n : Nat) (H : Hp) (s : List Panel) (s_v0 : Value) (hs_0 : SL H 1 R_Panel s_v0 s) (f_ : Panel → Option Bool) (f__k : Nat) (f__c : List Value) (f__e : Ent Try.prog f__k) (f__h : ∀ H', HSub H H' → ∀ (a0_ : Panel) (a0__v0 : Value) (ha0__0 : SL H' 2 R_Span a0__v0 a0_.Rows) (y : Bool), f_ a0_ = some y → SC Try.prog f__k ([.agg [a0__v0].toArray] ++ f__c) (.bool y) H') (y : Bool) (hF : F_slices_ContainsFunc___api_Panel_api_Panel_ n s f_ = some y) : SC Try.prog 60 [s_v0, .func (.func f__k) #[] f__c.toArray] (.bool y) H := by
 rw [F_slices_ContainsFunc___api_Panel_api_Panel_] at hF
 refine SC.of (N := 9) Try.func60 rfl rfl rfl fun w => ?_
 refine JC.seq (JC.region (by rfl) ?_)
 intro hQ
 refine JL.assign .none rfl ?_
 refine JL.done hQ (JQ.go (JC.seq (JC.region (by rfl) ?_)))
 intro hQ
 refine JL.move .none rfl ?_
 refine JL.move .none rfl ?_
 obtain ⟨y1, hy1, hF⟩ := bind_some hF
 refine JL.callS (c_slices_IndexFunc___api_Panel_api_Panel_ n H s s_v0 hs_0 f_ f__k f__c f__e (fun H' hs' => f__h H' hs') y1 hy1) rfl en_75 .none rfl ?_
 refine JL.bin rfl rfl rfl .none rfl ?_
 refine JL.assign .none rfl ?_
 refine JL.done hQ (JQ.go (JC.ret ?_))
 obtain rfl := Option.some.inj hF
 exact JQ.outS rfl (.tmp .nil) rfl
-- 62 ferrule/lays.isPanel
def F_lays_isPanel_s1 (n : Nat) (p : Panel) : Int × Int → Option ((Int × Int) ⊕ (Bool ⊕ Int))
 | (least_79, x_80) => if decide (x_80 < (p.Rows.length : Int)) = true then ((geti p.Rows x_80).bind fun y85 => (F_lays_within n y85.Low 0 y85.High).bind fun y91 => if ((!y91) || (decide (8 ≤ y85.High))) = true then (some (Sum.inr (Sum.inl false))) else (some (Sum.inl ((min least_79 y85.Low), (w64 (x_80 + 1)))))) else (some (Sum.inr (Sum.inr least_79)))
def F_lays_isPanel (n : Nat) (p : Panel) : Option Bool :=
 (F_lays_within n (p.Rows.length : Int) 1 4).bind fun y2 => if (!y2) = true then (some false) else ((loopO n (F_lays_isPanel_s1 n p) (8, 0)).bind fun r50 => match r50 with | .inl o => some o | .inr least_48 => some (least_48 == 0))
theorem c_lays_isPanel (n : Nat) (H : Hp) (p : Panel) (p_v0 : Value) (hp_0 : SL H 2 R_Span p_v0 p.Rows) (y : Bool) (hF : F_lays_isPanel n p = some y) : SC Try.prog 62 [.agg [p_v0].toArray] (.bool y) H := by
 rw [F_lays_isPanel] at hF
 refine SC.of (N := 36) Try.func62 rfl rfl rfl fun w => ?_
 refine JC.seq (JC.region (by rfl) ?_)
 intro hQ
 refine JL.box (cs := [p_v0]) rfl .none rfl ?_
 intro b1
 refine JL.assign .none rfl ?_
 refine JL.done hQ (JQ.go (JC.seq (JC.seq (JC.region (by rfl) ?_))))
 intro hQ
 refine JL.fieldAddr fo_30_0 rfl .none rfl ?_
 refine JL.loadOwn 0 az_28 rfl rfl rfl .none rfl ?_
 refine JL.lenSL (R := R_Span) ul_28 hp_0 .none rfl ?_
 obtain ⟨y2, hy2, hF⟩ := bind_some hF
 refine JL.callS (c_lays_within n H (p.Rows.length : Int) 1 4 y2 hy2) rfl en_48 .none rfl ?_
 refine JL.not rfl .none rfl ?_
 refine JL.done hQ (JQ.go ?_)
 rcases ite_some hF with ⟨hc3, hF⟩ | ⟨hc3, hF⟩
 ·refine JC.cond_t (b := (!y2)) rfl hc3 ?_
  refine JC.seq (JC.region (by rfl) ?_)
  intro hQ
  refine JL.assign .none rfl ?_
  refine JL.done hQ (JQ.go (JC.ret (JQ.ret_then ?_)))
  obtain rfl := Option.some.inj hF
  exact JQ.outS rfl (.tmp .nil) rfl
 ·refine JC.cond_f (b := (!y2)) rfl hc3 ?_
  refine JC.skip (JQ.go (JC.seq (JC.region (by rfl) ?_)))
  intro hQ
  refine JL.assign .none rfl ?_
  refine JL.done hQ (JQ.go (JC.seq (JC.seq (JC.region (by rfl) ?_))))
  intro hQ
  refine JL.fieldAddr fo_30_0 rfl .none rfl ?_
  refine JL.loadOwn 0 az_28 rfl rfl rfl .none rfl ?_
  refine JL.lenSL (R := R_Span) ul_28 hp_0 .none rfl ?_
  refine JL.move .none rfl ?_
  refine JL.done hQ (JQ.go ?_)
  obtain ⟨r50, hlr50, hKr50⟩ := bind_some hF
  refine JC.join (fun (least_48 : Int) H49 f bs gs => f 3 = .int .i64 least_48 ∧ bs = [] ∧ gs = [] ∧ HSub H H49 ∧ Sum.inr least_48 = r50) ?_ ?_
  ·skip
   refine JC.block (JC.mask [false] [] ?_)
   refine JC.loop hlr50 (fun (x : Int × Int) H81 f bs gs => match x with | (least_79, x_80) => f 3 = .int .i64 least_79 ∧ f 12 = p_v0 ∧ f 13 = .int .i64 (p.Rows.length : Int) ∧ f 14 = .int .i64 x_80 ∧ bs = [] ∧ gs = [] ∧ HSub H H81) ⟨rfl, rfl, rfl, rfl, rfl, rfl, (HSub.refl _)⟩ ?_
   rintro ⟨least_79, x_80⟩ x83 H81 f bs gs ⟨hf3, hf12, hf13, hf14, rfl, rfl, hs81⟩ hF hr82
   rw [F_lays_isPanel_s1] at hF
   refine (JC.norm (i := 3) hf3 (JC.norm (i := 12) hf12 (JC.norm (i := 13) hf13 (JC.norm (i := 14) hf14 ?_))))
   refine JC.seq (JC.region (by rfl) ?_)
   intro hQ
   refine JL.bin rfl rfl rfl .none rfl ?_
   refine JL.done hQ (JQ.go (JC.seq ?_))
   rcases ite_some hF with ⟨hc84, hF⟩ | ⟨hc84, hF⟩
   ·refine JC.cond_t (b := decide (x_80 < (p.Rows.length : Int))) rfl hc84 ?_
    refine JC.skip (JQ.go (JC.seq (JC.block (JC.seq (JC.region (by rfl) ?_)))))
    intro hQ
    obtain ⟨y85, hy85, hF⟩ := bind_some hF
    refine JL.indexSL (R := R_Span) sl_28 (SL.mono R_Span_mono hs81 hp_0) rfl hy85 .none rfl ?_
    rintro b86 o87 cs88 hc89 - rfl
    refine JL.loadH 0 az_46 rfl hc89 rfl .none rfl ?_
    refine JL.alloc ze_46 .none rfl ?_
    intro b90
    refine JL.storeOwn 0 (cs := [.int .i64 y85.Low, .int .i64 y85.High]) az_46 rfl rfl rfl (one_cons rfl (one_cons rfl one_nil)) rfl rfl .none ?_
    refine JL.done hQ (JQ.go (JC.seq (JC.seq (JC.region (by rfl) ?_))))
    intro hQ
    refine JL.fieldAddr fo_46_0 rfl .none rfl ?_
    refine JL.loadOwn 0 az_3 rfl rfl rfl .none rfl ?_
    refine JL.fieldAddr fo_46_1 rfl .none rfl ?_
    refine JL.loadOwn 0 az_3 rfl rfl rfl .none rfl ?_
    obtain ⟨y91, hy91, hF⟩ := bind_some hF
    refine JL.callS (c_lays_within n H81 y85.Low 0 y85.High y91 hy91) rfl en_48 .none rfl ?_
    refine JL.not rfl .none rfl ?_
    refine JL.move .none rfl ?_
    refine JL.cut 4 (fun f => f 3 = .int .i64 least_79 ∧ f 5 = .pointer (some ⟨b90, 0, none⟩) ∧ f 12 = p_v0 ∧ f 13 = .int .i64 (p.Rows.length : Int) ∧ f 14 = .int .i64 x_80 ∧ f 28 = .bool ((!y91) || (decide (8 ≤ y85.High)))) ?_ ?_
    ·intro hJ92
     rcases bcases (!y91) with hc93 | hc93
     ·skip
      refine JL.skip (.bool rfl rfl rfl hc93) rfl ?_
      refine JL.skip (.bool rfl rfl rfl hc93) rfl ?_
      refine JL.skip (.bool rfl rfl rfl hc93) rfl ?_
      refine JL.pick_t (b := (!y91)) rfl hc93 .none rfl ?_
      exact hJ92 _ ⟨rfl, rfl, rfl, rfl, rfl, or_t hc93 rfl⟩
     ·skip
      refine JL.fieldAddr fo_46_1 rfl (.some rfl rfl rfl hc93) rfl ?_
      refine JL.loadOwn 0 az_3 rfl rfl rfl (.some rfl rfl rfl hc93) rfl ?_
      refine JL.bin rfl rfl rfl (.some rfl rfl rfl hc93) rfl ?_
      refine JL.pick_f (b := (!y91)) rfl hc93 .none rfl ?_
      exact hJ92 _ ⟨rfl, rfl, rfl, rfl, rfl, or_f hc93 rfl⟩
    ·rintro f ⟨hf3, hf5, hf12, hf13, hf14, hf28⟩
     refine (JL.norm (i := 3) hf3 (JL.norm (i := 5) hf5 (JL.norm (i := 12) hf12 (JL.norm (i := 13) hf13 (JL.norm (i := 14) hf14 (JL.norm (i := 28) hf28 ?_))))))
     refine JL.done hQ (JQ.go ?_)
     rcases ite_some hF with ⟨hc94, hF⟩ | ⟨hc94, hF⟩
     ·refine JC.cond_t (b := ((!y91) || (decide (8 ≤ y85.High)))) rfl hc94 ?_
      refine JC.seq (JC.region (by rfl) ?_)
      intro hQ
      refine JL.assign .none rfl ?_
      refine JL.done hQ (JQ.go (JC.ret (JQ.ret_then (JQ.ret_block (JQ.ret_then (JQ.ret_then (JQ.ret_block (JQ.ret_join (JQ.ret_then ?_)))))))))
      obtain rfl := Option.some.inj hF
      have ehr82 := hr82 _ rfl
      subst ehr82
      have hF := hKr50
      try dsimp only at hF
      obtain rfl := Option.some.inj hF
      exact JQ.outS rfl (.tmp .nil) rfl
     ·refine JC.cond_f (b := ((!y91) || (decide (8 ≤ y85.High)))) rfl hc94 ?_
      refine JC.skip (JQ.go (JC.region (by rfl) ?_))
      intro hQ
      refine JL.move .none rfl ?_
      refine JL.fieldAddr fo_46_0 rfl .none rfl ?_
      refine JL.loadOwn 0 az_3 rfl rfl rfl .none rfl ?_
      refine JL.min rfl rfl .none rfl ?_
      refine JL.assign .none rfl ?_
      refine JL.done hQ (JQ.normal_block (JQ.go (JC.region (by rfl) ?_)))
      intro hQ
      refine JL.bin rfl rfl rfl .none rfl ?_
      refine JL.move .none rfl ?_
      refine JL.done hQ ?_
      obtain rfl := Option.some.inj hF
      refine JQ.mask [false] [] ?_
      exact JQ.next rfl ⟨rfl, rfl, rfl, rfl, rfl, rfl, hs81⟩
   ·refine JC.cond_f (b := decide (x_80 < (p.Rows.length : Int))) rfl hc84 ?_
    refine JC.exit (JQ.exit_then (JQ.exit_then (JQ.exit_block ?_)))
    obtain rfl := Option.some.inj hF
    have ehr82 := hr82 _ rfl
    subst ehr82
    exact JQ.join least_79 ⟨rfl, rfl, rfl, hs81, rfl⟩
  ·rintro least_48 H49 f bs gs ⟨hf3, rfl, rfl, hs49, rfl⟩
   have hF := hKr50
   try dsimp only at hF
   refine (JQ.norm (i := 3) hf3 ?_)
   refine JQ.go (JC.seq (JC.region (by rfl) ?_))
   intro hQ
   refine JL.move .none rfl ?_
   refine JL.bin rfl rfl rfl .none rfl ?_
   refine JL.assign .none rfl ?_
   refine JL.done hQ (JQ.go (JC.ret ?_))
   obtain rfl := Option.some.inj hF
   exact JQ.outS rfl (.tmp .nil) rfl
-- 61 ferrule/lays.Check$1
def F_lays_Check_1 (n : Nat) (p : Panel) : Option Bool :=
 (F_lays_isPanel n p).bind fun y2 => some (!y2)
theorem c_lays_Check_1 (n : Nat) (H : Hp) (p : Panel) (p_v0 : Value) (hp_0 : SL H 2 R_Span p_v0 p.Rows) (y : Bool) (hF : F_lays_Check_1 n p = some y) : SC Try.prog 61 [.agg [p_v0].toArray] (.bool y) H := by
 rw [F_lays_Check_1] at hF
 refine SC.of (N := 6) Try.func61 rfl rfl rfl fun w => ?_
 refine JC.seq (JC.region (by rfl) ?_)
 intro hQ
 refine JL.box (cs := [p_v0]) rfl .none rfl ?_
 intro b1
 refine JL.assign .none rfl ?_
 refine JL.done hQ (JQ.go (JC.seq (JC.region (by rfl) ?_)))
 intro hQ
 refine JL.loadOwn 0 az_30 rfl rfl rfl .none rfl ?_
 obtain ⟨y2, hy2, hF⟩ := bind_some hF
 refine JL.callS (c_lays_isPanel n H p p_v0 hp_0 y2 hy2) rfl en_62 .none rfl ?_
 refine JL.not rfl .none rfl ?_
 refine JL.assign .none rfl ?_
 refine JL.done hQ (JQ.go (JC.ret ?_))
 obtain rfl := Option.some.inj hF
 exact JQ.outS rfl (.tmp .nil) rfl
end Go.Proofs.Ytflhjlgimihmgaa
end
section
set_option maxRecDepth 100000
set_option maxHeartbeats 40000000
namespace Go.Proofs.Ytflhjlgimihmgaa
open Go Go.RowKit Go.Dec
set_option linter.unusedVariables false
-- 33 ferrule/lays.Check
def F_lays_Check_s1 (n : Nat) (s : Lap) (y26 : (List Cell)) : Int × Mp → Option ((Int × Mp) ⊕ (Int ⊕ Unit))
 | (x_362, m_363) => if decide (x_362 < (y26.length : Int)) = true then ((geti y26 x_362).bind fun y368 => (kok 2 [y368.Row, y368.Col]).bind fun _ => (kok 2 [y368.Row, y368.Col]).bind fun _ => (kok 2 [y368.Row, y368.Col]).bind fun _ => (if decide (1 < (mget (mput (mput m_363 [y368.Row, y368.Col] (mget m_363 [y368.Row, y368.Col])) [y368.Row, y368.Col] (w64 ((mget m_363 [y368.Row, y368.Col]) + 1))) [y368.Row, y368.Col])) = true then (some true) else ((F_lays_within n y368.Row 0 (w64 (s.Length - 1))).bind fun y413 => some (!y413)) : Option Bool).bind fun p410 => (if p410 = true then (some true) else ((F_lays_within n y368.Col 0 (w64 (s.Width - 1))).bind fun y418 => some (!y418)) : Option Bool).bind fun p415 => if p415 = true then (some (Sum.inr (Sum.inl 30))) else (some (Sum.inl ((w64 (x_362 + 1)), (mput (mput m_363 [y368.Row, y368.Col] (mget m_363 [y368.Row, y368.Col])) [y368.Row, y368.Col] (w64 ((mget m_363 [y368.Row, y368.Col]) + 1))))))) else (some (Sum.inr (Sum.inr ())))
def F_lays_Check (n : Nat) (s : Lap) : Option Int :=
 (F_lays_within n s.Width 1 8).bind fun y2 => (if (!y2) = true then (some true) else ((F_lays_within n s.Length 1 12).bind fun y7 => some (!y7)) : Option Bool).bind fun p4 => if (((p4 || (decide (20 < (s.Faults.length : Int)))) || (decide (20 < (s.Flaws.length : Int)))) || (decide (5 < (s.Panels.length : Int)))) = true then (some 30) else ((F_slices_Concat___api_Cell_api_Cell_ n [s.Faults, s.Flaws]).bind fun y26 => (loopO n (F_lays_Check_s1 n s y26) (0, ([] : Mp))).bind fun r229 => match r229 with | .inl o => some o | .inr _ => (F_slices_ContainsFunc___api_Panel_api_Panel_ n s.Panels (fun a0_ => F_lays_Check_1 n a0_)).bind fun y430 => if y430 = true then (some 30) else (some 0))
theorem c_lays_Check (n : Nat) (H : Hp) (s : Lap) (s_v2 : Value) (hs_2 : SL H 2 R_Cell s_v2 s.Faults) (s_v3 : Value) (hs_3 : SL H 2 R_Cell s_v3 s.Flaws) (s_v4 : Value) (hs_4 : SL H 1 R_Panel s_v4 s.Panels) (y : Int) (hF : F_lays_Check n s = some y) : SC Try.prog 33 [.agg [.int .i64 s.Width, .int .i64 s.Length, s_v2, s_v3, s_v4].toArray] (.int .i64 y) H := by
 rw [F_lays_Check] at hF
 refine SC.of (N := 78) Try.func33 rfl rfl rfl fun w => ?_
 refine JC.seq (JC.region (by rfl) ?_)
 intro hQ
 refine JL.box (cs := [.int .i64 s.Width, .int .i64 s.Length, s_v2, s_v3, s_v4]) rfl .none rfl ?_
 intro b1
 refine JL.assign .none rfl ?_
 refine JL.done hQ (JQ.go (JC.seq (JC.seq (JC.region (by rfl) ?_))))
 intro hQ
 refine JL.fieldAddr fo_25_0 rfl .none rfl ?_
 refine JL.loadOwn 0 az_3 rfl rfl rfl .none rfl ?_
 obtain ⟨y2, hy2, hF⟩ := bind_some hF
 refine JL.callS (c_lays_within n H s.Width 1 8 y2 hy2) rfl en_48 .none rfl ?_
 refine JL.not rfl .none rfl ?_
 refine JL.move .none rfl ?_
 obtain ⟨p4, hp4, hF⟩ := bind_some hF
 refine JL.cut 5 (fun f => f 1 = .pointer (some ⟨b1, 0, none⟩) ∧ f 15 = .bool p4) ?_ ?_
 ·intro hJ5
  rcases ite_some hp4 with ⟨hc6, hF⟩ | ⟨hc6, hF⟩
  ·skip
   refine JL.skip (.bool rfl rfl rfl hc6) rfl ?_
   refine JL.skip (.bool rfl rfl rfl hc6) rfl ?_
   refine JL.skip (.bool rfl rfl rfl hc6) rfl ?_
   refine JL.skip (.bool rfl rfl rfl hc6) rfl ?_
   refine JL.pick_t (b := (!y2)) rfl hc6 .none rfl ?_
   obtain rfl := Option.some.inj hF
   exact hJ5 _ ⟨rfl, rfl⟩
  ·skip
   refine JL.fieldAddr fo_25_1 rfl (.some rfl rfl rfl hc6) rfl ?_
   refine JL.loadOwn 0 az_3 rfl rfl rfl (.some rfl rfl rfl hc6) rfl ?_
   obtain ⟨y7, hy7, hF⟩ := bind_some hF
   refine JL.callS (c_lays_within n H s.Length 1 12 y7 hy7) rfl en_48 (.some rfl rfl rfl hc6) rfl ?_
   refine JL.not rfl (.some rfl rfl rfl hc6) rfl ?_
   refine JL.pick_f (b := (!y2)) rfl hc6 .none rfl ?_
   obtain rfl := Option.some.inj hF
   exact hJ5 _ ⟨rfl, rfl⟩
 ·rintro f ⟨hf1, hf15⟩
  refine (JL.norm (i := 1) hf1 (JL.norm (i := 15) hf15 ?_))
  refine JL.move .none rfl ?_
  refine JL.cut 5 (fun f => f 1 = .pointer (some ⟨b1, 0, none⟩) ∧ f 21 = .bool (p4 || (decide (20 < (s.Faults.length : Int))))) ?_ ?_
  ·intro hJ8
   rcases bcases p4 with hc9 | hc9
   ·skip
    refine JL.skip (.bool rfl rfl rfl hc9) rfl ?_
    refine JL.skip (.bool rfl rfl rfl hc9) rfl ?_
    refine JL.skip (.bool rfl rfl rfl hc9) rfl ?_
    refine JL.skip (.bool rfl rfl rfl hc9) rfl ?_
    refine JL.pick_t (b := p4) rfl hc9 .none rfl ?_
    exact hJ8 _ ⟨rfl, or_t hc9 rfl⟩
   ·skip
    refine JL.fieldAddr fo_25_2 rfl (.some rfl rfl rfl hc9) rfl ?_
    refine JL.loadOwn 0 az_22 rfl rfl rfl (.some rfl rfl rfl hc9) rfl ?_
    refine JL.lenSL (R := R_Cell) ul_22 hs_2 (.some rfl rfl rfl hc9) rfl ?_
    refine JL.bin rfl rfl rfl (.some rfl rfl rfl hc9) rfl ?_
    refine JL.pick_f (b := p4) rfl hc9 .none rfl ?_
    exact hJ8 _ ⟨rfl, or_f hc9 rfl⟩
  ·rintro f ⟨hf1, hf21⟩
   refine (JL.norm (i := 1) hf1 (JL.norm (i := 21) hf21 ?_))
   refine JL.move .none rfl ?_
   refine JL.cut 5 (fun f => f 1 = .pointer (some ⟨b1, 0, none⟩) ∧ f 27 = .bool ((p4 || (decide (20 < (s.Faults.length : Int)))) || (decide (20 < (s.Flaws.length : Int))))) ?_ ?_
   ·intro hJ10
    rcases bcases (p4 || (decide (20 < (s.Faults.length : Int)))) with hc11 | hc11
    ·skip
     refine JL.skip (.bool rfl rfl rfl hc11) rfl ?_
     refine JL.skip (.bool rfl rfl rfl hc11) rfl ?_
     refine JL.skip (.bool rfl rfl rfl hc11) rfl ?_
     refine JL.skip (.bool rfl rfl rfl hc11) rfl ?_
     refine JL.pick_t (b := (p4 || (decide (20 < (s.Faults.length : Int))))) rfl hc11 .none rfl ?_
     exact hJ10 _ ⟨rfl, or_t hc11 rfl⟩
    ·skip
     refine JL.fieldAddr fo_25_3 rfl (.some rfl rfl rfl hc11) rfl ?_
     refine JL.loadOwn 0 az_22 rfl rfl rfl (.some rfl rfl rfl hc11) rfl ?_
     refine JL.lenSL (R := R_Cell) ul_22 hs_3 (.some rfl rfl rfl hc11) rfl ?_
     refine JL.bin rfl rfl rfl (.some rfl rfl rfl hc11) rfl ?_
     refine JL.pick_f (b := (p4 || (decide (20 < (s.Faults.length : Int))))) rfl hc11 .none rfl ?_
     exact hJ10 _ ⟨rfl, or_f hc11 rfl⟩
   ·rintro f ⟨hf1, hf27⟩
    refine (JL.norm (i := 1) hf1 (JL.norm (i := 27) hf27 ?_))
    refine JL.move .none rfl ?_
    refine JL.cut 5 (fun f => f 1 = .pointer (some ⟨b1, 0, none⟩) ∧ f 33 = .bool (((p4 || (decide (20 < (s.Faults.length : Int)))) || (decide (20 < (s.Flaws.length : Int)))) || (decide (5 < (s.Panels.length : Int))))) ?_ ?_
    ·intro hJ12
     rcases bcases ((p4 || (decide (20 < (s.Faults.length : Int)))) || (decide (20 < (s.Flaws.length : Int)))) with hc13 | hc13
     ·skip
      refine JL.skip (.bool rfl rfl rfl hc13) rfl ?_
      refine JL.skip (.bool rfl rfl rfl hc13) rfl ?_
      refine JL.skip (.bool rfl rfl rfl hc13) rfl ?_
      refine JL.skip (.bool rfl rfl rfl hc13) rfl ?_
      refine JL.pick_t (b := ((p4 || (decide (20 < (s.Faults.length : Int)))) || (decide (20 < (s.Flaws.length : Int))))) rfl hc13 .none rfl ?_
      exact hJ12 _ ⟨rfl, or_t hc13 rfl⟩
     ·skip
      refine JL.fieldAddr fo_25_4 rfl (.some rfl rfl rfl hc13) rfl ?_
      refine JL.loadOwn 0 az_23 rfl rfl rfl (.some rfl rfl rfl hc13) rfl ?_
      refine JL.lenSL (R := R_Panel) ul_23 hs_4 (.some rfl rfl rfl hc13) rfl ?_
      refine JL.bin rfl rfl rfl (.some rfl rfl rfl hc13) rfl ?_
      refine JL.pick_f (b := ((p4 || (decide (20 < (s.Faults.length : Int)))) || (decide (20 < (s.Flaws.length : Int))))) rfl hc13 .none rfl ?_
      exact hJ12 _ ⟨rfl, or_f hc13 rfl⟩
    ·rintro f ⟨hf1, hf33⟩
     refine (JL.norm (i := 1) hf1 (JL.norm (i := 33) hf33 ?_))
     refine JL.done hQ (JQ.go ?_)
     rcases ite_some hF with ⟨hc14, hF⟩ | ⟨hc14, hF⟩
     ·refine JC.cond_t (b := (((p4 || (decide (20 < (s.Faults.length : Int)))) || (decide (20 < (s.Flaws.length : Int)))) || (decide (5 < (s.Panels.length : Int))))) rfl hc14 ?_
      refine JC.seq (JC.region (by rfl) ?_)
      intro hQ
      refine JL.assign .none rfl ?_
      refine JL.done hQ (JQ.go (JC.ret (JQ.ret_then ?_)))
      obtain rfl := Option.some.inj hF
      exact JQ.outS rfl (.tmp .nil) rfl
     ·refine JC.cond_f (b := (((p4 || (decide (20 < (s.Faults.length : Int)))) || (decide (20 < (s.Flaws.length : Int)))) || (decide (5 < (s.Panels.length : Int))))) rfl hc14 ?_
      refine JC.skip (JQ.go (JC.seq (JC.region (by rfl) ?_)))
      intro hQ
      refine JL.makeMap .none rfl ?_
      intro b15
      refine JL.assign .none rfl ?_
      refine JL.done hQ (JQ.go (JC.seq (JC.seq (JC.region (by rfl) ?_))))
      intro hQ
      refine JL.fieldAddr fo_25_2 rfl .none rfl ?_
      refine JL.loadOwn 1 az_22 rfl rfl rfl .none rfl ?_
      refine JL.fieldAddr fo_25_3 rfl .none rfl ?_
      refine JL.loadOwn 1 az_22 rfl rfl rfl .none rfl ?_
      obtain ⟨a16, c17, rfl, hh18⟩ := hs_2
      have hs_2 : SL H 2 R_Cell (.slice a16 s.Faults.length c17) s.Faults := ⟨a16, c17, rfl, hh18⟩
      obtain ⟨a19, c20, rfl, hh21⟩ := hs_3
      have hs_3 : SL H 2 R_Cell (.slice a19 s.Flaws.length c20) s.Flaws := ⟨a19, c20, rfl, hh21⟩
      refine JL.buildSlice (e := 22) (l := [(.slice a16 s.Faults.length c17), (.slice a19 s.Flaws.length c20)]) (by kernel_rfl) .none rfl ?_
      intro b22
      refine JL.freezeC 0 (l := [(.slice a16 s.Faults.length c17), (.slice a19 s.Flaws.length c20)]) rfl ?_
      intro H23 hs23 hc24
      have hg25 : SL H23 1 (RSl 2 R_Cell) (.slice (some ⟨b22, 0, none⟩) 2 2) [s.Faults, s.Flaws] := CH.sl (l := [s.Faults, s.Flaws]) (CH.cons (cs := [(.slice a16 s.Faults.length c17)]) rfl ⟨_, rfl, (SL.mono R_Cell_mono hs23 hs_2)⟩ (CH.cons (cs := [(.slice a19 s.Flaws.length c20)]) rfl ⟨_, rfl, (SL.mono R_Cell_mono hs23 hs_3)⟩ CH.nil)) hc24 ⟨by simp, by simp⟩
      obtain ⟨y26, hy26, hF⟩ := bind_some hF
      refine JL.callH (c_slices_Concat___api_Cell_api_Cell_ n H23 [s.Faults, s.Flaws] (.slice (some ⟨b22, 0, none⟩) 2 2) hg25 y26 hy26) rfl en_59 .none rfl ?_
      intro H27 y26a_v0 hs27 hy26a_0
      refine JL.lenSL (R := R_Cell) ul_22 hy26a_0 .none rfl ?_
      refine JL.move .none rfl ?_
      refine JL.done hQ (JQ.go ?_)
      obtain ⟨r229, hlr229, hKr229⟩ := bind_some hF
      refine JC.join (fun (_ : Unit) H228 f bs gs => f 1 = .pointer (some ⟨b1, 0, none⟩) ∧ bs = [(b1, .cells [.int .i64 s.Width, .int .i64 s.Length, (.slice a16 s.Faults.length c17), (.slice a19 s.Flaws.length c20), s_v4].toArray 25)] ∧ gs = [] ∧ HSub H27 H228 ∧ Sum.inr () = r229) ?_ ?_
      ·skip
       refine JC.block (JC.loop hlr229 (fun (x : Int × Mp) H364 f bs gs => match x with | (x_362, m_363) => ∃ (em_363 : Array MapEntry) (cm_363 : Nat), f 1 = .pointer (some ⟨b1, 0, none⟩) ∧ f 3 = .map (some b15) ∧ f 40 = y26a_v0 ∧ f 41 = .int .i64 (y26.length : Int) ∧ f 42 = .int .i64 x_362 ∧ bs = [(b15, .map em_363 cm_363), (b1, .cells [.int .i64 s.Width, .int .i64 s.Length, (.slice a16 s.Faults.length c17), (.slice a19 s.Flaws.length c20), s_v4].toArray 25)] ∧ gs = [] ∧ MR 2 ekA m_363 em_363 cm_363 ∧ HSub H27 H364) ⟨#[], 0, rfl, rfl, rfl, rfl, rfl, rfl, rfl, MR.empty, (HSub.refl _)⟩ ?_)
       rintro ⟨x_362, m_363⟩ x366 H364 f bs gs ⟨em_363, cm_363, hf1, hf3, hf40, hf41, hf42, rfl, rfl, hm_363, hs364⟩ hF hr365
       rw [F_lays_Check_s1] at hF
       refine (JC.norm (i := 1) hf1 (JC.norm (i := 3) hf3 (JC.norm (i := 40) hf40 (JC.norm (i := 41) hf41 (JC.norm (i := 42) hf42 ?_)))))
       refine JC.seq (JC.region (by rfl) ?_)
       intro hQ
       refine JL.bin rfl rfl rfl .none rfl ?_
       refine JL.done hQ (JQ.go (JC.seq ?_))
       rcases ite_some hF with ⟨hc367, hF⟩ | ⟨hc367, hF⟩
       ·refine JC.cond_t (b := decide (x_362 < (y26.length : Int))) rfl hc367 ?_
        refine JC.skip (JQ.go (JC.seq (JC.block (JC.seq (JC.region (by rfl) ?_)))))
        intro hQ
        obtain ⟨y368, hy368, hF⟩ := bind_some hF
        refine JL.indexSL (R := R_Cell) sl_22 (SL.mono R_Cell_mono hs364 hy26a_0) rfl hy368 .none rfl ?_
        rintro b369 o370 cs371 hc372 - rfl
        refine JL.loadH 0 az_27 rfl hc372 rfl .none rfl ?_
        refine JL.alloc ze_27 .none rfl ?_
        intro b373
        refine JL.storeOwn 0 (cs := [.int .i64 y368.Row, .int .i64 y368.Col]) az_27 rfl rfl rfl (one_cons rfl (one_cons rfl one_nil)) rfl rfl .none ?_
        refine JL.done hQ (JQ.go (JC.seq ?_))
        obtain ⟨u375, hu375, hF⟩ := bind_some hF
        obtain ⟨u376, hu376, hF⟩ := bind_some hF
        refine JC.mixed 7 7 #[false, false, false, false, false, false, false] [(b373, .cells [.int .i64 y368.Row, .int .i64 y368.Col].toArray 27), (b1, .cells [.int .i64 s.Width, .int .i64 s.Length, (.slice a16 s.Faults.length c17), (.slice a19 s.Flaws.length c20), s_v4].toArray 25)] (by rfl) mo_ (by kernel_rfl) (by kernel_rfl) ?_
        intro hQ hE
        refine JA.cut 1 #[true, true, true, true, true, true, false] (fun H403 f bs gs => ∃ (es396 : Array MapEntry) (ck397 : Nat) (stp398 : Int), f 1 = .pointer (some ⟨b1, 0, none⟩) ∧ f 3 = .map (some b15) ∧ f 5 = .pointer (some ⟨b373, 0, none⟩) ∧ f 40 = y26a_v0 ∧ f 41 = .int .i64 (y26.length : Int) ∧ f 42 = .int .i64 x_362 ∧ f 46 = .map (some b15) ∧ f 49 = .int .i64 (w64 ((mget m_363 [y368.Row, y368.Col]) + 1)) ∧ f 51 = .int .i64 stp398 ∧ bs = [(b373, .cells [.int .i64 y368.Row, .int .i64 y368.Col].toArray 27), (b15, .map es396 ck397), (b1, .cells [.int .i64 s.Width, .int .i64 s.Length, (.slice a16 s.Faults.length c17), (.slice a19 s.Flaws.length c20), s_v4].toArray 25)] ∧ gs = [] ∧ MR 2 ekA (mput m_363 [y368.Row, y368.Col] (mget m_363 [y368.Row, y368.Col])) es396 ck397 ∧ EAt es396 stp398 (ekA [y368.Row, y368.Col]) ∧ HSub H364 H403) ?_ ?_
        ·rintro H403 f bs gs ⟨es396, ck397, stp398, hf1, hf3, hf5, hf40, hf41, hf42, hf46, hf49, hf51, rfl, rfl, hm404, hm405, hs403⟩
         refine (JA.norm (i := 1) hf1 (JA.norm (i := 3) hf3 (JA.norm (i := 5) hf5 (JA.norm (i := 40) hf40 (JA.norm (i := 41) hf41 (JA.norm (i := 42) hf42 (JA.norm (i := 46) hf46 (JA.norm (i := 49) hf49 (JA.norm (i := 51) hf51 ?_)))))))))
         refine JA.many [6] (by kernel_rfl) (by simp) (all_one ⟨_, #[true, true, true, true, true, true, true], rfl, (by kernel_rfl), ?_⟩)
         refine JL.storeM (k := [y368.Row, y368.Col]) 1 kt_27 rfl rfl hm404 (kok_some hu376) rfl hm405 rfl .none rfl ?_
         intro es406 hm407
         refine JA.after hE hs403 (.cons_cons _ (.cons _ (.cons_cons _ (List.nil_sublist _)))) ?_
         refine JA.done hQ (by kernel_rfl) ?_
         refine JQ.go (JC.seq (JC.region (by rfl) ?_))
         intro hQ
         refine JL.move .none rfl ?_
         refine JL.loadOwn 0 az_27 rfl rfl rfl .none rfl ?_
         obtain ⟨u408, hu408, hF⟩ := bind_some hF
         refine JL.lookupM (k := [y368.Row, y368.Col]) mp_98 kt_27 rfl (.own 1 rfl) hm407 rfl hu408 .none rfl ?_
         refine JL.bin rfl rfl rfl .none rfl ?_
         refine JL.move .none rfl ?_
         obtain ⟨p410, hp410, hF⟩ := bind_some hF
         refine JL.cut 8 (fun f => f 1 = .pointer (some ⟨b1, 0, none⟩) ∧ f 3 = .map (some b15) ∧ f 5 = .pointer (some ⟨b373, 0, none⟩) ∧ f 40 = y26a_v0 ∧ f 41 = .int .i64 (y26.length : Int) ∧ f 42 = .int .i64 x_362 ∧ f 64 = .bool p410) ?_ ?_
         ·intro hJ411
          rcases ite_some hp410 with ⟨hc412, hF⟩ | ⟨hc412, hF⟩
          ·skip
           refine JL.skip (.bool rfl rfl rfl hc412) rfl ?_
           refine JL.skip (.bool rfl rfl rfl hc412) rfl ?_
           refine JL.skip (.bool rfl rfl rfl hc412) rfl ?_
           refine JL.skip (.bool rfl rfl rfl hc412) rfl ?_
           refine JL.skip (.bool rfl rfl rfl hc412) rfl ?_
           refine JL.skip (.bool rfl rfl rfl hc412) rfl ?_
           refine JL.skip (.bool rfl rfl rfl hc412) rfl ?_
           refine JL.pick_t (b := decide (1 < (mget (mput (mput m_363 [y368.Row, y368.Col] (mget m_363 [y368.Row, y368.Col])) [y368.Row, y368.Col] (w64 ((mget m_363 [y368.Row, y368.Col]) + 1))) [y368.Row, y368.Col]))) rfl hc412 .none rfl ?_
           obtain rfl := Option.some.inj hF
           exact hJ411 _ ⟨rfl, rfl, rfl, rfl, rfl, rfl, rfl⟩
          ·skip
           refine JL.fieldAddr fo_27_0 rfl (.some rfl rfl rfl hc412) rfl ?_
           refine JL.loadOwn 0 az_3 rfl rfl rfl (.some rfl rfl rfl hc412) rfl ?_
           refine JL.fieldAddr fo_25_1 rfl (.some rfl rfl rfl hc412) rfl ?_
           refine JL.loadOwn 2 az_3 rfl rfl rfl (.some rfl rfl rfl hc412) rfl ?_
           refine JL.bin rfl rfl rfl (.some rfl rfl rfl hc412) rfl ?_
           obtain ⟨y413, hy413, hF⟩ := bind_some hF
           refine JL.callS (c_lays_within n H403 y368.Row 0 (w64 (s.Length - 1)) y413 hy413) rfl en_48 (.some rfl rfl rfl hc412) rfl ?_
           refine JL.not rfl (.some rfl rfl rfl hc412) rfl ?_
           refine JL.pick_f (b := decide (1 < (mget (mput (mput m_363 [y368.Row, y368.Col] (mget m_363 [y368.Row, y368.Col])) [y368.Row, y368.Col] (w64 ((mget m_363 [y368.Row, y368.Col]) + 1))) [y368.Row, y368.Col]))) rfl hc412 .none rfl ?_
           obtain rfl := Option.some.inj hF
           exact hJ411 _ ⟨rfl, rfl, rfl, rfl, rfl, rfl, rfl⟩
         ·rintro f ⟨hf1, hf3, hf5, hf40, hf41, hf42, hf64⟩
          refine (JL.norm (i := 1) hf1 (JL.norm (i := 3) hf3 (JL.norm (i := 5) hf5 (JL.norm (i := 40) hf40 (JL.norm (i := 41) hf41 (JL.norm (i := 42) hf42 (JL.norm (i := 64) hf64 ?_)))))))
          refine JL.move .none rfl ?_
          obtain ⟨p415, hp415, hF⟩ := bind_some hF
          refine JL.cut 8 (fun f => f 1 = .pointer (some ⟨b1, 0, none⟩) ∧ f 3 = .map (some b15) ∧ f 40 = y26a_v0 ∧ f 41 = .int .i64 (y26.length : Int) ∧ f 42 = .int .i64 x_362 ∧ f 73 = .bool p415) ?_ ?_
          ·intro hJ416
           rcases ite_some hp415 with ⟨hc417, hF⟩ | ⟨hc417, hF⟩
           ·skip
            refine JL.skip (.bool rfl rfl rfl hc417) rfl ?_
            refine JL.skip (.bool rfl rfl rfl hc417) rfl ?_
            refine JL.skip (.bool rfl rfl rfl hc417) rfl ?_
            refine JL.skip (.bool rfl rfl rfl hc417) rfl ?_
            refine JL.skip (.bool rfl rfl rfl hc417) rfl ?_
            refine JL.skip (.bool rfl rfl rfl hc417) rfl ?_
            refine JL.skip (.bool rfl rfl rfl hc417) rfl ?_
            refine JL.pick_t (b := p410) rfl hc417 .none rfl ?_
            obtain rfl := Option.some.inj hF
            exact hJ416 _ ⟨rfl, rfl, rfl, rfl, rfl, rfl⟩
           ·skip
            refine JL.fieldAddr fo_27_1 rfl (.some rfl rfl rfl hc417) rfl ?_
            refine JL.loadOwn 0 az_3 rfl rfl rfl (.some rfl rfl rfl hc417) rfl ?_
            refine JL.fieldAddr fo_25_0 rfl (.some rfl rfl rfl hc417) rfl ?_
            refine JL.loadOwn 2 az_3 rfl rfl rfl (.some rfl rfl rfl hc417) rfl ?_
            refine JL.bin rfl rfl rfl (.some rfl rfl rfl hc417) rfl ?_
            obtain ⟨y418, hy418, hF⟩ := bind_some hF
            refine JL.callS (c_lays_within n H403 y368.Col 0 (w64 (s.Width - 1)) y418 hy418) rfl en_48 (.some rfl rfl rfl hc417) rfl ?_
            refine JL.not rfl (.some rfl rfl rfl hc417) rfl ?_
            refine JL.pick_f (b := p410) rfl hc417 .none rfl ?_
            obtain rfl := Option.some.inj hF
            exact hJ416 _ ⟨rfl, rfl, rfl, rfl, rfl, rfl⟩
          ·rintro f ⟨hf1, hf3, hf40, hf41, hf42, hf73⟩
           refine (JL.norm (i := 1) hf1 (JL.norm (i := 3) hf3 (JL.norm (i := 40) hf40 (JL.norm (i := 41) hf41 (JL.norm (i := 42) hf42 (JL.norm (i := 73) hf73 ?_))))))
           refine JL.done hQ (JQ.go ?_)
           rcases ite_some hF with ⟨hc419, hF⟩ | ⟨hc419, hF⟩
           ·refine JC.cond_t (b := p415) rfl hc419 ?_
            refine JC.seq (JC.region (by rfl) ?_)
            intro hQ
            refine JL.assign .none rfl ?_
            refine JL.done hQ (JQ.go (JC.ret (JQ.ret_block (JQ.ret_then (JQ.ret_then (JQ.ret_block (JQ.ret_join (JQ.ret_then ?_))))))))
            obtain rfl := Option.some.inj hF
            have ehr365 := hr365 _ rfl
            subst ehr365
            have hF := hKr229
            try dsimp only at hF
            obtain rfl := Option.some.inj hF
            exact JQ.outS rfl (.tmp .nil) rfl
           ·refine JC.cond_f (b := p415) rfl hc419 ?_
            refine JC.skip (JQ.normal_block (JQ.go (JC.region (by rfl) ?_)))
            intro hQ
            refine JL.bin rfl rfl rfl .none rfl ?_
            refine JL.move .none rfl ?_
            refine JL.done hQ ?_
            obtain rfl := Option.some.inj hF
            refine JQ.mask [false, true, true] [] ?_
            exact JQ.next rfl ⟨es406, ck397, rfl, rfl, rfl, rfl, rfl, rfl, rfl, hm407, (HSub.trans hs364 hs403)⟩
        intro nd402_0
        refine JA.take 0 (listed' := #[true, false, false, false, false, false, false]) hQ rfl (by kernel_rfl) (by kernel_rfl) (by kernel_rfl) (by kernel_rfl) (by kernel_rfl) hE (HSub.refl _) (.cons_cons _ (.cons _ (.cons_cons _ (List.nil_sublist _)))) ?_
        refine JL.move .none rfl ?_
        refine JA.cont ?_
        refine JA.take 1 (listed' := #[true, true, false, false, false, false, false]) hQ rfl (by kernel_rfl) (by kernel_rfl) (by kernel_rfl) (by kernel_rfl) (by kernel_rfl) hE (HSub.refl _) (.cons_cons _ (.cons _ (.cons_cons _ (List.nil_sublist _)))) ?_
        refine JL.loadOwn 0 az_27 rfl rfl rfl .none rfl ?_
        refine JA.cont ?_
        refine JA.many [2, 4] (by kernel_rfl) (by simp) (all_cons ⟨_, #[true, true, true, false, false, false, false], rfl, (by kernel_rfl), ?_⟩ (all_one ⟨_, #[true, true, false, false, true, false, false], rfl, (by kernel_rfl), ?_⟩))
        ·skip
         refine JL.lookupM (k := [y368.Row, y368.Col]) mp_98 kt_27 rfl (.own 1 rfl) hm_363 rfl hu375 .none rfl ?_
         refine JA.after hE (HSub.refl _) (.cons_cons _ (.cons _ (.cons_cons _ (List.nil_sublist _)))) ?_
         refine JA.take 3 (listed' := #[true, true, true, true, false, false, false]) hQ rfl (by kernel_rfl) (by kernel_rfl) (by kernel_rfl) (by kernel_rfl) (by kernel_rfl) hE (HSub.refl _) (.cons_cons _ (.cons _ (.cons_cons _ (List.nil_sublist _)))) ?_
         refine JL.bin rfl rfl rfl .none rfl ?_
         refine JA.cont ?_
         refine JA.many [4] (by kernel_rfl) (by simp) (all_one ⟨_, #[true, true, true, true, true, false, false], rfl, (by kernel_rfl), ?_⟩)
         refine JL.entryM (k := [y368.Row, y368.Col]) 1 mp_98 kt_27 rfl rfl hm_363 rfl hu376 .none rfl ?_
         intro es420 ck421 stp422 hm423 he424
         refine JA.after hE (HSub.refl _) (.cons_cons _ (.cons _ (.cons_cons _ (List.nil_sublist _)))) ?_
         refine JA.take 5 (listed' := #[true, true, true, true, true, true, false]) hQ rfl (by kernel_rfl) (by kernel_rfl) (by kernel_rfl) (by kernel_rfl) (by kernel_rfl) hE (HSub.refl _) (.cons_cons _ (.cons _ (.cons_cons _ (List.nil_sublist _)))) ?_
         refine JL.extract rfl rfl .none rfl ?_
         refine JA.cont ?_
         exact nd402_0 _ _ _ _ ⟨es420, ck421, stp422, rfl, rfl, rfl, rfl, rfl, rfl, rfl, rfl, rfl, rfl, rfl, hm423, he424, (HSub.refl _)⟩
        ·skip
         refine JL.entryM (k := [y368.Row, y368.Col]) 1 mp_98 kt_27 rfl rfl hm_363 rfl hu376 .none rfl ?_
         intro es425 ck426 stp427 hm428 he429
         refine JA.after hE (HSub.refl _) (.cons_cons _ (.cons _ (.cons_cons _ (List.nil_sublist _)))) ?_
         refine JA.take 5 (listed' := #[true, true, false, false, true, true, false]) hQ rfl (by kernel_rfl) (by kernel_rfl) (by kernel_rfl) (by kernel_rfl) (by kernel_rfl) hE (HSub.refl _) (.cons_cons _ (.cons _ (.cons_cons _ (List.nil_sublist _)))) ?_
         refine JL.extract rfl rfl .none rfl ?_
         refine JA.cont ?_
         refine JA.many [2] (by kernel_rfl) (by simp) (all_one ⟨_, #[true, true, true, false, true, true, false], rfl, (by kernel_rfl), ?_⟩)
         refine JL.lookupMv (k := [y368.Row, y368.Col]) mp_98 kt_27 rfl (.own 1 rfl) hm428 rfl hu375 (mget_mput hm_363.srt) .none rfl ?_
         refine JA.after hE (HSub.refl _) (.cons_cons _ (.cons _ (.cons_cons _ (List.nil_sublist _)))) ?_
         refine JA.take 3 (listed' := #[true, true, true, true, true, true, false]) hQ rfl (by kernel_rfl) (by kernel_rfl) (by kernel_rfl) (by kernel_rfl) (by kernel_rfl) hE (HSub.refl _) (.cons_cons _ (.cons _ (.cons_cons _ (List.nil_sublist _)))) ?_
         refine JL.bin rfl rfl rfl .none rfl ?_
         refine JA.cont ?_
         exact nd402_0 _ _ _ _ ⟨es425, ck426, stp427, rfl, rfl, rfl, rfl, rfl, rfl, rfl, rfl, rfl, rfl, rfl, hm428, he429, (HSub.refl _)⟩
       ·refine JC.cond_f (b := decide (x_362 < (y26.length : Int))) rfl hc367 ?_
        refine JC.exit (JQ.exit_then (JQ.exit_then (JQ.exit_block ?_)))
        obtain rfl := Option.some.inj hF
        have ehr365 := hr365 _ rfl
        subst ehr365
        refine JQ.mask [false, true] [] ?_
        exact JQ.join () ⟨rfl, rfl, rfl, hs364, rfl⟩
      ·rintro _ H228 f bs gs ⟨hf1, rfl, rfl, hs228, rfl⟩
       have hF := hKr229
       try dsimp only at hF
       refine (JQ.norm (i := 1) hf1 ?_)
       refine JQ.go (JC.seq (JC.seq (JC.region (by rfl) ?_)))
       intro hQ
       refine JL.fieldAddr fo_25_4 rfl .none rfl ?_
       refine JL.loadOwn 0 az_23 rfl rfl rfl .none rfl ?_
       obtain ⟨y430, hy430, hF⟩ := bind_some hF
       refine JL.callS (c_slices_ContainsFunc___api_Panel_api_Panel_ n H228 s.Panels s_v4 (SL.mono R_Panel_mono (HSub.trans hs23 (HSub.trans hs27 hs228)) hs_4) (fun a0_ => F_lays_Check_1 n a0_) 61 [] en_61 (fun H' hs' a0_ a0__v0 ha0__0 y' hy' => c_lays_Check_1 n H' a0_ a0__v0 ha0__0 y' hy') y430 hy430) rfl en_60 .none rfl ?_
       refine JL.done hQ (JQ.go ?_)
       rcases ite_some hF with ⟨hc431, hF⟩ | ⟨hc431, hF⟩
       ·refine JC.cond_t (b := y430) rfl hc431 ?_
        refine JC.seq (JC.region (by rfl) ?_)
        intro hQ
        refine JL.assign .none rfl ?_
        refine JL.done hQ (JQ.go (JC.ret (JQ.ret_then ?_)))
        obtain rfl := Option.some.inj hF
        exact JQ.outS rfl (.tmp .nil) rfl
       ·refine JC.cond_f (b := y430) rfl hc431 ?_
        refine JC.skip (JQ.go (JC.seq (JC.region (by rfl) ?_)))
        intro hQ
        refine JL.assign .none rfl ?_
        refine JL.done hQ (JQ.go (JC.ret ?_))
        obtain rfl := Option.some.inj hF
        exact JQ.outS rfl (.tmp .nil) rfl
-- 45 ferrule/lays.cellsOf
def F_lays_cellsOf_s2 (n : Nat) (y573 : List Cell) : Int × List Int → Option ((Int × List Int) ⊕ (List Int))
 | (x_663, z_664) => if decide (x_663 < (y573.length : Int)) = true then ((geti y573 x_663).bind fun y669 => (geti z_664 y669.Row).bind fun y678 => (nneg y669.Col).bind fun _ => (geti z_664 y669.Row).bind fun y680 => some (Sum.inl ((w64 (x_663 + 1)), (setx z_664 y669.Row (bor .u16 y678 (bshl .u16 1 y669.Col)))))) else (some (Sum.inr z_664))
def F_lays_cellsOf_s1 (n : Nat) (l : List (List Cell)) : Int × List Int → Option ((Int × List Int) ⊕ (List Int))
 | (x_567, z_568) => if decide (x_567 < (l.length : Int)) = true then ((geti l x_567).bind fun y573 => (loopO n (F_lays_cellsOf_s2 n y573) (0, z_568)).bind fun z_628 => some (Sum.inl ((w64 (x_567 + 1)), z_628))) else (some (Sum.inr z_568))
def F_lays_cellsOf (n : Nat) (l : List (List Cell)) : Option (List Int) :=
 (loopO n (F_lays_cellsOf_s1 n l) (0, [0, 0, 0, 0, 0, 0, 0, 0, 0, 0, 0, 0])).bind fun z_340 => some z_340
theorem c_lays_cellsOf (n : Nat) (H : Hp) (l : List (List Cell)) (l_v0 : Value) (hl_0 : SL H 1 (RSl 2 R_Cell) l_v0 l) (y : (List Int)) (hF : F_lays_cellsOf n l = some y) : SC Try.prog 45 [l_v0] (.agg (av .u16 y).toArray) H := by
 rw [F_lays_cellsOf] at hF
 refine SC.of (N := 31) Try.func45 rfl rfl rfl fun w => ?_
 refine JC.seq (JC.region (by rfl) ?_)
 intro hQ
 refine JL.alloc ze_85 .none rfl ?_
 intro b1
 refine JL.done hQ (JQ.go (JC.seq (JC.seq (JC.region (by rfl) ?_))))
 intro hQ
 refine JL.move .none rfl ?_
 refine JL.lenSL (R := (RSl 2 R_Cell)) ul_108 hl_0 .none rfl ?_
 refine JL.move .none rfl ?_
 refine JL.done hQ (JQ.go ?_)
 obtain ⟨r342, hlr342, hKr342⟩ := bind_some hF
 refine JC.join (fun (z_340 : List Int) H341 f bs gs => f 2 = .pointer (some ⟨b1, 0, none⟩) ∧ bs = [(b1, .cells (av .u16 z_340).toArray 85)] ∧ gs = [] ∧ z_340.length = 12 ∧ HSub H H341 ∧ z_340 = r342) ?_ ?_
 ·skip
  refine JC.block (JC.loop hlr342 (fun (x : Int × List Int) H569 f bs gs => match x with | (x_567, z_568) => f 2 = .pointer (some ⟨b1, 0, none⟩) ∧ f 7 = l_v0 ∧ f 8 = .int .i64 (l.length : Int) ∧ f 9 = .int .i64 x_567 ∧ bs = [(b1, .cells (av .u16 z_568).toArray 85)] ∧ gs = [] ∧ z_568.length = 12 ∧ HSub H H569) ⟨rfl, rfl, rfl, rfl, rfl, rfl, rfl, (HSub.refl _)⟩ ?_)
  rintro ⟨x_567, z_568⟩ x571 H569 f bs gs ⟨hf2, hf7, hf8, hf9, rfl, rfl, hz_568, hs569⟩ hF hr570
  rw [F_lays_cellsOf_s1] at hF
  refine (JC.norm (i := 2) hf2 (JC.norm (i := 7) hf7 (JC.norm (i := 8) hf8 (JC.norm (i := 9) hf9 ?_))))
  refine JC.seq (JC.region (by rfl) ?_)
  intro hQ
  refine JL.bin rfl rfl rfl .none rfl ?_
  refine JL.done hQ (JQ.go (JC.seq ?_))
  rcases ite_some hF with ⟨hc572, hF⟩ | ⟨hc572, hF⟩
  ·refine JC.cond_t (b := decide (x_567 < (l.length : Int))) rfl hc572 ?_
   refine JC.skip (JQ.go (JC.seq (JC.block (JC.seq (JC.region (by rfl) ?_)))))
   intro hQ
   obtain ⟨y573, hy573, hF⟩ := bind_some hF
   refine JL.indexSL (R := (RSl 2 R_Cell)) sl_108 (SL.mono (RSl.mono R_Cell_mono) hs569 hl_0) rfl hy573 .none rfl ?_
   rintro b574 o575 cs576 hc577 - ⟨y573_v0, rfl, hy573_0⟩
   refine JL.loadH 0 az_22 rfl hc577 rfl .none rfl ?_
   refine JL.assign .none rfl ?_
   refine JL.done hQ (JQ.go (JC.seq (JC.region (by rfl) ?_)))
   intro hQ
   refine JL.move .none rfl ?_
   refine JL.lenSL (R := R_Cell) ul_22 hy573_0 .none rfl ?_
   refine JL.move .none rfl ?_
   refine JL.done hQ (JQ.go ?_)
   obtain ⟨r630, hlr630, hKr630⟩ := bind_some hF
   refine JC.join (fun (z_628 : List Int) H629 f bs gs => f 2 = .pointer (some ⟨b1, 0, none⟩) ∧ f 7 = l_v0 ∧ f 8 = .int .i64 (l.length : Int) ∧ f 9 = .int .i64 x_567 ∧ bs = [(b1, .cells (av .u16 z_628).toArray 85)] ∧ gs = [] ∧ z_628.length = 12 ∧ HSub H569 H629 ∧ z_628 = r630) ?_ ?_
   ·skip
    refine JC.block (JC.loop hlr630 (fun (x : Int × List Int) H665 f bs gs => match x with | (x_663, z_664) => f 2 = .pointer (some ⟨b1, 0, none⟩) ∧ f 7 = l_v0 ∧ f 8 = .int .i64 (l.length : Int) ∧ f 9 = .int .i64 x_567 ∧ f 13 = y573_v0 ∧ f 14 = .int .i64 (y573.length : Int) ∧ f 15 = .int .i64 x_663 ∧ bs = [(b1, .cells (av .u16 z_664).toArray 85)] ∧ gs = [] ∧ z_664.length = 12 ∧ HSub H569 H665) ⟨rfl, rfl, rfl, rfl, rfl, rfl, rfl, rfl, rfl, hz_568, (HSub.refl _)⟩ ?_)
    rintro ⟨x_663, z_664⟩ x667 H665 f bs gs ⟨hf2, hf7, hf8, hf9, hf13, hf14, hf15, rfl, rfl, hz_664, hs665⟩ hF hr666
    rw [F_lays_cellsOf_s2] at hF
    refine (JC.norm (i := 2) hf2 (JC.norm (i := 7) hf7 (JC.norm (i := 8) hf8 (JC.norm (i := 9) hf9 (JC.norm (i := 13) hf13 (JC.norm (i := 14) hf14 (JC.norm (i := 15) hf15 ?_)))))))
    refine JC.seq (JC.region (by rfl) ?_)
    intro hQ
    refine JL.bin rfl rfl rfl .none rfl ?_
    refine JL.done hQ (JQ.go (JC.seq ?_))
    rcases ite_some hF with ⟨hc668, hF⟩ | ⟨hc668, hF⟩
    ·refine JC.cond_t (b := decide (x_663 < (y573.length : Int))) rfl hc668 ?_
     refine JC.skip (JQ.go (JC.seq (JC.block (JC.seq (JC.region (by rfl) ?_)))))
     intro hQ
     obtain ⟨y669, hy669, hF⟩ := bind_some hF
     refine JL.indexSL (R := R_Cell) sl_22 (SL.mono R_Cell_mono hs665 hy573_0) rfl hy669 .none rfl ?_
     rintro b670 o671 cs672 hc673 - rfl
     refine JL.loadH 0 az_27 rfl hc673 rfl .none rfl ?_
     refine JL.alloc ze_27 .none rfl ?_
     intro b674
     refine JL.storeOwn 0 (cs := [.int .i64 y669.Row, .int .i64 y669.Col]) az_27 rfl rfl rfl (one_cons rfl (one_cons rfl one_nil)) rfl rfl .none ?_
     refine JL.done hQ (JQ.go ?_)
     obtain ⟨y678, hy678, hF⟩ := bind_some hF
     obtain ⟨u679, hu679, hF⟩ := bind_some hF
     obtain ⟨y680, hy680, hF⟩ := bind_some hF
     refine JC.mixed 9 10 #[false, false, false, false, false, false, false, false, false, false] [(b674, .cells [.int .i64 y669.Row, .int .i64 y669.Col].toArray 27), (b1, .cells (av .u16 z_664).toArray 85)] (by rfl) mo_ (by kernel_rfl) (by kernel_rfl) ?_
     intro hQ hE
     refine JA.take 0 (listed' := #[true, false, false, false, false, false, false, false, false, false]) hQ rfl (by kernel_rfl) (by kernel_rfl) (by kernel_rfl) (by kernel_rfl) (by kernel_rfl) hE (HSub.refl _) (.cons_cons _ (.cons_cons _ (List.nil_sublist _))) ?_
     refine JL.fieldAddr fo_27_0 rfl .none rfl ?_
     refine JA.cont ?_
     refine JA.take 1 (listed' := #[true, true, false, false, false, false, false, false, false, false]) hQ rfl (by kernel_rfl) (by kernel_rfl) (by kernel_rfl) (by kernel_rfl) (by kernel_rfl) hE (HSub.refl _) (.cons_cons _ (.cons_cons _ (List.nil_sublist _))) ?_
     refine JL.loadOwn 0 az_3 rfl rfl rfl .none rfl ?_
     refine JA.cont ?_
     refine JA.take 2 (listed' := #[true, true, true, false, false, false, false, false, false, false]) hQ rfl (by kernel_rfl) (by kernel_rfl) (by kernel_rfl) (by kernel_rfl) (by kernel_rfl) hE (HSub.refl _) (.cons_cons _ (.cons_cons _ (List.nil_sublist _))) ?_
     refine JL.indexArrP (l := z_664) ar_85 az_83 rfl rfl hz_664 hy678 .none rfl ?_
     refine JA.cont ?_
     refine JA.take 3 (listed' := #[true, true, true, true, false, false, false, false, false, false]) hQ rfl (by kernel_rfl) (by kernel_rfl) (by kernel_rfl) (by kernel_rfl) (by kernel_rfl) hE (HSub.refl _) (.cons_cons _ (.cons_cons _ (List.nil_sublist _))) ?_
     refine JL.loadEl (j := y669.Row) 1 az_83 rfl rfl hy678 .none rfl ?_
     refine JA.cont ?_
     refine JA.take 4 (listed' := #[true, true, true, true, true, false, false, false, false, false]) hQ rfl (by kernel_rfl) (by kernel_rfl) (by kernel_rfl) (by kernel_rfl) (by kernel_rfl) hE (HSub.refl _) (.cons_cons _ (.cons_cons _ (List.nil_sublist _))) ?_
     refine JL.fieldAddr fo_27_1 rfl .none rfl ?_
     refine JA.cont ?_
     refine JA.take 5 (listed' := #[true, true, true, true, true, true, false, false, false, false]) hQ rfl (by kernel_rfl) (by kernel_rfl) (by kernel_rfl) (by kernel_rfl) (by kernel_rfl) hE (HSub.refl _) (.cons_cons _ (.cons_cons _ (List.nil_sublist _))) ?_
     refine JL.loadOwn 0 az_3 rfl rfl rfl .none rfl ?_
     refine JA.cont ?_
     refine JA.take 6 (listed' := #[true, true, true, true, true, true, true, false, false, false]) hQ rfl (by kernel_rfl) (by kernel_rfl) (by kernel_rfl) (by kernel_rfl) (by kernel_rfl) hE (HSub.refl _) (.cons_cons _ (.cons_cons _ (List.nil_sublist _))) ?_
     refine JL.shl rfl rfl (nneg_some hu679) .none rfl ?_
     refine JA.cont ?_
     refine JA.take 7 (listed' := #[true, true, true, true, true, true, true, true, false, false]) hQ rfl (by kernel_rfl) (by kernel_rfl) (by kernel_rfl) (by kernel_rfl) (by kernel_rfl) hE (HSub.refl _) (.cons_cons _ (.cons_cons _ (List.nil_sublist _))) ?_
     refine JL.or rfl rfl .none rfl ?_
     refine JA.cont ?_
     refine JA.take 8 (listed' := #[true, true, true, true, true, true, true, true, true, false]) hQ rfl (by kernel_rfl) (by kernel_rfl) (by kernel_rfl) (by kernel_rfl) (by kernel_rfl) hE (HSub.refl _) (.cons_cons _ (.cons_cons _ (List.nil_sublist _))) ?_
     refine JL.indexArrP (l := z_664) ar_85 az_83 rfl rfl hz_664 hy680 .none rfl ?_
     refine JA.cont ?_
     refine JA.many [9] (by kernel_rfl) (by simp) (all_one ⟨_, #[true, true, true, true, true, true, true, true, true, true], rfl, (by kernel_rfl), ?_⟩)
     refine JL.storeEl (j := y669.Row) 1 az_83 rfl rfl rfl hy680 .none ?_
     refine JA.sink (by kernel_rfl) ?_
     refine JA.done hQ (by kernel_rfl) ?_
     refine JQ.normal_block (JQ.go (JC.fresh (fun f => f 2 = .pointer (some ⟨b1, 0, none⟩) ∧ f 7 = l_v0 ∧ f 8 = .int .i64 (l.length : Int) ∧ f 9 = .int .i64 x_567 ∧ f 13 = y573_v0 ∧ f 14 = .int .i64 (y573.length : Int) ∧ f 15 = .int .i64 x_663) ⟨rfl, rfl, rfl, rfl, rfl, rfl, rfl⟩ ?_))
     rintro f ⟨hf2, hf7, hf8, hf9, hf13, hf14, hf15⟩
     refine (JC.norm (i := 2) hf2 (JC.norm (i := 7) hf7 (JC.norm (i := 8) hf8 (JC.norm (i := 9) hf9 (JC.norm (i := 13) hf13 (JC.norm (i := 14) hf14 (JC.norm (i := 15) hf15 ?_)))))))
     refine JC.region (by rfl) ?_
     intro hQ
     refine JL.bin rfl rfl rfl .none rfl ?_
     refine JL.move .none rfl ?_
     refine JL.done hQ ?_
     obtain rfl := Option.some.inj hF
     refine JQ.mask [false, true] [] ?_
     exact JQ.next rfl ⟨rfl, rfl, rfl, rfl, rfl, rfl, rfl, rfl, rfl, (setx_length hz_664), hs665⟩
    ·refine JC.cond_f (b := decide (x_663 < (y573.length : Int))) rfl hc668 ?_
     refine JC.exit (JQ.exit_then (JQ.exit_then (JQ.exit_block ?_)))
     obtain rfl := Option.some.inj hF
     have ehr666 := hr666 _ rfl
     subst ehr666
     exact JQ.join z_664 ⟨rfl, rfl, rfl, rfl, rfl, rfl, hz_664, hs665, rfl⟩
   ·rintro z_628 H629 f bs gs ⟨hf2, hf7, hf8, hf9, rfl, rfl, hz_628, hs629, rfl⟩
    have hF := hKr630
    try dsimp only at hF
    refine (JQ.norm (i := 2) hf2 (JQ.norm (i := 7) hf7 (JQ.norm (i := 8) hf8 (JQ.norm (i := 9) hf9 ?_))))
    refine JQ.normal_block (JQ.go (JC.region (by rfl) ?_))
    intro hQ
    refine JL.bin rfl rfl rfl .none rfl ?_
    refine JL.move .none rfl ?_
    refine JL.done hQ ?_
    obtain rfl := Option.some.inj hF
    exact JQ.next rfl ⟨rfl, rfl, rfl, rfl, rfl, rfl, hz_628, (HSub.trans hs569 hs629)⟩
  ·refine JC.cond_f (b := decide (x_567 < (l.length : Int))) rfl hc572 ?_
   refine JC.exit (JQ.exit_then (JQ.exit_then (JQ.exit_block ?_)))
   obtain rfl := Option.some.inj hF
   have ehr570 := hr570 _ rfl
   subst ehr570
   exact JQ.join z_568 ⟨rfl, rfl, rfl, hz_568, hs569, rfl⟩
 ·rintro z_340 H341 f bs gs ⟨hf2, rfl, rfl, hz_340, hs341, rfl⟩
  have hF := hKr342
  try dsimp only at hF
  refine (JQ.norm (i := 2) hf2 ?_)
  refine JQ.go (JC.seq (JC.region (by rfl) ?_))
  intro hQ
  refine JL.loadArr (l := z_340) 0 az_85 rfl rfl hz_340 .none rfl ?_
  refine JL.storeArr (l := z_340) (l' := z_340) 0 az_85 rfl rfl rfl hz_340 hz_340 .none ?_
  refine JL.done hQ (JQ.go (JC.ret ?_))
  obtain rfl := Option.some.inj hF
  exact JQ.outS rfl (.cell 0 az_85 rfl rfl (loadw_arr hz_340) .nil) rfl
-- 77 slices.Backward[[]ferrule/api.Span,ferrule/api.Span]
def F_slices_Backward___api_Span_api_Span_ (n : Nat) (s : List Span) : Option (List Span) :=
 some s
theorem c_slices_Backward___api_Span_api_Span_ (n : Nat) (H : Hp) (s : List Span) (s_v0 : Value) (hs_0 : SL H 2 R_Span s_v0 s) (y : (List Span)) (hF : F_slices_Backward___api_Span_api_Span_ n s = some y) : HC Try.prog 77 [s_v0] H (fun H' v => ∃ b0_ : Nat, ∃ z0_v0 : Value, v = .func (.func 80) #[] [.pointer (some ⟨b0_, 0, none⟩)].toArray ∧ Cells H' b0_ 0 [z0_v0] ∧ SL H' 2 R_Span z0_v0 y) := by
 rw [F_slices_Backward___api_Span_api_Span_] at hF
 refine HC.of (N := 4) Try.func77 rfl rfl rfl fun w => ?_
 refine JC.seq (JC.region (by rfl) ?_)
 intro hQ
 refine JL.box (cs := [s_v0]) (SL.vc hs_0) .none rfl ?_
 intro b1
 refine JL.assign .none rfl ?_
 refine JL.done hQ (JQ.go (JC.seq (JC.region (by rfl) ?_)))
 intro hQ
 refine JL.makeFunc .none rfl ?_
 refine JL.assign .none rfl ?_
 refine JL.done hQ (JQ.go (JC.ret (JQ.freezeC 0 (l := [s_v0]) rfl ?_)))
 intro H2 hs2 hc3
 obtain rfl := Option.some.inj hF
 exact JQ.outH rfl (.tmp .nil) ⟨b1, s_v0, rfl, hc3, (SL.mono R_Span_mono hs2 hs_0)⟩
-- 71 ferrule/lays.rows
def F_lays_rows_s1 (n : Nat) (p : Panel) : Int × Int → Option ((Int × Int) ⊕ Int)
 | (x_59, z_60) => if decide (x_59 < (p.Rows.length : Int)) = true then ((geti p.Rows x_59).bind fun y65 => some (Sum.inl ((w64 (x_59 + 1)), (max z_60 y65.High)))) else (some (Sum.inr z_60))
def F_lays_rows_s2 (n : Nat) (z_36 : Int) : (List Span) → (Int × Span) → Option ((List Span) ⊕ Unit)
 | out_111, x75 => (lim (out_111 ++ [(Span.mk (w64 (z_36 - x75.2.High)) (w64 (z_36 - x75.2.Low)))])).bind fun l118 => some (Sum.inl l118)
def F_lays_rows (n : Nat) (p : Panel) (turned : Int) : Option (List Span) :=
 if (turned == 0) = true then (some p.Rows) else ((loopO n (F_lays_rows_s1 n p) (0, 0)).bind fun z_36 => (F_slices_Backward___api_Span_api_Span_ n p.Rows).bind fun y72 => (I_slices_Backward___api_Span_api_Span__1 n y72 (F_lays_rows_s2 n z_36) ([] : List Span)).bind fun r113 => match r113 with | .inl out_111 => some out_111 | .inr _ => none)
theorem c_lays_rows (n : Nat) (H : Hp) (p : Panel) (p_v0 : Value) (hp_0 : SL H 2 R_Span p_v0 p.Rows) (turned : Int) (y : (List Span)) (hF : F_lays_rows n p turned = some y) : HC Try.prog 71 [.agg [p_v0].toArray, .int .i64 turned] H (fun H' ra_v0 => SL H' 2 R_Span ra_v0 y) := by
 rw [F_lays_rows] at hF
 refine HC.ofM (N := 45) Try.func71 rfl rfl rfl fun w => ?_
 refine JC.seq (JC.region (by rfl) ?_)
 intro hQ
 refine JL.box (cs := [p_v0]) rfl .none rfl ?_
 intro b1
 refine JL.assign .none rfl ?_
 refine JL.done hQ (JQ.go (JC.seq (JC.seq (JC.region (by rfl) ?_))))
 intro hQ
 refine JL.move .none rfl ?_
 refine JL.bin rfl rfl rfl .none rfl ?_
 refine JL.done hQ (JQ.go ?_)
 rcases ite_some hF with ⟨hc2, hF⟩ | ⟨hc2, hF⟩
 ·refine JC.cond_t (b := (turned == 0)) rfl hc2 ?_
  refine JC.seq (JC.region (by rfl) ?_)
  intro hQ
  refine JL.fieldAddr fo_30_0 rfl .none rfl ?_
  refine JL.loadOwn 0 az_28 rfl rfl rfl .none rfl ?_
  refine JL.assign .none rfl ?_
  refine JL.done hQ (JQ.go (JC.ret (JQ.ret_then ?_)))
  obtain rfl := Option.some.inj hF
  exact JQ.outHM rfl .nil (.tmp .nil) hp_0
 ·refine JC.cond_f (b := (turned == 0)) rfl hc2 ?_
  refine JC.skip (JQ.go (JC.seq (JC.region (by rfl) ?_)))
  intro hQ
  refine JL.alloc ze_3 .none rfl ?_
  intro b3
  refine JL.storeOwn 0 (cs := [.int .i64 0]) az_3 rfl rfl rfl (one_cons rfl one_nil) rfl rfl .none ?_
  refine JL.done hQ (JQ.go (JC.seq (JC.seq (JC.region (by rfl) ?_))))
  intro hQ
  refine JL.fieldAddr fo_30_0 rfl .none rfl ?_
  refine JL.loadOwn 1 az_28 rfl rfl rfl .none rfl ?_
  refine JL.lenSL (R := R_Span) ul_28 hp_0 .none rfl ?_
  refine JL.move .none rfl ?_
  refine JL.done hQ (JQ.go ?_)
  obtain ⟨r38, hlr38, hKr38⟩ := bind_some hF
  refine JC.join (fun (z_36 : Int) H37 f bs gs => f 2 = .pointer (some ⟨b1, 0, none⟩) ∧ f 5 = .pointer (some ⟨b3, 0, none⟩) ∧ bs = [(b3, .cells [.int .i64 z_36].toArray 3), (b1, .cells [p_v0].toArray 30)] ∧ gs = [] ∧ HSub H H37 ∧ z_36 = r38) ?_ ?_
  ·skip
   refine JC.block (JC.loop hlr38 (fun (x : Int × Int) H61 f bs gs => match x with | (x_59, z_60) => f 2 = .pointer (some ⟨b1, 0, none⟩) ∧ f 5 = .pointer (some ⟨b3, 0, none⟩) ∧ f 16 = p_v0 ∧ f 17 = .int .i64 (p.Rows.length : Int) ∧ f 18 = .int .i64 x_59 ∧ bs = [(b3, .cells [.int .i64 z_60].toArray 3), (b1, .cells [p_v0].toArray 30)] ∧ gs = [] ∧ HSub H H61) ⟨rfl, rfl, rfl, rfl, rfl, rfl, rfl, (HSub.refl _)⟩ ?_)
   rintro ⟨x_59, z_60⟩ x63 H61 f bs gs ⟨hf2, hf5, hf16, hf17, hf18, rfl, rfl, hs61⟩ hF hr62
   rw [F_lays_rows_s1] at hF
   refine (JC.norm (i := 2) hf2 (JC.norm (i := 5) hf5 (JC.norm (i := 16) hf16 (JC.norm (i := 17) hf17 (JC.norm (i := 18) hf18 ?_)))))
   refine JC.seq (JC.region (by rfl) ?_)
   intro hQ
   refine JL.bin rfl rfl rfl .none rfl ?_
   refine JL.done hQ (JQ.go (JC.seq ?_))
   rcases ite_some hF with ⟨hc64, hF⟩ | ⟨hc64, hF⟩
   ·refine JC.cond_t (b := decide (x_59 < (p.Rows.length : Int))) rfl hc64 ?_
    refine JC.skip (JQ.go (JC.seq (JC.block (JC.seq (JC.region (by rfl) ?_)))))
    intro hQ
    obtain ⟨y65, hy65, hF⟩ := bind_some hF
    refine JL.indexSL (R := R_Span) sl_28 (SL.mono R_Span_mono hs61 hp_0) rfl hy65 .none rfl ?_
    rintro b66 o67 cs68 hc69 - rfl
    refine JL.loadH 0 az_46 rfl hc69 rfl .none rfl ?_
    refine JL.alloc ze_46 .none rfl ?_
    intro b70
    refine JL.storeOwn 0 (cs := [.int .i64 y65.Low, .int .i64 y65.High]) az_46 rfl rfl rfl (one_cons rfl (one_cons rfl one_nil)) rfl rfl .none ?_
    refine JL.done hQ (JQ.go (JC.region (by rfl) ?_))
    intro hQ
    refine JL.loadOwn 1 az_3 rfl rfl rfl .none rfl ?_
    refine JL.fieldAddr fo_46_1 rfl .none rfl ?_
    refine JL.loadOwn 0 az_3 rfl rfl rfl .none rfl ?_
    refine JL.max rfl rfl .none rfl ?_
    refine JL.storeOwn 1 (cs := [.int .i64 (max z_60 y65.High)]) az_3 rfl rfl rfl (one_cons rfl one_nil) rfl rfl .none ?_
    refine JL.done hQ (JQ.normal_block (JQ.go (JC.region (by rfl) ?_)))
    intro hQ
    refine JL.bin rfl rfl rfl .none rfl ?_
    refine JL.move .none rfl ?_
    refine JL.done hQ ?_
    obtain rfl := Option.some.inj hF
    refine JQ.mask [false, true, true] [] ?_
    exact JQ.next rfl ⟨rfl, rfl, rfl, rfl, rfl, rfl, rfl, hs61⟩
   ·refine JC.cond_f (b := decide (x_59 < (p.Rows.length : Int))) rfl hc64 ?_
    refine JC.exit (JQ.exit_then (JQ.exit_then (JQ.exit_block ?_)))
    obtain rfl := Option.some.inj hF
    have ehr62 := hr62 _ rfl
    subst ehr62
    exact JQ.join z_60 ⟨rfl, rfl, rfl, rfl, hs61, rfl⟩
  ·rintro z_36 H37 f bs gs ⟨hf2, hf5, rfl, rfl, hs37, rfl⟩
   have hF := hKr38
   try dsimp only at hF
   refine (JQ.norm (i := 2) hf2 (JQ.norm (i := 5) hf5 ?_))
   refine JQ.go (JC.seq (JC.region (by rfl) ?_))
   intro hQ
   refine JL.alloc ze_28 .none rfl ?_
   intro b71
   refine JL.done hQ (JQ.go (JC.seq (JC.seq (JC.region (by rfl) ?_))))
   intro hQ
   refine JL.fieldAddr fo_30_0 rfl .none rfl ?_
   refine JL.loadOwn 2 az_28 rfl rfl rfl .none rfl ?_
   obtain ⟨y72, hy72, hF⟩ := bind_some hF
   refine JL.callH (c_slices_Backward___api_Span_api_Span_ n H37 p.Rows p_v0 (SL.mono R_Span_mono hs37 hp_0) y72 hy72) rfl en_77 .none rfl ?_
   rintro H73 vv74 hs73 ⟨y72_b0, y72_0_v0, rfl, hy72_b0, hy72_0_0⟩
   refine JL.done hQ (JQ.go (JC.block (JC.newNil (e := 46) (sz := 2) ?_)))
   obtain ⟨r113, hl114, hF⟩ := bind_some hF
   refine JC.mask [true, true, false] [true] ?_
   refine JC.rangeFunc2 (ρ := Unit) (V := (VPlain2 fun (x : Int × Span) => (.int .i64 x.1, .agg [.int .i64 x.2.Low, .int .i64 x.2.High].toArray))) (F := fun _ _ step s => I_slices_Backward___api_Span_api_Span__1 n y72 step s) rfl en_80 (it_slices_Backward___api_Span_api_Span__1 n H73 y72 y72_0_v0 hy72_0_0 y72_b0 hy72_b0) rfl rfl hl114 (fun (out_111 : List Span) H112 fr gs => ∃ (vout_111 : Value) (xsout_111 : List Value), fr = [(b71, .cells [vout_111].toArray 28), (b3, .cells [.int .i64 z_36].toArray 3)] ∧ gs = [⟨vout_111, 46, 2, out_111.length, xsout_111⟩] ∧ CH H112 2 R_Span xsout_111 out_111 ∧ HSub H73 H112) (fun _ _ _ _ _ => False) ⟨(.slice none 0 0), [], rfl, rfl, CH.nil, (HSub.refl _)⟩ ?_ ?_ ?_
   ·rintro l76 out_111 x75 y115 v77 own T78 H112 fr gs ⟨vout_111, xsout_111, rfl, rfl, hout_111, hs112⟩ hF ⟨rfl, rfl⟩ -
    rw [F_lays_rows_s2] at hF
    refine JC.region (by rfl) ?_
    intro hQ
    refine JL.alloc ze_46 .none rfl ?_
    intro b116
    refine JL.storeOwn 0 (cs := [.int .i64 x75.2.Low, .int .i64 x75.2.High]) az_46 rfl rfl rfl (one_cons rfl (one_cons rfl one_nil)) rfl rfl .none ?_
    refine JL.done hQ (JQ.assigned [(b116, .cells [.int .i64 x75.2.Low, .int .i64 x75.2.High].toArray 46), (b71, .cells [vout_111].toArray 28), (b3, .cells [.int .i64 z_36].toArray 3)] (fun T79 => ?_))
    refine JC.block (JC.region (by rfl) ?_)
    intro hQ
    refine JL.loadOwn 1 az_28 rfl rfl rfl .none rfl ?_
    refine JL.loadOwn 2 az_3 rfl rfl rfl .none rfl ?_
    refine JL.fieldAddr fo_46_1 rfl .none rfl ?_
    refine JL.loadOwn 0 az_3 rfl rfl rfl .none rfl ?_
    refine JL.bin rfl rfl rfl .none rfl ?_
    refine JL.loadOwn 2 az_3 rfl rfl rfl .none rfl ?_
    refine JL.fieldAddr fo_46_0 rfl .none rfl ?_
    refine JL.loadOwn 0 az_3 rfl rfl rfl .none rfl ?_
    refine JL.bin rfl rfl rfl .none rfl ?_
    refine JL.build (l := [.int .i64 (w64 (z_36 - x75.2.High)), .int .i64 (w64 (z_36 - x75.2.Low))]) (by kernel_rfl) .none rfl ?_
    refine JL.buildSlice (e := 46) (l := [.int .i64 (w64 (z_36 - x75.2.High)), .int .i64 (w64 (z_36 - x75.2.Low))]) (by kernel_rfl) .none rfl ?_
    intro b117
    obtain ⟨l118, hl118, hF⟩ := bind_some hF
    refine JL.appO (R := R_Span) 0 0 (l := out_111) (m := [(Span.mk (w64 (z_36 - x75.2.High)) (w64 (z_36 - x75.2.Low)))]) ap_28 rfl ⟨rfl, rfl⟩ rfl hout_111 rfl rfl rfl (CH.cons (cs := [.int .i64 (w64 (z_36 - x75.2.High)), .int .i64 (w64 (z_36 - x75.2.Low))]) rfl rfl CH.nil) rfl (one_cons rfl (one_cons rfl one_nil)) hl118 .none rfl ?_
    intro v119 xs120 hch121
    refine JL.oneG 0 rfl (fun ho122 => ?_)
    refine JL.storeOwn 2 (cs := [v119]) az_28 rfl ho122.2 rfl (one_cons ho122.1 one_nil) rfl rfl .none ?_
    refine JL.done hQ (JQ.normal_block ?_)
    obtain rfl := Option.some.inj hF
    refine JQ.mask [false, false, true, true] [true] ?_
    refine JQ.round rfl [(b71, .cells [v119].toArray 28), (b3, .cells [.int .i64 z_36].toArray 3)] (HSub.refl _) ?_
    exact ⟨v119, xs120, rfl, rfl, hch121, hs112⟩
   ·rintro D123 out_111 H112 fr gs rfl ⟨vout_111, xsout_111, rfl, rfl, hout_111, hs112⟩ -
    try dsimp only at hF
    refine JQ.normal_block (JQ.go (JC.seq (JC.region (by rfl) ?_)))
    intro hQ
    refine JL.loadOwn 0 az_28 rfl rfl rfl .none rfl ?_
    refine JL.assign .none rfl ?_
    refine JL.done hQ (JQ.go (JC.ret (JQ.freezeG 0 (R := R_Span) rfl R_Span_mono hout_111 rfl ?_)))
    intro H124 hs124 hg125
    obtain rfl := Option.some.inj hF
    exact JQ.outHM rfl (.cons 2 rfl .nil) (.tmp .nil) hg125
   ·rintro _ _ _ _ _ _ _ h; exact h.elim
end Go.Proofs.Ytflhjlgimihmgaa
end
