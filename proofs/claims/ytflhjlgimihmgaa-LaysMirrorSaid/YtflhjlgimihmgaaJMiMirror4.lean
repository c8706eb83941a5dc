/-
  A part of the proof of MiMirror: the texts MiGenK2, MiGenK3.
-/
import Derived.Test.YtflhjlgimihmgaaJMiMirror3
section
set_option maxRecDepth 100000
set_option maxHeartbeats 40000000
namespace Go.Proofs.Ytflhjlgimihmgaa
open Go Go.RowKit Go.Dec
set_option linter.unusedVariables false
-- 33 ferrule/lays.Check
def F_lays_Check_s1 (n : Nat) (s : Lap) (y26 : (List Cell)) : Int × Mp → Option ((Int × Mp) ⊕ (Int ⊕ Unit))
 | (x_362, m_363) => if decide (x_362 < (y26.length : Int)) = true then ((geti y26 x_362).bind fun y368 => (kok 2 [y368.Row, y368.Col]).bind fun _ => (kok 2 [y368.Row, y368.Col]).bind fun _ => (kok 2 [y368.Row, y368.Col]).bind fun _ => (if decide (1 < (mget (mput (mput m_363 [y368.Row, y368.Col] (mget m_363 [y368.Row, y368.Col])) [y368.Row, y368.Col] (w64 ((mget m_363 [y368.Row, y368.Col]) + 1))) [y368.Row, y368.Col])) = true then (some true) else ((F_lays_within n y368.Row 0 (w64 (s.Length - 1))).bind fun y413 => some (!y413)) : Option Bool).bind fun p410 => (if p410 = true then (some true) else ((F_lays_within n y368.Col 0 (w64 (s.Width - 1))).bind fun y418 => some (!y418)) : Option Bool).bind fun p415 => if p415 = true then (some (Sum.inr (Sum.inl 30))) else (some (Sum.inl ((w64 (x_362 + 1)), (mput (mput m_363 [y368.Row, y368.Col] (mget m_363 [y368.Row, y368.Col])) [y368.Row, y368.Col] (w64 ((mget m_363 [y368.Row, y368.Col]) + 1))))))) else (some (Sum.inr (Sum.inr ())))
def F_lays_Check (n : Nat) (s : Lap) : Option Int :=
 (F_lays_within n s.Width 1 8).bind fun y2 => (if (!y2) = true then (some true) else ((F_lays_within n s.Length 1 12).bind fun y7 => some (!y7)) : Option Bool).bind fun p4 => if (((p4 || (decide (20 < (s.Faults.length : Int)))) || (decide (20 < (s.Flaws.length : Int)))) || (decide (5 < (s.Panels.length : Int)))) = true then (some 30) else ((F_slices_Concat___api_Cell_api_Cell_ n [s.Faults, s.Flaws]).bind fun y26 => (loopO n (F_lays_Check_s1 n s y26) (0, ([] : Mp))).bind fun r229 => match r229 with | .inl o => some o | .inr _ => (F_slices_ContainsFunc___api_Panel_api_Panel_ n s.Panels (fun a0_ => F_lays_Check_1 n a0_)).bind fun y430 => if y430 = true then (some 30) else (some 0))
theorem c_lays_Check (n : Nat) (H : Hp) (s : Lap) (s_v2 : Value) (hs_2 : SL H 2 R_Cell s_v2 s.Faults) (s_v3 : Value) (hs_3 : SL H 2 R_Cell s_v3 s.Flaws) (s_v4 : Value) (hs_4 : SL H 1 R_Panel s_v4 s.Panels) (y : Int) (hF : F_lays_Check n s = some y) : SC Try.prog 33 [.agg [.int .i64 s.Width, .int .i64 s.Length, s_v2, s_v3, s_v4].toArray] (.int .i64 y) H := by
 rw [F_lays_Check] at hF
 refine SC.of (N := 78) Try.func33 rfl rfl rfl fun w => ?_
 refine JC.seq (JC.region (by rfl) ?_)
 intro hQ
 refine JL.box (cs := [.int .i64 s.Width, .int .i64 s.Length, s_v2, s_v3, s_v4]) rfl .none rfl ?_
 intro b1
 refine JL.assign .none rfl ?_
 refine JL.done hQ (JQ.go (JC.seq (JC.seq (JC.region (by rfl) ?_))))
 intro hQ
 refine JL.fieldAddr fo_25_0 rfl .none rfl ?_
 refine JL.loadOwn 0 az_3 rfl rfl rfl .none rfl ?_
 obtain ⟨y2, hy2, hF⟩ := bind_some hF
 refine JL.callS (c_lays_within n H s.Width 1 8 y2 hy2) rfl en_48 .none rfl ?_
 refine JL.not rfl .none rfl ?_
 refine JL.move .none rfl ?_
 obtain ⟨p4, hp4, hF⟩ := bind_some hF
 refine JL.cut 5 (fun f => f 1 = .pointer (some ⟨b1, 0, none⟩) ∧ f 15 = .bool p4) ?_ ?_
 ·intro hJ5
  rcases ite_some hp4 with ⟨hc6, hF⟩ | ⟨hc6, hF⟩
  ·skip
   refine JL.skip (.bool rfl rfl rfl hc6) rfl ?_
   refine JL.skip (.bool rfl rfl rfl hc6) rfl ?_
   refine JL.skip (.bool rfl rfl rfl hc6) rfl ?_
   refine JL.skip (.bool rfl rfl rfl hc6) rfl ?_
   refine JL.pick_t (b := (!y2)) rfl hc6 .none rfl ?_
   obtain rfl := Option.some.inj hF
   exact hJ5 _ ⟨rfl, rfl⟩
  ·skip
   refine JL.fieldAddr fo_25_1 rfl (.some rfl rfl rfl hc6) rfl ?_
   refine JL.loadOwn 0 az_3 rfl rfl rfl (.some rfl rfl rfl hc6) rfl ?_
   obtain ⟨y7, hy7, hF⟩ := bind_some hF
   refine JL.callS (c_lays_within n H s.Length 1 12 y7 hy7) rfl en_48 (.some rfl rfl rfl hc6) rfl ?_
   refine JL.not rfl (.some rfl rfl rfl hc6) rfl ?_
   refine JL.pick_f (b := (!y2)) rfl hc6 .none rfl ?_
   obtain rfl := Option.some.inj hF
   exact hJ5 _ ⟨rfl, rfl⟩
 ·rintro f ⟨hf1, hf15⟩
  refine (JL.norm (i := 1) hf1 (JL.norm (i := 15) hf15 ?_))
  refine JL.move .none rfl ?_
  refine JL.cut 5 (fun f => f 1 = .pointer (some ⟨b1, 0, none⟩) ∧ f 21 = .bool (p4 || (decide (20 < (s.Faults.length : Int))))) ?_ ?_
  ·intro hJ8
   rcases bcases p4 with hc9 | hc9
   ·skip
    refine JL.skip (.bool rfl rfl rfl hc9) rfl ?_
    refine JL.skip (.bool rfl rfl rfl hc9) rfl ?_
    refine JL.skip (.bool rfl rfl rfl hc9) rfl ?_
    refine JL.skip (.bool rfl rfl rfl hc9) rfl ?_
    refine JL.pick_t (b := p4) rfl hc9 .none rfl ?_
    exact hJ8 _ ⟨rfl, or_t hc9 rfl⟩
   ·skip
    refine JL.fieldAddr fo_25_2 rfl (.some rfl rfl rfl hc9) rfl ?_
    refine JL.loadOwn 0 az_22 rfl rfl rfl (.some rfl rfl rfl hc9) rfl ?_
    refine JL.lenSL (R := R_Cell) ul_22 hs_2 (.some rfl rfl rfl hc9) rfl ?_
    refine JL.bin rfl rfl rfl (.some rfl rfl rfl hc9) rfl ?_
    refine JL.pick_f (b := p4) rfl hc9 .none rfl ?_
    exact hJ8 _ ⟨rfl, or_f hc9 rfl⟩
  ·rintro f ⟨hf1, hf21⟩
   refine (JL.norm (i := 1) hf1 (JL.norm (i := 21) hf21 ?_))
   refine JL.move .none rfl ?_
   refine JL.cut 5 (fun f => f 1 = .pointer (some ⟨b1, 0, none⟩) ∧ f 27 = .bool ((p4 || (decide (20 < (s.Faults.length : Int)))) || (decide (20 < (s.Flaws.length : Int))))) ?_ ?_
   ·intro hJ10
    rcases bcases (p4 || (decide (20 < (s.Faults.length : Int)))) with hc11 | hc11
    ·skip
     refine JL.skip (.bool rfl rfl rfl hc11) rfl ?_
     refine JL.skip (.bool rfl rfl rfl hc11) rfl ?_
     refine JL.skip (.bool rfl rfl rfl hc11) rfl ?_
     refine JL.skip (.bool rfl rfl rfl hc11) rfl ?_
     refine JL.pick_t (b := (p4 || (decide (20 < (s.Faults.length : Int))))) rfl hc11 .none rfl ?_
     exact hJ10 _ ⟨rfl, or_t hc11 rfl⟩
    ·skip
     refine JL.fieldAddr fo_25_3 rfl (.some rfl rfl rfl hc11) rfl ?_
     refine JL.loadOwn 0 az_22 rfl rfl rfl (.some rfl rfl rfl hc11) rfl ?_
     refine JL.lenSL (R := R_Cell) ul_22 hs_3 (.some rfl rfl rfl hc11) rfl ?_
     refine JL.bin rfl rfl rfl (.some rfl rfl rfl hc11) rfl ?_
     refine JL.pick_f (b := (p4 || (decide (20 < (s.Faults.length : Int))))) rfl hc11 .none rfl ?_
     exact hJ10 _ ⟨rfl, or_f hc11 rfl⟩
   ·rintro f ⟨hf1, hf27⟩
    refine (JL.norm (i := 1) hf1 (JL.norm (i := 27) hf27 ?_))
    refine JL.move .none rfl ?_
    refine JL.cut 5 (fun f => f 1 = .pointer (some ⟨b1, 0, none⟩) ∧ f 33 = .bool (((p4 || (decide (20 < (s.Faults.length : Int)))) || (decide (20 < (s.Flaws.length : Int)))) || (decide (5 < (s.Panels.length : Int))))) ?_ ?_
    ·intro hJ12
     rcases bcases ((p4 || (decide (20 < (s.Faults.length : Int)))) || (decide (20 < (s.Flaws.length : Int)))) with hc13 | hc13
     ·skip
      refine JL.skip (.bool rfl rfl rfl hc13) rfl ?_
      refine JL.skip (.bool rfl rfl rfl hc13) rfl ?_
      refine JL.skip (.bool rfl rfl rfl hc13) rfl ?_
      refine JL.skip (.bool rfl rfl rfl hc13) rfl ?_
      refine JL.pick_t (b := ((p4 || (decide (20 < (s.Faults.length : Int)))) || (decide (20 < (s.Flaws.length : Int))))) rfl hc13 .none rfl ?_
      exact hJ12 _ ⟨rfl, or_t hc13 rfl⟩
     ·skip
      refine JL.fieldAddr fo_25_4 rfl (.some rfl rfl rfl hc13) rfl ?_
      refine JL.loadOwn 0 az_23 rfl rfl rfl (.some rfl rfl rfl hc13) rfl ?_
      refine JL.lenSL (R := R_Panel) ul_23 hs_4 (.some rfl rfl rfl hc13) rfl ?_
      refine JL.bin rfl rfl rfl (.some rfl rfl rfl hc13) rfl ?_
      refine JL.pick_f (b := ((p4 || (decide (20 < (s.Faults.length : Int)))) || (decide (20 < (s.Flaws.length : Int))))) rfl hc13 .none rfl ?_
      exact hJ12 _ ⟨rfl, or_f hc13 rfl⟩
    ·rintro f ⟨hf1, hf33⟩
     refine (JL.norm (i := 1) hf1 (JL.norm (i := 33) hf33 ?_))
     refine JL.done hQ (JQ.go ?_)
     rcases ite_some hF with ⟨hc14, hF⟩ | ⟨hc14, hF⟩
     ·refine JC.cond_t (b := (((p4 || (decide (20 < (s.Faults.length : Int)))) || (decide (20 < (s.Flaws.length : Int)))) || (decide (5 < (s.Panels.length : Int))))) rfl hc14 ?_
      refine JC.seq (JC.region (by rfl) ?_)
      intro hQ
      refine JL.assign .none rfl ?_
      refine JL.done hQ (JQ.go (JC.ret (JQ.ret_then ?_)))
      obtain rfl := Option.some.inj hF
      exact JQ.outS rfl (.tmp .nil) rfl
     ·refine JC.cond_f (b := (((p4 || (decide (20 < (s.Faults.length : Int)))) || (decide (20 < (s.Flaws.length : Int)))) || (decide (5 < (s.Panels.length : Int))))) rfl hc14 ?_
      refine JC.skip (JQ.go (JC.seq (JC.region (by rfl) ?_)))
      intro hQ
      refine JL.makeMap .none rfl ?_
      intro b15
      refine JL.assign .none rfl ?_
      refine JL.done hQ (JQ.go (JC.seq (JC.seq (JC.region (by rfl) ?_))))
      intro hQ
      refine JL.fieldAddr fo_25_2 rfl .none rfl ?_
      refine JL.loadOwn 1 az_22 rfl rfl rfl .none rfl ?_
      refine JL.fieldAddr fo_25_3 rfl .none rfl ?_
      refine JL.loadOwn 1 az_22 rfl rfl rfl .none rfl ?_
      obtain ⟨a16, c17, rfl, hh18⟩ := hs_2
      have hs_2 : SL H 2 R_Cell (.slice a16 s.Faults.length c17) s.Faults := ⟨a16, c17, rfl, hh18⟩
      obtain ⟨a19, c20, rfl, hh21⟩ := hs_3
      have hs_3 : SL H 2 R_Cell (.slice a19 s.Flaws.length c20) s.Flaws := ⟨a19, c20, rfl, hh21⟩
      refine JL.buildSlice (e := 22) (l := [(.slice a16 s.Faults.length c17), (.slice a19 s.Flaws.length c20)]) (by kernel_rfl) .none rfl ?_
      intro b22
      refine JL.freezeC 0 (l := [(.slice a16 s.Faults.length c17), (.slice a19 s.Flaws.length c20)]) rfl ?_
      intro H23 hs23 hc24
      have hg25 : SL H23 1 (RSl 2 R_Cell) (.slice (some ⟨b22, 0, none⟩) 2 2) [s.Faults, s.Flaws] := CH.sl (l := [s.Faults, s.Flaws]) (CH.cons (cs := [(.slice a16 s.Faults.length c17)]) rfl ⟨_, rfl, (SL.mono R_Cell_mono hs23 hs_2)⟩ (CH.cons (cs := [(.slice a19 s.Flaws.length c20)]) rfl ⟨_, rfl, (SL.mono R_Cell_mono hs23 hs_3)⟩ CH.nil)) hc24 ⟨by simp, by simp⟩
      obtain ⟨y26, hy26, hF⟩ := bind_some hF
      refine JL.callH (c_slices_Concat___api_Cell_api_Cell_ n H23 [s.Faults, s.Flaws] (.slice (some ⟨b22, 0, none⟩) 2 2) hg25 y26 hy26) rfl en_59 .none rfl ?_
      intro H27 y26a_v0 hs27 hy26a_0
      refine JL.lenSL (R := R_Cell) ul_22 hy26a_0 .none rfl ?_
      refine JL.move .none rfl ?_
      refine JL.done hQ (JQ.go ?_)
      obtain ⟨r229, hlr229, hKr229⟩ := bind_some hF
      refine JC.join (fun (_ : Unit) H228 f bs gs => f 1 = .pointer (some ⟨b1, 0, none⟩) ∧ bs = [(b1, .cells [.int .i64 s.Width, .int .i64 s.Length, (.slice a16 s.Faults.length c17), (.slice a19 s.Flaws.length c20), s_v4].toArray 25)] ∧ gs = [] ∧ HSub H27 H228 ∧ Sum.inr () = r229) ?_ ?_
      ·skip
       refine JC.block (JC.loop hlr229 (fun (x : Int × Mp) H364 f bs gs => match x with | (x_362, m_363) => ∃ (em_363 : Array MapEntry) (cm_363 : Nat), f 1 = .pointer (some ⟨b1, 0, none⟩) ∧ f 3 = .map (some b15) ∧ f 40 = y26a_v0 ∧ f 41 = .int .i64 (y26.length : Int) ∧ f 42 = .int .i64 x_362 ∧ bs = [(b15, .map em_363 cm_363), (b1, .cells [.int .i64 s.Width, .int .i64 s.Length, (.slice a16 s.Faults.length c17), (.slice a19 s.Flaws.length c20), s_v4].toArray 25)] ∧ gs = [] ∧ MR 2 ekA m_363 em_363 cm_363 ∧ HSub H27 H364) ⟨#[], 0, rfl, rfl, rfl, rfl, rfl, rfl, rfl, MR.empty, (HSub.refl _)⟩ ?_)
       rintro ⟨x_362, m_363⟩ x366 H364 f bs gs ⟨em_363, cm_363, hf1, hf3, hf40, hf41, hf42, rfl, rfl, hm_363, hs364⟩ hF hr365
       rw [F_lays_Check_s1] at hF
       refine (JC.norm (i := 1) hf1 (JC.norm (i := 3) hf3 (JC.norm (i := 40) hf40 (JC.norm (i := 41) hf41 (JC.norm (i := 42) hf42 ?_)))))
       refine JC.seq (JC.region (by rfl) ?_)
       intro hQ
       refine JL.bin rfl rfl rfl .none rfl ?_
       refine JL.done hQ (JQ.go (JC.seq ?_))
       rcases ite_some hF with ⟨hc367, hF⟩ | ⟨hc367, hF⟩
       ·refine JC.cond_t (b := decide (x_362 < (y26.length : Int))) rfl hc367 ?_
        refine JC.skip (JQ.go (JC.seq (JC.block (JC.seq (JC.region (by rfl) ?_)))))
        intro hQ
        obtain ⟨y368, hy368, hF⟩ := bind_some hF
        refine JL.indexSL (R := R_Cell) sl_22 (SL.mono R_Cell_mono hs364 hy26a_0) rfl hy368 .none rfl ?_
        rintro b369 o370 cs371 hc372 - rfl
        refine JL.loadH 0 az_27 rfl hc372 rfl .none rfl ?_
        refine JL.alloc ze_27 .none rfl ?_
        intro b373
        refine JL.storeOwn 0 (cs := [.int .i64 y368.Row, .int .i64 y368.Col]) az_27 rfl rfl rfl (one_cons rfl (one_cons rfl one_nil)) rfl rfl .none ?_
        refine JL.done hQ (JQ.go (JC.seq ?_))
        obtain ⟨u375, hu375, hF⟩ := bind_some hF
        obtain ⟨u376, hu376, hF⟩ := bind_some hF
        refine JC.mixed 7 7 #[false, false, false, false, false, false, false] [(b373, .cells [.int .i64 y368.Row, .int .i64 y368.Col].toArray 27), (b1, .cells [.int .i64 s.Width, .int .i64 s.Length, (.slice a16 s.Faults.length c17), (.slice a19 s.Flaws.length c20), s_v4].toArray 25)] (by rfl) mo_ (by kernel_rfl) (by kernel_rfl) ?_
        intro hQ hE
        refine JA.cut 1 #[true, true, true, true, true, true, false] (fun H403 f bs gs => ∃ (es396 : Array MapEntry) (ck397 : Nat) (stp398 : Int), f 1 = .pointer (some ⟨b1, 0, none⟩) ∧ f 3 = .map (some b15) ∧ f 5 = .pointer (some ⟨b373, 0, none⟩) ∧ f 40 = y26a_v0 ∧ f 41 = .int .i64 (y26.length : Int) ∧ f 42 = .int .i64 x_362 ∧ f 46 = .map (some b15) ∧ f 49 = .int .i64 (w64 ((mget m_363 [y368.Row, y368.Col]) + 1)) ∧ f 51 = .int .i64 stp398 ∧ bs = [(b373, .cells [.int .i64 y368.Row, .int .i64 y368.Col].toArray 27), (b15, .map es396 ck397), (b1, .cells [.int .i64 s.Width, .int .i64 s.Length, (.slice a16 s.Faults.length c17), (.slice a19 s.Flaws.length c20), s_v4].toArray 25)] ∧ gs = [] ∧ MR 2 ekA (mput m_363 [y368.Row, y368.Col] (mget m_363 [y368.Row, y368.Col])) es396 ck397 ∧ EAt es396 stp398 (ekA [y368.Row, y368.Col]) ∧ HSub H364 H403) ?_ ?_
        ·rintro H403 f bs gs ⟨es396, ck397, stp398, hf1, hf3, hf5, hf40, hf41, hf42, hf46, hf49, hf51, rfl, rfl, hm404, hm405, hs403⟩
         refine (JA.norm (i := 1) hf1 (JA.norm (i := 3) hf3 (JA.norm (i := 5) hf5 (JA.norm (i := 40) hf40 (JA.norm (i := 41) hf41 (JA.norm (i := 42) hf42 (JA.norm (i := 46) hf46 (JA.norm (i := 49) hf49 (JA.norm (i := 51) hf51 ?_)))))))))
         refine JA.many [6] (by kernel_rfl) (by simp) (all_one ⟨_, #[true, true, true, true, true, true, true], rfl, (by kernel_rfl), ?_⟩)
         refine JL.storeM (k := [y368.Row, y368.Col]) 1 kt_27 rfl rfl hm404 (kok_some hu376) rfl hm405 rfl .none rfl ?_
         intro es406 hm407
         refine JA.after hE hs403 (.cons_cons _ (.cons _ (.cons_cons _ (List.nil_sublist _)))) ?_
         refine JA.done hQ (by kernel_rfl) ?_
         refine JQ.go (JC.seq (JC.region (by rfl) ?_))
         intro hQ
         refine JL.move .none rfl ?_
         refine JL.loadOwn 0 az_27 rfl rfl rfl .none rfl ?_
         obtain ⟨u408, hu408, hF⟩ := bind_some hF
         refine JL.lookupM (k := [y368.Row, y368.Col]) mp_98 kt_27 rfl (.own 1 rfl) hm407 rfl hu408 .none rfl ?_
         refine JL.bin rfl rfl rfl .none rfl ?_
         refine JL.move .none rfl ?_
         obtain ⟨p410, hp410, hF⟩ := bind_some hF
         refine JL.cut 8 (fun f => f 1 = .pointer (some ⟨b1, 0, none⟩) ∧ f 3 = .map (some b15) ∧ f 5 = .pointer (some ⟨b373, 0, none⟩) ∧ f 40 = y26a_v0 ∧ f 41 = .int .i64 (y26.length : Int) ∧ f 42 = .int .i64 x_362 ∧ f 64 = .bool p410) ?_ ?_
         ·intro hJ411
          rcases ite_some hp410 with ⟨hc412, hF⟩ | ⟨hc412, hF⟩
          ·skip
           refine JL.skip (.bool rfl rfl rfl hc412) rfl ?_
           refine JL.skip (.bool rfl rfl rfl hc412) rfl ?_
           refine JL.skip (.bool rfl rfl rfl hc412) rfl ?_
           refine JL.skip (.bool rfl rfl rfl hc412) rfl ?_
           refine JL.skip (.bool rfl rfl rfl hc412) rfl ?_
           refine JL.skip (.bool rfl rfl rfl hc412) rfl ?_
           refine JL.skip (.bool rfl rfl rfl hc412) rfl ?_
           refine JL.pick_t (b := decide (1 < (mget (mput (mput m_363 [y368.Row, y368.Col] (mget m_363 [y368.Row, y368.Col])) [y368.Row, y368.Col] (w64 ((mget m_363 [y368.Row, y368.Col]) + 1))) [y368.Row, y368.Col]))) rfl hc412 .none rfl ?_
           obtain rfl := Option.some.inj hF
           exact hJ411 _ ⟨rfl, rfl, rfl, rfl, rfl, rfl, rfl⟩
          ·skip
           refine JL.fieldAddr fo_27_0 rfl (.some rfl rfl rfl hc412) rfl ?_
           refine JL.loadOwn 0 az_3 rfl rfl rfl (.some rfl rfl rfl hc412) rfl ?_
           refine JL.fieldAddr fo_25_1 rfl (.some rfl rfl rfl hc412) rfl ?_
           refine JL.loadOwn 2 az_3 rfl rfl rfl (.some rfl rfl rfl hc412) rfl ?_
           refine JL.bin rfl rfl rfl (.some rfl rfl rfl hc412) rfl ?_
           obtain ⟨y413, hy413, hF⟩ := bind_some hF
           refine JL.callS (c_lays_within n H403 y368.Row 0 (w64 (s.Length - 1)) y413 hy413) rfl en_48 (.some rfl rfl rfl hc412) rfl ?_
           refine JL.not rfl (.some rfl rfl rfl hc412) rfl ?_
           refine JL.pick_f (b := decide (1 < (mget (mput (mput m_363 [y368.Row, y368.Col] (mget m_363 [y368.Row, y368.Col])) [y368.Row, y368.Col] (w64 ((mget m_363 [y368.Row, y368.Col]) + 1))) [y368.Row, y368.Col]))) rfl hc412 .none rfl ?_
           obtain rfl := Option.some.inj hF
           exact hJ411 _ ⟨rfl, rfl, rfl, rfl, rfl, rfl, rfl⟩
         ·rintro f ⟨hf1, hf3, hf5, hf40, hf41, hf42, hf64⟩
          refine (JL.norm (i := 1) hf1 (JL.norm (i := 3) hf3 (JL.norm (i := 5) hf5 (JL.norm (i := 40) hf40 (JL.norm (i := 41) hf41 (JL.norm (i := 42) hf42 (JL.norm (i := 64) hf64 ?_)))))))
          refine JL.move .none rfl ?_
          obtain ⟨p415, hp415, hF⟩ := bind_some hF
          refine JL.cut 8 (fun f => f 1 = .pointer (some ⟨b1, 0, none⟩) ∧ f 3 = .map (some b15) ∧ f 40 = y26a_v0 ∧ f 41 = .int .i64 (y26.length : Int) ∧ f 42 = .int .i64 x_362 ∧ f 73 = .bool p415) ?_ ?_
          ·intro hJ416
           rcases ite_some hp415 with ⟨hc417, hF⟩ | ⟨hc417, hF⟩
           ·skip
            refine JL.skip (.bool rfl rfl rfl hc417) rfl ?_
            refine JL.skip (.bool rfl rfl rfl hc417) rfl ?_
            refine JL.skip (.bool rfl rfl rfl hc417) rfl ?_
            refine JL.skip (.bool rfl rfl rfl hc417) rfl ?_
            refine JL.skip (.bool rfl rfl rfl hc417) rfl ?_
            refine JL.skip (.bool rfl rfl rfl hc417) rfl ?_
            refine JL.skip (.bool rfl rfl rfl hc417) rfl ?_
            refine JL.pick_t (b := p410) rfl hc417 .none rfl ?_
            obtain rfl := Option.some.inj hF
            exact hJ416 _ ⟨rfl, rfl, rfl, rfl, rfl, rfl⟩
           ·skip
            refine JL.fieldAddr fo_27_1 rfl (.some rfl rfl rfl hc417) rfl ?_
            refine JL.loadOwn 0 az_3 rfl rfl rfl (.some rfl rfl rfl hc417) rfl ?_
            refine JL.fieldAddr fo_25_0 rfl (.some rfl rfl rfl hc417) rfl ?_
            refine JL.loadOwn 2 az_3 rfl rfl rfl (.some rfl rfl rfl hc417) rfl ?_
            refine JL.bin rfl rfl rfl (.some rfl rfl rfl hc417) rfl ?_
            obtain ⟨y418, hy418, hF⟩ := bind_some hF
            refine JL.callS (c_lays_within n H403 y368.Col 0 (w64 (s.Width - 1)) y418 hy418) rfl en_48 (.some rfl rfl rfl hc417) rfl ?_
            refine JL.not rfl (.some rfl rfl rfl hc417) rfl ?_
            refine JL.pick_f (b := p410) rfl hc417 .none rfl ?_
            obtain rfl := Option.some.inj hF
            exact hJ416 _ ⟨rfl, rfl, rfl, rfl, rfl, rfl⟩
          ·rintro f ⟨hf1, hf3, hf40, hf41, hf42, hf73⟩
           refine (JL.norm (i := 1) hf1 (JL.norm (i := 3) hf3 (JL.norm (i := 40) hf40 (JL.norm (i := 41) hf41 (JL.norm (i := 42) hf42 (JL.norm (i := 73) hf73 ?_))))))
           refine JL.done hQ (JQ.go ?_)
           rcases ite_some hF with ⟨hc419, hF⟩ | ⟨hc419, hF⟩
           ·refine JC.cond_t (b := p415) rfl hc419 ?_
            refine JC.seq (JC.region (by rfl) ?_)
            intro hQ
            refine JL.assign .none rfl ?_
            refine JL.done hQ (JQ.go (JC.ret (JQ.ret_block (JQ.ret_then (JQ.ret_then (JQ.ret_block (JQ.ret_join (JQ.ret_then ?_))))))))
            obtain rfl := Option.some.inj hF
            have ehr365 := hr365 _ rfl
            subst ehr365
            have hF := hKr229
            try dsimp only at hF
            obtain rfl := Option.some.inj hF
            exact JQ.outS rfl (.tmp .nil) rfl
           ·refine JC.cond_f (b := p415) rfl hc419 ?_
            refine JC.skip (JQ.normal_block (JQ.go (JC.region (by rfl) ?_)))
            intro hQ
            refine JL.bin rfl rfl rfl .none rfl ?_
            refine JL.move .none rfl ?_
            refine JL.done hQ ?_
            obtain rfl := Option.some.inj hF
            refine JQ.mask [false, true, true] [] ?_
            exact JQ.next rfl ⟨es406, ck397, rfl, rfl, rfl, rfl, rfl, rfl, rfl, hm407, (HSub.trans hs364 hs403)⟩
        intro nd402_0
        refine JA.take 0 (listed' := #[true, false, false, false, false, false, false]) hQ rfl (by kernel_rfl) (by kernel_rfl) (by kernel_rfl) (by kernel_rfl) (by kernel_rfl) hE (HSub.refl _) (.cons_cons _ (.cons _ (.cons_cons _ (List.nil_sublist _)))) ?_
        refine JL.move .none rfl ?_
        refine JA.cont ?_
        refine JA.take 1 (listed' := #[true, true, false, false, false, false, false]) hQ rfl (by kernel_rfl) (by kernel_rfl) (by kernel_rfl) (by kernel_rfl) (by kernel_rfl) hE (HSub.refl _) (.cons_cons _ (.cons _ (.cons_cons _ (List.nil_sublist _)))) ?_
        refine JL.loadOwn 0 az_27 rfl rfl rfl .none rfl ?_
        refine JA.cont ?_
        refine JA.many [2, 4] (by kernel_rfl) (by simp) (all_cons ⟨_, #[true, true, true, false, false, false, false], rfl, (by kernel_rfl), ?_⟩ (all_one ⟨_, #[true, true, false, false, true, false, false], rfl, (by kernel_rfl), ?_⟩))
        ·skip
         refine JL.lookupM (k := [y368.Row, y368.Col]) mp_98 kt_27 rfl (.own 1 rfl) hm_363 rfl hu375 .none rfl ?_
         refine JA.after hE (HSub.refl _) (.cons_cons _ (.cons _ (.cons_cons _ (List.nil_sublist _)))) ?_
         refine JA.take 3 (listed' := #[true, true, true, true, false, false, false]) hQ rfl (by kernel_rfl) (by kernel_rfl) (by kernel_rfl) (by kernel_rfl) (by kernel_rfl) hE (HSub.refl _) (.cons_cons _ (.cons _ (.cons_cons _ (List.nil_sublist _)))) ?_
         refine JL.bin rfl rfl rfl .none rfl ?_
         refine JA.cont ?_
         refine JA.many [4] (by kernel_rfl) (by simp) (all_one ⟨_, #[true, true, true, true, true, false, false], rfl, (by kernel_rfl), ?_⟩)
         refine JL.entryM (k := [y368.Row, y368.Col]) 1 mp_98 kt_27 rfl rfl hm_363 rfl hu376 .none rfl ?_
         intro es420 ck421 stp422 hm423 he424
         refine JA.after hE (HSub.refl _) (.cons_cons _ (.cons _ (.cons_cons _ (List.nil_sublist _)))) ?_
         refine JA.take 5 (listed' := #[true, true, true, true, true, true, false]) hQ rfl (by kernel_rfl) (by kernel_rfl) (by kernel_rfl) (by kernel_rfl) (by kernel_rfl) hE (HSub.refl _) (.cons_cons _ (.cons _ (.cons_cons _ (List.nil_sublist _)))) ?_
         refine JL.extract rfl rfl .none rfl ?_
         refine JA.cont ?_
         exact nd402_0 _ _ _ _ ⟨es420, ck421, stp422, rfl, rfl, rfl, rfl, rfl, rfl, rfl, rfl, rfl, rfl, rfl, hm423, he424, (HSub.refl _)⟩
        ·skip
         refine JL.entryM (k := [y368.Row, y368.Col]) 1 mp_98 kt_27 rfl rfl hm_363 rfl hu376 .none rfl ?_
         intro es425 ck426 stp427 hm428 he429
         refine JA.after hE (HSub.refl _) (.cons_cons _ (.cons _ (.cons_cons _ (List.nil_sublist _)))) ?_
         refine JA.take 5 (listed' := #[true, true, false, false, true, true, false]) hQ rfl (by kernel_rfl) (by kernel_rfl) (by kernel_rfl) (by kernel_rfl) (by kernel_rfl) hE (HSub.refl _) (.cons_cons _ (.cons _ (.cons_cons _ (List.nil_sublist _)))) ?_
         refine JL.extract rfl rfl .none rfl ?_
         refine JA.cont ?_
         refine JA.many [2] (by kernel_rfl) (by simp) (all_one ⟨_, #[true, true, true, false, true, true, false], rfl, (by kernel_rfl), ?_⟩)
         refine JL.lookupMv (k := [y368.Row, y368.Col]) mp_98 kt_27 rfl (.own 1 rfl) hm428 rfl hu375 (mget_mput hm_363.srt) .none rfl ?_
         refine JA.after hE (HSub.refl _) (.cons_cons _ (.cons _ (.cons_cons _ (List.nil_sublist _)))) ?_
         refine JA.take 3 (listed' := #[true, true, true, true, true, true, false]) hQ rfl (by kernel_rfl) (by kernel_rfl) (by kernel_rfl) (by kernel_rfl) (by kernel_rfl) hE (HSub.refl _) (.cons_cons _ (.cons _ (.cons_cons _ (List.nil_sublist _)))) ?_
         refine JL.bin rfl rfl rfl .none rfl ?_
         refine JA.cont ?_
         exact nd402_0 _ _ _ _ ⟨es425, ck426, stp427, rfl, rfl, rfl, rfl, rfl, rfl, rfl, rfl, rfl, rfl, rfl, hm428, he429, (HSub.refl _)⟩
       ·refine JC.cond_f (b := decide (x_362 < (y26.length : Int))) rfl hc367 ?_
        refine JC.exit (JQ.exit_then (JQ.exit_then (JQ.exit_block ?_)))
        obtain rfl := Option.some.inj hF
        have ehr365 := hr365 _ rfl
        subst ehr365
        refine JQ.mask [false, true] [] ?_
        exact JQ.join () ⟨rfl, rfl, rfl, hs364, rfl⟩
      ·rintro _ H228 f bs gs ⟨hf1, rfl, rfl, hs228, rfl⟩
       have hF := hKr229
       try dsimp only at hF
       refine (JQ.norm (i := 1) hf1 ?_)
       refine JQ.go (JC.seq (JC.seq (JC.region (by rfl) ?_)))
       intro hQ
       refine JL.fieldAddr fo_25_4 rfl .none rfl ?_
       refine JL.loadOwn 0 az_23 rfl rfl rfl .none rfl ?_
       obtain ⟨y430, hy430, hF⟩ := bind_some hF
       refine JL.callS (c_slices_ContainsFunc___api_Panel_api_Panel_ n H228 s.Panels s_v4 (SL.mono R_Panel_mono (HSub.trans hs23 (HSub.trans hs27 hs228)) hs_4) (fun a0_ => F_lays_Check_1 n a0_) 61 [] en_61 (fun H' hs' a0_ a0__v0 ha0__0 y' hy' => c_lays_Check_1 n H' a0_ a0__v0 ha0__0 y' hy') y430 hy430) rfl en_60 .none rfl ?_
       refine JL.done hQ (JQ.go ?_)
       rcases ite_some hF with ⟨hc431, hF⟩ | ⟨hc431, hF⟩
       ·refine JC.cond_t (b := y430) rfl hc431 ?_
        refine JC.seq (JC.region (by rfl) ?_)
        intro hQ
        refine JL.assign .none rfl ?_
        refine JL.done hQ (JQ.go (JC.ret (JQ.ret_then ?_)))
        obtain rfl := Option.some.inj hF
        exact JQ.outS rfl (.tmp .nil) rfl
       ·refine JC.cond_f (b := y430) rfl hc431 ?_
        refine JC.skip (JQ.go (JC.seq (JC.region (by rfl) ?_)))
        intro hQ
        refine JL.assign .none rfl ?_
        refine JL.done hQ (JQ.go (JC.ret ?_))
        obtain rfl := Option.some.inj hF
        exact JQ.outS rfl (.tmp .nil) rfl
-- 45 ferrule/lays.cellsOf
def F_lays_cellsOf_s2 (n : Nat) (y573 : List Cell) : Int × List Int → Option ((Int × List Int) ⊕ (List Int))
 | (x_663, z_664) => if decide (x_663 < (y573.length : Int)) = true then ((geti y573 x_663).bind fun y669 => (geti z_664 y669.Row).bind fun y678 => (nneg y669.Col).bind fun _ => (geti z_664 y669.Row).bind fun y680 => some (Sum.inl ((w64 (x_663 + 1)), (setx z_664 y669.Row (bor .u16 y678 (bshl .u16 1 y669.Col)))))) else (some (Sum.inr z_664))
def F_lays_cellsOf_s1 (n : Nat) (l : List (List Cell)) : Int × List Int → Option ((Int × List Int) ⊕ (List Int))
 | (x_567, z_568) => if decide (x_567 < (l.length : Int)) = true then ((geti l x_567).bind fun y573 => (loopO n (F_lays_cellsOf_s2 n y573) (0, z_568)).bind fun z_628 => some (Sum.inl ((w64 (x_567 + 1)), z_628))) else (some (Sum.inr z_568))
def F_lays_cellsOf (n : Nat) (l : List (List Cell)) : Option (List Int) :=
 (loopO n (F_lays_cellsOf_s1 n l) (0, [0, 0, 0, 0, 0, 0, 0, 0, 0, 0, 0, 0])).bind fun z_340 => some z_340
theorem c_lays_cellsOf (n : Nat) (H : Hp) (l : List (List Cell)) (l_v0 : Value) (hl_0 : SL H 1 (RSl 2 R_Cell) l_v0 l) (y : (List Int)) (hF : F_lays_cellsOf n l = some y) : SC Try.prog 45 [l_v0] (.agg (av .u16 y).toArray) H := by
 rw [F_lays_cellsOf] at hF
 refine SC.of (N := 31) Try.func45 rfl rfl rfl fun w => ?_
 refine JC.seq (JC.region (by rfl) ?_)
 intro hQ
 refine JL.alloc ze_85 .none rfl ?_
 intro b1
 refine JL.done hQ (JQ.go (JC.seq (JC.seq (JC.region (by rfl) ?_))))
 intro hQ
 refine JL.move .none rfl ?_
 refine JL.lenSL (R := (RSl 2 R_Cell)) ul_108 hl_0 .none rfl ?_
 refine JL.move .none rfl ?_
 refine JL.done hQ (JQ.go ?_)
 obtain ⟨r342, hlr342, hKr342⟩ := bind_some hF
 refine JC.join (fun (z_340 : List Int) H341 f bs gs => f 2 = .pointer (some ⟨b1, 0, none⟩) ∧ bs = [(b1, .cells (av .u16 z_340).toArray 85)] ∧ gs = [] ∧ z_340.length = 12 ∧ HSub H H341 ∧ z_340 = r342) ?_ ?_
 ·skip
  refine JC.block (JC.loop hlr342 (fun (x : Int × List Int) H569 f bs gs => match x with | (x_567, z_568) => f 2 = .pointer (some ⟨b1, 0, none⟩) ∧ f 7 = l_v0 ∧ f 8 = .int .i64 (l.length : Int) ∧ f 9 = .int .i64 x_567 ∧ bs = [(b1, .cells (av .u16 z_568).toArray 85)] ∧ gs = [] ∧ z_568.length = 12 ∧ HSub H H569) ⟨rfl, rfl, rfl, rfl, rfl, rfl, rfl, (HSub.refl _)⟩ ?_)
  rintro ⟨x_567, z_568⟩ x571 H569 f bs gs ⟨hf2, hf7, hf8, hf9, rfl, rfl, hz_568, hs569⟩ hF hr570
  rw [F_lays_cellsOf_s1] at hF
  refine (JC.norm (i := 2) hf2 (JC.norm (i := 7) hf7 (JC.norm (i := 8) hf8 (JC.norm (i := 9) hf9 ?_))))
  refine JC.seq (JC.region (by rfl) ?_)
  intro hQ
  refine JL.bin rfl rfl rfl .none rfl ?_
  refine JL.done hQ (JQ.go (JC.seq ?_))
  rcases ite_some hF with ⟨hc572, hF⟩ | ⟨hc572, hF⟩
  ·refine JC.cond_t (b := decide (x_567 < (l.length : Int))) rfl hc572 ?_
   refine JC.skip (JQ.go (JC.seq (JC.block (JC.seq (JC.region (by rfl) ?_)))))
   intro hQ
   obtain ⟨y573, hy573, hF⟩ := bind_some hF
   refine JL.indexSL (R := (RSl 2 R_Cell)) sl_108 (SL.mono (RSl.mono R_Cell_mono) hs569 hl_0) rfl hy573 .none rfl ?_
   rintro b574 o575 cs576 hc577 - ⟨y573_v0, rfl, hy573_0⟩
   refine JL.loadH 0 az_22 rfl hc577 rfl .none rfl ?_
   refine JL.assign .none rfl ?_
   refine JL.done hQ (JQ.go (JC.seq (JC.region (by rfl) ?_)))
   intro hQ
   refine JL.move .none rfl ?_
   refine JL.lenSL (R := R_Cell) ul_22 hy573_0 .none rfl ?_
   refine JL.move .none rfl ?_
   refine JL.done hQ (JQ.go ?_)
   obtain ⟨r630, hlr630, hKr630⟩ := bind_some hF
   refine JC.join (fun (z_628 : List Int) H629 f bs gs => f 2 = .pointer (some ⟨b1, 0, none⟩) ∧ f 7 = l_v0 ∧ f 8 = .int .i64 (l.length : Int) ∧ f 9 = .int .i64 x_567 ∧ bs = [(b1, .cells (av .u16 z_628).toArray 85)] ∧ gs = [] ∧ z_628.length = 12 ∧ HSub H569 H629 ∧ z_628 = r630) ?_ ?_
   ·skip
    refine JC.block (JC.loop hlr630 (fun (x : Int × List Int) H665 f bs gs => match x with | (x_663, z_664) => f 2 = .pointer (some ⟨b1, 0, none⟩) ∧ f 7 = l_v0 ∧ f 8 = .int .i64 (l.length : Int) ∧ f 9 = .int .i64 x_567 ∧ f 13 = y573_v0 ∧ f 14 = .int .i64 (y573.length : Int) ∧ f 15 = .int .i64 x_663 ∧ bs = [(b1, .cells (av .u16 z_664).toArray 85)] ∧ gs = [] ∧ z_664.length = 12 ∧ HSub H569 H665) ⟨rfl, rfl, rfl, rfl, rfl, rfl, rfl, rfl, rfl, hz_568, (HSub.refl _)⟩ ?_)
    rintro ⟨x_663, z_664⟩ x667 H665 f bs gs ⟨hf2, hf7, hf8, hf9, hf13, hf14, hf15, rfl, rfl, hz_664, hs665⟩ hF hr666
    rw [F_lays_cellsOf_s2] at hF
    refine (JC.norm (i := 2) hf2 (JC.norm (i := 7) hf7 (JC.norm (i := 8) hf8 (JC.norm (i := 9) hf9 (JC.norm (i := 13) hf13 (JC.norm (i := 14) hf14 (JC.norm (i := 15) hf15 ?_)))))))
    refine JC.seq (JC.region (by rfl) ?_)
    intro hQ
    refine JL.bin rfl rfl rfl .none rfl ?_
    refine JL.done hQ (JQ.go (JC.seq ?_))
    rcases ite_some hF with ⟨hc668, hF⟩ | ⟨hc668, hF⟩
    ·refine JC.cond_t (b := decide (x_663 < (y573.length : Int))) rfl hc668 ?_
     refine JC.skip (JQ.go (JC.seq (JC.block (JC.seq (JC.region (by rfl) ?_)))))
     intro hQ
     obtain ⟨y669, hy669, hF⟩ := bind_some hF
     refine JL.indexSL (R := R_Cell) sl_22 (SL.mono R_Cell_mono hs665 hy573_0) rfl hy669 .none rfl ?_
     rintro b670 o671 cs672 hc673 - rfl
     refine JL.loadH 0 az_27 rfl hc673 rfl .none rfl ?_
     refine JL.alloc ze_27 .none rfl ?_
     intro b674
     refine JL.storeOwn 0 (cs := [.int .i64 y669.Row, .int .i64 y669.Col]) az_27 rfl rfl rfl (one_cons rfl (one_cons rfl one_nil)) rfl rfl .none ?_
     refine JL.done hQ (JQ.go ?_)
     obtain ⟨y678, hy678, hF⟩ := bind_some hF
     obtain ⟨u679, hu679, hF⟩ := bind_some hF
     obtain ⟨y680, hy680, hF⟩ := bind_some hF
     refine JC.mixed 9 10 #[false, false, false, false, false, false, false, false, false, false] [(b674, .cells [.int .i64 y669.Row, .int .i64 y669.Col].toArray 27), (b1, .cells (av .u16 z_664).toArray 85)] (by rfl) mo_ (by kernel_rfl) (by kernel_rfl) ?_
     intro hQ hE
     refine JA.take 0 (listed' := #[true, false, false, false, false, false, false, false, false, false]) hQ rfl (by kernel_rfl) (by kernel_rfl) (by kernel_rfl) (by kernel_rfl) (by kernel_rfl) hE (HSub.refl _) (.cons_cons _ (.cons_cons _ (List.nil_sublist _))) ?_
     refine JL.fieldAddr fo_27_0 rfl .none rfl ?_
     refine JA.cont ?_
     refine JA.take 1 (listed' := #[true, true, false, false, false, false, false, false, false, false]) hQ rfl (by kernel_rfl) (by kernel_rfl) (by kernel_rfl) (by kernel_rfl) (by kernel_rfl) hE (HSub.refl _) (.cons_cons _ (.cons_cons _ (List.nil_sublist _))) ?_
     refine JL.loadOwn 0 az_3 rfl rfl rfl .none rfl ?_
     refine JA.cont ?_
     refine JA.take 2 (listed' := #[true, true, true, false, false, false, false, false, false, false]) hQ rfl (by kernel_rfl) (by kernel_rfl) (by kernel_rfl) (by kernel_rfl) (by kernel_rfl) hE (HSub.refl _) (.cons_cons _ (.cons_cons _ (List.nil_sublist _))) ?_
     refine JL.indexArrP (l := z_664) ar_85 az_83 rfl rfl hz_664 hy678 .none rfl ?_
     refine JA.cont ?_
     refine JA.take 3 (listed' := #[true, true, true, true, false, false, false, false, false, false]) hQ rfl (by kernel_rfl) (by kernel_rfl) (by kernel_rfl) (by kernel_rfl) (by kernel_rfl) hE (HSub.refl _) (.cons_cons _ (.cons_cons _ (List.nil_sublist _))) ?_
     refine JL.loadEl (j := y669.Row) 1 az_83 rfl rfl hy678 .none rfl ?_
     refine JA.cont ?_
     refine JA.take 4 (listed' := #[true, true, true, true, true, false, false, false, false, false]) hQ rfl (by kernel_rfl) (by kernel_rfl) (by kernel_rfl) (by kernel_rfl) (by kernel_rfl) hE (HSub.refl _) (.cons_cons _ (.cons_cons _ (List.nil_sublist _))) ?_
     refine JL.fieldAddr fo_27_1 rfl .none rfl ?_
     refine JA.cont ?_
     refine JA.take 5 (listed' := #[true, true, true, true, true, true, false, false, false, false]) hQ rfl (by kernel_rfl) (by kernel_rfl) (by kernel_rfl) (by kernel_rfl) (by kernel_rfl) hE (HSub.refl _) (.cons_cons _ (.cons_cons _ (List.nil_sublist _))) ?_
     refine JL.loadOwn 0 az_3 rfl rfl rfl .none rfl ?_
     refine JA.cont ?_
     refine JA.take 6 (listed' := #[true, true, true, true, true, true, true, false, false, false]) hQ rfl (by kernel_rfl) (by kernel_rfl) (by kernel_rfl) (by kernel_rfl) (by kernel_rfl) hE (HSub.refl _) (.cons_cons _ (.cons_cons _ (List.nil_sublist _))) ?_
     refine JL.shl rfl rfl (nneg_some hu679) .none rfl ?_
     refine JA.cont ?_
     refine JA.take 7 (listed' := #[true, true, true, true, true, true, true, true, false, false]) hQ rfl (by kernel_rfl) (by kernel_rfl) (by kernel_rfl) (by kernel_rfl) (by kernel_rfl) hE (HSub.refl _) (.cons_cons _ (.cons_cons _ (List.nil_sublist _))) ?_
     refine JL.or rfl rfl .none rfl ?_
     refine JA.cont ?_
     refine JA.take 8 (listed' := #[true, true, true, true, true, true, true, true, true, false]) hQ rfl (by kernel_rfl) (by kernel_rfl) (by kernel_rfl) (by kernel_rfl) (by kernel_rfl) hE (HSub.refl _) (.cons_cons _ (.cons_cons _ (List.nil_sublist _))) ?_
     refine JL.indexArrP (l := z_664) ar_85 az_83 rfl rfl hz_664 hy680 .none rfl ?_
     refine JA.cont ?_
     refine JA.many [9] (by kernel_rfl) (by simp) (all_one ⟨_, #[true, true, true, true, true, true, true, true, true, true], rfl, (by kernel_rfl), ?_⟩)
     refine JL.storeEl (j := y669.Row) 1 az_83 rfl rfl rfl hy680 .none ?_
     refine JA.sink (by kernel_rfl) ?_
     refine JA.done hQ (by kernel_rfl) ?_
     refine JQ.normal_block (JQ.go (JC.fresh (fun f => f 2 = .pointer (some ⟨b1, 0, none⟩) ∧ f 7 = l_v0 ∧ f 8 = .int .i64 (l.length : Int) ∧ f 9 = .int .i64 x_567 ∧ f 13 = y573_v0 ∧ f 14 = .int .i64 (y573.length : Int) ∧ f 15 = .int .i64 x_663) ⟨rfl, rfl, rfl, rfl, rfl, rfl, rfl⟩ ?_))
     rintro f ⟨hf2, hf7, hf8, hf9, hf13, hf14, hf15⟩
     refine (JC.norm (i := 2) hf2 (JC.norm (i := 7) hf7 (JC.norm (i := 8) hf8 (JC.norm (i := 9) hf9 (JC.norm (i := 13) hf13 (JC.norm (i := 14) hf14 (JC.norm (i := 15) hf15 ?_)))))))
     refine JC.region (by rfl) ?_
     intro hQ
     refine JL.bin rfl rfl rfl .none rfl ?_
     refine JL.move .none rfl ?_
     refine JL.done hQ ?_
     obtain rfl := Option.some.inj hF
     refine JQ.mask [false, true] [] ?_
     exact JQ.next rfl ⟨rfl, rfl, rfl, rfl, rfl, rfl, rfl, rfl, rfl, (setx_length hz_664), hs665⟩
    ·refine JC.cond_f (b := decide (x_663 < (y573.length : Int))) rfl hc668 ?_
     refine JC.exit (JQ.exit_then (JQ.exit_then (JQ.exit_block ?_)))
     obtain rfl := Option.some.inj hF
     have ehr666 := hr666 _ rfl
     subst ehr666
     exact JQ.join z_664 ⟨rfl, rfl, rfl, rfl, rfl, rfl, hz_664, hs665, rfl⟩
   ·rintro z_628 H629 f bs gs ⟨hf2, hf7, hf8, hf9, rfl, rfl, hz_628, hs629, rfl⟩
    have hF := hKr630
    try dsimp only at hF
    refine (JQ.norm (i := 2) hf2 (JQ.norm (i := 7) hf7 (JQ.norm (i := 8) hf8 (JQ.norm (i := 9) hf9 ?_))))
    refine JQ.normal_block (JQ.go (JC.region (by rfl) ?_))
    intro hQ
    refine JL.bin rfl rfl rfl .none rfl ?_
    refine JL.move .none rfl ?_
    refine JL.done hQ ?_
    obtain rfl := Option.some.inj hF
    exact JQ.next rfl ⟨rfl, rfl, rfl, rfl, rfl, rfl, hz_628, (HSub.trans hs569 hs629)⟩
  ·refine JC.cond_f (b := decide (x_567 < (l.length : Int))) rfl hc572 ?_
   refine JC.exit (JQ.exit_then (JQ.exit_then (JQ.exit_block ?_)))
   obtain rfl := Option.some.inj hF
   have ehr570 := hr570 _ rfl
   subst ehr570
   exact JQ.join z_568 ⟨rfl, rfl, rfl, hz_568, hs569, rfl⟩
 ·rintro z_340 H341 f bs gs ⟨hf2, rfl, rfl, hz_340, hs341, rfl⟩
  have hF := hKr342
  try dsimp only at hF
  refine (JQ.norm (i := 2) hf2 ?_)
  refine JQ.go (JC.seq (JC.region (by rfl) ?_))
  intro hQ
  refine JL.loadArr (l := z_340) 0 az_85 rfl rfl hz_340 .none rfl ?_
  refine JL.storeArr (l := z_340) (l' := z_340) 0 az_85 rfl rfl rfl hz_340 hz_340 .none ?_
  refine JL.done hQ (JQ.go (JC.ret ?_))
  obtain rfl := Option.some.inj hF
  exact JQ.outS rfl (.cell 0 az_85 rfl rfl (loadw_arr hz_340) .nil) rfl
-- 77 slices.Backward[[]ferrule/api.Span,ferrule/api.Span]
def F_slices_Backward___api_Span_api_Span_ (n : Nat) (s : List Span) : Option (List Span) :=
 some s
theorem c_slices_Backward___api_Span_api_Span_ (n : Nat) (H : Hp) (s : List Span) (s_v0 : Value) (hs_0 : SL H 2 R_Span s_v0 s) (y : (List Span)) (hF : F_slices_Backward___api_Span_api_Span_ n s = some y) : HC Try.prog 77 [s_v0] H (fun H' v => ∃ b0_ : Nat, ∃ z0_v0 : Value, v = .func (.func 80) #[] [.pointer (some ⟨b0_, 0, none⟩)].toArray ∧ Cells H' b0_ 0 [z0_v0] ∧ SL H' 2 R_Span z0_v0 y) := by
 rw [F_slices_Backward___api_Span_api_Span_] at hF
 refine HC.of (N := 4) Try.func77 rfl rfl rfl fun w => ?_
 refine JC.seq (JC.region (by rfl) ?_)
 intro hQ
 refine JL.box (cs := [s_v0]) (SL.vc hs_0) .none rfl ?_
 intro b1
 refine JL.assign .none rfl ?_
 refine JL.done hQ (JQ.go (JC.seq (JC.region (by rfl) ?_)))
 intro hQ
 refine JL.makeFunc .none rfl ?_
 refine JL.assign .none rfl ?_
 refine JL.done hQ (JQ.go (JC.ret (JQ.freezeC 0 (l := [s_v0]) rfl ?_)))
 intro H2 hs2 hc3
 obtain rfl := Option.some.inj hF
 exact JQ.outH rfl (.tmp .nil) ⟨b1, s_v0, rfl, hc3, (SL.mono R_Span_mono hs2 hs_0)⟩
-- 71 ferrule/lays.rows
def F_lays_rows_s1 (n : Nat) (p : Panel) : Int × Int → Option ((Int × Int) ⊕ Int)
 | (x_59, z_60) => if decide (x_59 < (p.Rows.length : Int)) = true then ((geti p.Rows x_59).bind fun y65 => some (Sum.inl ((w64 (x_59 + 1)), (max z_60 y65.High)))) else (some (Sum.inr z_60))
def F_lays_rows_s2 (n : Nat) (z_36 : Int) : (List Span) → (Int × Span) → Option ((List Span) ⊕ Unit)
 | out_111, x75 => (lim (out_111 ++ [(Span.mk (w64 (z_36 - x75.2.High)) (w64 (z_36 - x75.2.Low)))])).bind fun l118 => some (Sum.inl l118)
def F_lays_rows (n : Nat) (p : Panel) (turned : Int) : Option (List Span) :=
 if (turned == 0) = true then (some p.Rows) else ((loopO n (F_lays_rows_s1 n p) (0, 0)).bind fun z_36 => (F_slices_Backward___api_Span_api_Span_ n p.Rows).bind fun y72 => (I_slices_Backward___api_Span_api_Span__1 n y72 (F_lays_rows_s2 n z_36) ([] : List Span)).bind fun r113 => match r113 with | .inl out_111 => some out_111 | .inr _ => none)
theorem c_lays_rows (n : Nat) (H : Hp) (p : Panel) (p_v0 : Value) (hp_0 : SL H 2 R_Span p_v0 p.Rows) (turned : Int) (y : (List Span)) (hF : F_lays_rows n p turned = some y) : HC Try.prog 71 [.agg [p_v0].toArray, .int .i64 turned] H (fun H' ra_v0 => SL H' 2 R_Span ra_v0 y) := by
 rw [F_lays_rows] at hF
 refine HC.ofM (N := 45) Try.func71 rfl rfl rfl fun w => ?_
 refine JC.seq (JC.region (by rfl) ?_)
 intro hQ
 refine JL.box (cs := [p_v0]) rfl .none rfl ?_
 intro b1
 refine JL.assign .none rfl ?_
 refine JL.done hQ (JQ.go (JC.seq (JC.seq (JC.region (by rfl) ?_))))
 intro hQ
 refine JL.move .none rfl ?_
 refine JL.bin rfl rfl rfl .none rfl ?_
 refine JL.done hQ (JQ.go ?_)
 rcases ite_some hF with ⟨hc2, hF⟩ | ⟨hc2, hF⟩
 ·refine JC.cond_t (b := (turned == 0)) rfl hc2 ?_
  refine JC.seq (JC.region (by rfl) ?_)
  intro hQ
  refine JL.fieldAddr fo_30_0 rfl .none rfl ?_
  refine JL.loadOwn 0 az_28 rfl rfl rfl .none rfl ?_
  refine JL.assign .none rfl ?_
  refine JL.done hQ (JQ.go (JC.ret (JQ.ret_then ?_)))
  obtain rfl := Option.some.inj hF
  exact JQ.outHM rfl .nil (.tmp .nil) hp_0
 ·refine JC.cond_f (b := (turned == 0)) rfl hc2 ?_
  refine JC.skip (JQ.go (JC.seq (JC.region (by rfl) ?_)))
  intro hQ
  refine JL.alloc ze_3 .none rfl ?_
  intro b3
  refine JL.storeOwn 0 (cs := [.int .i64 0]) az_3 rfl rfl rfl (one_cons rfl one_nil) rfl rfl .none ?_
  refine JL.done hQ (JQ.go (JC.seq (JC.seq (JC.region (by rfl) ?_))))
  intro hQ
  refine JL.fieldAddr fo_30_0 rfl .none rfl ?_
  refine JL.loadOwn 1 az_28 rfl rfl rfl .none rfl ?_
  refine JL.lenSL (R := R_Span) ul_28 hp_0 .none rfl ?_
  refine JL.move .none rfl ?_
  refine JL.done hQ (JQ.go ?_)
  obtain ⟨r38, hlr38, hKr38⟩ := bind_some hF
  refine JC.join (fun (z_36 : Int) H37 f bs gs => f 2 = .pointer (some ⟨b1, 0, none⟩) ∧ f 5 = .pointer (some ⟨b3, 0, none⟩) ∧ bs = [(b3, .cells [.int .i64 z_36].toArray 3), (b1, .cells [p_v0].toArray 30)] ∧ gs = [] ∧ HSub H H37 ∧ z_36 = r38) ?_ ?_
  ·skip
   refine JC.block (JC.loop hlr38 (fun (x : Int × Int) H61 f bs gs => match x with | (x_59, z_60) => f 2 = .pointer (some ⟨b1, 0, none⟩) ∧ f 5 = .pointer (some ⟨b3, 0, none⟩) ∧ f 16 = p_v0 ∧ f 17 = .int .i64 (p.Rows.length : Int) ∧ f 18 = .int .i64 x_59 ∧ bs = [(b3, .cells [.int .i64 z_60].toArray 3), (b1, .cells [p_v0].toArray 30)] ∧ gs = [] ∧ HSub H H61) ⟨rfl, rfl, rfl, rfl, rfl, rfl, rfl, (HSub.refl _)⟩ ?_)
   rintro ⟨x_59, z_60⟩ x63 H61 f bs gs ⟨hf2, hf5, hf16, hf17, hf18, rfl, rfl, hs61⟩ hF hr62
   rw [F_lays_rows_s1] at hF
   refine (JC.norm (i := 2) hf2 (JC.norm (i := 5) hf5 (JC.norm (i := 16) hf16 (JC.norm (i := 17) hf17 (JC.norm (i := 18) hf18 ?_)))))
   refine JC.seq (JC.region (by rfl) ?_)
   intro hQ
   refine JL.bin rfl rfl rfl .none rfl ?_
   refine JL.done hQ (JQ.go (JC.seq ?_))
   rcases ite_some hF with ⟨hc64, hF⟩ | ⟨hc64, hF⟩
   ·refine JC.cond_t (b := decide (x_59 < (p.Rows.length : Int))) rfl hc64 ?_
    refine JC.skip (JQ.go (JC.seq (JC.block (JC.seq (JC.region (by rfl) ?_)))))
    intro hQ
    obtain ⟨y65, hy65, hF⟩ := bind_some hF
    refine JL.indexSL (R := R_Span) sl_28 (SL.mono R_Span_mono hs61 hp_0) rfl hy65 .none rfl ?_
    rintro b66 o67 cs68 hc69 - rfl
    refine JL.loadH 0 az_46 rfl hc69 rfl .none rfl ?_
    refine JL.alloc ze_46 .none rfl ?_
    intro b70
    refine JL.storeOwn 0 (cs := [.int .i64 y65.Low, .int .i64 y65.High]) az_46 rfl rfl rfl (one_cons rfl (one_cons rfl one_nil)) rfl rfl .none ?_
    refine JL.done hQ (JQ.go (JC.region (by rfl) ?_))
    intro hQ
    refine JL.loadOwn 1 az_3 rfl rfl rfl .none rfl ?_
    refine JL.fieldAddr fo_46_1 rfl .none rfl ?_
    refine JL.loadOwn 0 az_3 rfl rfl rfl .none rfl ?_
    refine JL.max rfl rfl .none rfl ?_
    refine JL.storeOwn 1 (cs := [.int .i64 (max z_60 y65.High)]) az_3 rfl rfl rfl (one_cons rfl one_nil) rfl rfl .none ?_
    refine JL.done hQ (JQ.normal_block (JQ.go (JC.region (by rfl) ?_)))
    intro hQ
    refine JL.bin rfl rfl rfl .none rfl ?_
    refine JL.move .none rfl ?_
    refine JL.done hQ ?_
    obtain rfl := Option.some.inj hF
    refine JQ.mask [false, true, true] [] ?_
    exact JQ.next rfl ⟨rfl, rfl, rfl, rfl, rfl, rfl, rfl, hs61⟩
   ·refine JC.cond_f (b := decide (x_59 < (p.Rows.length : Int))) rfl hc64 ?_
    refine JC.exit (JQ.exit_then (JQ.exit_then (JQ.exit_block ?_)))
    obtain rfl := Option.some.inj hF
    have ehr62 := hr62 _ rfl
    subst ehr62
    exact JQ.join z_60 ⟨rfl, rfl, rfl, rfl, hs61, rfl⟩
  ·rintro z_36 H37 f bs gs ⟨hf2, hf5, rfl, rfl, hs37, rfl⟩
   have hF := hKr38
   try dsimp only at hF
   refine (JQ.norm (i := 2) hf2 (JQ.norm (i := 5) hf5 ?_))
   refine JQ.go (JC.seq (JC.region (by rfl) ?_))
   intro hQ
   refine JL.alloc ze_28 .none rfl ?_
   intro b71
   refine JL.done hQ (JQ.go (JC.seq (JC.seq (JC.region (by rfl) ?_))))
   intro hQ
   refine JL.fieldAddr fo_30_0 rfl .none rfl ?_
   refine JL.loadOwn 2 az_28 rfl rfl rfl .none rfl ?_
   obtain ⟨y72, hy72, hF⟩ := bind_some hF
   refine JL.callH (c_slices_Backward___api_Span_api_Span_ n H37 p.Rows p_v0 (SL.mono R_Span_mono hs37 hp_0) y72 hy72) rfl en_77 .none rfl ?_
   rintro H73 vv74 hs73 ⟨y72_b0, y72_0_v0, rfl, hy72_b0, hy72_0_0⟩
   refine JL.done hQ (JQ.go (JC.block (JC.newNil (e := 46) (sz := 2) ?_)))
   obtain ⟨r113, hl114, hF⟩ := bind_some hF
   refine JC.mask [true, true, false] [true] ?_
   refine JC.rangeFunc2 (ρ := Unit) (V := (VPlain2 fun (x : Int × Span) => (.int .i64 x.1, .agg [.int .i64 x.2.Low, .int .i64 x.2.High].toArray))) (F := fun _ _ step s => I_slices_Backward___api_Span_api_Span__1 n y72 step s) rfl en_80 (it_slices_Backward___api_Span_api_Span__1 n H73 y72 y72_0_v0 hy72_0_0 y72_b0 hy72_b0) rfl rfl hl114 (fun (out_111 : List Span) H112 fr gs => ∃ (vout_111 : Value) (xsout_111 : List Value), fr = [(b71, .cells [vout_111].toArray 28), (b3, .cells [.int .i64 z_36].toArray 3)] ∧ gs = [⟨vout_111, 46, 2, out_111.length, xsout_111⟩] ∧ CH H112 2 R_Span xsout_111 out_111 ∧ HSub H73 H112) (fun _ _ _ _ _ => False) ⟨(.slice none 0 0), [], rfl, rfl, CH.nil, (HSub.refl _)⟩ ?_ ?_ ?_
   ·rintro l76 out_111 x75 y115 v77 own T78 H112 fr gs ⟨vout_111, xsout_111, rfl, rfl, hout_111, hs112⟩ hF ⟨rfl, rfl⟩ -
    rw [F_lays_rows_s2] at hF
    refine JC.region (by rfl) ?_
    intro hQ
    refine JL.alloc ze_46 .none rfl ?_
    intro b116
    refine JL.storeOwn 0 (cs := [.int .i64 x75.2.Low, .int .i64 x75.2.High]) az_46 rfl rfl rfl (one_cons rfl (one_cons rfl one_nil)) rfl rfl .none ?_
    refine JL.done hQ (JQ.assigned [(b116, .cells [.int .i64 x75.2.Low, .int .i64 x75.2.High].toArray 46), (b71, .cells [vout_111].toArray 28), (b3, .cells [.int .i64 z_36].toArray 3)] (fun T79 => ?_))
    refine JC.block (JC.region (by rfl) ?_)
    intro hQ
    refine JL.loadOwn 1 az_28 rfl rfl rfl .none rfl ?_
    refine JL.loadOwn 2 az_3 rfl rfl rfl .none rfl ?_
    refine JL.fieldAddr fo_46_1 rfl .none rfl ?_
    refine JL.loadOwn 0 az_3 rfl rfl rfl .none rfl ?_
    refine JL.bin rfl rfl rfl .none rfl ?_
    refine JL.loadOwn 2 az_3 rfl rfl rfl .none rfl ?_
    refine JL.fieldAddr fo_46_0 rfl .none rfl ?_
    refine JL.loadOwn 0 az_3 rfl rfl rfl .none rfl ?_
    refine JL.bin rfl rfl rfl .none rfl ?_
    refine JL.build (l := [.int .i64 (w64 (z_36 - x75.2.High)), .int .i64 (w64 (z_36 - x75.2.Low))]) (by kernel_rfl) .none rfl ?_
    refine JL.buildSlice (e := 46) (l := [.int .i64 (w64 (z_36 - x75.2.High)), .int .i64 (w64 (z_36 - x75.2.Low))]) (by kernel_rfl) .none rfl ?_
    intro b117
    obtain ⟨l118, hl118, hF⟩ := bind_some hF
    refine JL.appO (R := R_Span) 0 0 (l := out_111) (m := [(Span.mk (w64 (z_36 - x75.2.High)) (w64 (z_36 - x75.2.Low)))]) ap_28 rfl ⟨rfl, rfl⟩ rfl hout_111 rfl rfl rfl (CH.cons (cs := [.int .i64 (w64 (z_36 - x75.2.High)), .int .i64 (w64 (z_36 - x75.2.Low))]) rfl rfl CH.nil) rfl (one_cons rfl (one_cons rfl one_nil)) hl118 .none rfl ?_
    intro v119 xs120 hch121
    refine JL.oneG 0 rfl (fun ho122 => ?_)
    refine JL.storeOwn 2 (cs := [v119]) az_28 rfl ho122.2 rfl (one_cons ho122.1 one_nil) rfl rfl .none ?_
    refine JL.done hQ (JQ.normal_block ?_)
    obtain rfl := Option.some.inj hF
    refine JQ.mask [false, false, true, true] [true] ?_
    refine JQ.round rfl [(b71, .cells [v119].toArray 28), (b3, .cells [.int .i64 z_36].toArray 3)] (HSub.refl _) ?_
    exact ⟨v119, xs120, rfl, rfl, hch121, hs112⟩
   ·rintro D123 out_111 H112 fr gs rfl ⟨vout_111, xsout_111, rfl, rfl, hout_111, hs112⟩ -
    try dsimp only at hF
    refine JQ.normal_block (JQ.go (JC.seq (JC.region (by rfl) ?_)))
    intro hQ
    refine JL.loadOwn 0 az_28 rfl rfl rfl .none rfl ?_
    refine JL.assign .none rfl ?_
    refine JL.done hQ (JQ.go (JC.ret (JQ.freezeG 0 (R := R_Span) rfl R_Span_mono hout_111 rfl ?_)))
    intro H124 hs124 hg125
    obtain rfl := Option.some.inj hF
    exact JQ.outHM rfl (.cons 2 rfl .nil) (.tmp .nil) hg125
   ·rintro _ _ _ _ _ _ _ h; exact h.elim
end Go.Proofs.Ytflhjlgimihmgaa
end
section
set_option maxRecDepth 100000
set_option maxHeartbeats 40000000
namespace Go.Proofs.Ytflhjlgimihmgaa
open Go Go.RowKit Go.Dec
set_option linter.unusedVariables false
-- 68 (*ferrule/lays.cloth).put
/-- what a callee leaves that works on its caller's cloth -/
abbrev KC (H : Hp) (b : Nat) (A : List Value) (bT : List (Nat × Obj)) (gT : List GS) (q0 : GS) (y : Bool × List Int × List Place) : Kw := fun v H' bs' gs' => v = .bool y.1 ∧ HSub H H' ∧ ∃ (lv : Value) (lx : List Value) (gx : List GS), bs' = (b, .cells (A ++ (av .u16 y.2.1 ++ [lv])).toArray 106) :: bT ∧ gs' = ⟨lv, 62, 3, y.2.2.length, lx⟩ :: (gx ++ gT) ∧ CH H' 3 R_Place lx y.2.2 ∧ y.2.1.length = 12 ∧ Back q0 ⟨lv, 62, 3, y.2.2.length, lx⟩ gx
def F_lays_cloth_put_s1 (n : Nat) (c : Lap) (c_r : Int) (c_t : List Int) (c_l : List Place) (p : Place) (y14 : (List Span)) : Int × List Int → Option ((Int × List Int) ⊕ ((Bool × List Int × List Place) ⊕ (List Int)))
 | (x_144, z_145) => if decide (x_144 < (y14.length : Int)) = true then ((geti y14 x_144).bind fun y150 => if ((decide (c_r ≤ (w64 (p.Row + x_144)))) || (decide (c.Width ≤ (w64 (p.Col + y150.High))))) = true then (some (Sum.inr (Sum.inl (false, c_t, c_l)))) else ((nneg (w64 ((w64 (p.Col + y150.High)) + 1))).bind fun _ => (nneg (w64 (p.Col + y150.Low))).bind fun _ => (geti z_145 (w64 (p.Row + x_144))).bind fun y163 => if ((band .u16 y163 (IntKind.u16.wrap ((bshl .u16 1 (w64 ((w64 (p.Col + y150.High)) + 1))) - (bshl .u16 1 (w64 (p.Col + y150.Low)))))) != 0) = true then (some (Sum.inr (Sum.inl (false, c_t, c_l)))) else ((geti z_145 (w64 (p.Row + x_144))).bind fun y165 => (geti z_145 (w64 (p.Row + x_144))).bind fun y166 => some (Sum.inl ((w64 (x_144 + 1)), (setx z_145 (w64 (p.Row + x_144)) (bor .u16 y165 (IntKind.u16.wrap ((bshl .u16 1 (w64 ((w64 (p.Col + y150.High)) + 1))) - (bshl .u16 1 (w64 (p.Col + y150.Low)))))))))))) else (some (Sum.inr (Sum.inr z_145)))
def F_lays_cloth_put (n : Nat) (c : Lap) (c_r : Int) (c_t : List Int) (c_l : List Place) (panel : Int) (p : Place) : Option (Bool × List Int × List Place) :=
 (geti c.Panels panel).bind fun y9 => (F_lays_rows n y9 p.Turned).bind fun y14 => (loopO n (F_lays_cloth_put_s1 n c c_r c_t c_l p y14) (0, c_t)).bind fun r101 => match r101 with | .inl o => some o | .inr z_99 => (lim (c_l ++ [p])).bind fun l168 => some (true, z_99, l168)
theorem c_lays_cloth_put (n : Nat) (H : Hp) (c : Lap) (c_v2 : Value) (hc_2 : SL H 2 R_Cell c_v2 c.Faults) (c_v3 : Value) (hc_3 : SL H 2 R_Cell c_v3 c.Flaws) (c_v4 : Value) (hc_4 : SL H 1 R_Panel c_v4 c.Panels) (c_r : Int) (c_t : List Int) (c_tl : c_t.length = 12) (c_l : List Place) (c_v : Value) (c_x : List Value) (c_h : CH H 3 R_Place c_x c_l) (c_b : Nat) (bT : List (Nat × Obj)) (gT : List GS) (panel : Int) (p : Place) (y : Bool × List Int × List Place) (hF : F_lays_cloth_put n c c_r c_t c_l panel p = some y) (B : Bs) (w : World) (hs : St B H ((c_b, .cells (([.int .i64 c.Width, .int .i64 c.Length, c_v2, c_v3, c_v4, .int .i64 c_r] : List Value) ++ (av .u16 c_t ++ [c_v])).toArray 106) :: bT) (⟨c_v, 62, 3, c_l.length, c_x⟩ :: gT) w) : Calls Try.prog 68 [.pointer (some ⟨c_b, 0, none⟩), .int .i64 panel, .agg [.int .i64 p.Row, .int .i64 p.Col, .int .i64 p.Turned].toArray].toArray w (RetW B (KC H c_b [.int .i64 c.Width, .int .i64 c.Length, c_v2, c_v3, c_v4, .int .i64 c_r] bT gT ⟨c_v, 62, 3, c_l.length, c_x⟩ y)) := by
 rw [F_lays_cloth_put] at hF
 refine calls_of (N := 95) Try.func68 rfl rfl rfl hs ?_
 clear hs
 refine JC.seq (JC.region (by rfl) ?_)
 intro hQ
 refine JL.box (cs := [.int .i64 p.Row, .int .i64 p.Col, .int .i64 p.Turned]) rfl .none rfl ?_
 intro b1
 refine JL.assign .none rfl ?_
 refine JL.done hQ (JQ.go (JC.seq (JC.region (by rfl) ?_)))
 intro hQ
 refine JL.move .none rfl ?_
 refine JL.nilCheck rfl .none rfl ?_
 refine JL.fieldAddr fo_106_2 rfl .none rfl ?_
 refine JL.loadOwn 1 az_85 rfl rfl (loadw_ama c_tl) .none rfl ?_
 refine JL.alloc ze_85 .none rfl ?_
 intro b2
 refine JL.storeArr (l := [0, 0, 0, 0, 0, 0, 0, 0, 0, 0, 0, 0]) (l' := c_t) 0 az_85 rfl rfl rfl rfl c_tl .none ?_
 refine JL.done hQ (JQ.go (JC.seq (JC.seq ?_)))
 obtain ⟨y9, hy9, hF⟩ := bind_some hF
 obtain ⟨y14, hy14, hF⟩ := bind_some hF
 refine JC.mixed 13 13 #[false, false, false, false, false, false, false, false, false, false, false, false, false] [(b2, .cells (av .u16 c_t).toArray 85), (b1, .cells [.int .i64 p.Row, .int .i64 p.Col, .int .i64 p.Turned].toArray 62), (c_b, .cells (([.int .i64 c.Width, .int .i64 c.Length, c_v2, c_v3, c_v4, .int .i64 c_r] : List Value) ++ (av .u16 c_t ++ [c_v])).toArray 106)] (by rfl) mo_ (by kernel_rfl) (by kernel_rfl) ?_
 intro hQ hE
 refine JA.take 0 (listed' := #[true, false, false, false, false, false, false, false, false, false, false, false, false]) hQ rfl (by kernel_rfl) (by kernel_rfl) (by kernel_rfl) (by kernel_rfl) (by kernel_rfl) hE (HSub.refl _) (.cons_cons _ (.cons_cons _ (.cons_cons _ (List.nil_sublist _)))) ?_
 refine JL.move .none rfl ?_
 refine JA.cont ?_
 refine JA.take 1 (listed' := #[true, true, false, false, false, false, false, false, false, false, false, false, false]) hQ rfl (by kernel_rfl) (by kernel_rfl) (by kernel_rfl) (by kernel_rfl) (by kernel_rfl) hE (HSub.refl _) (.cons_cons _ (.cons_cons _ (.cons_cons _ (List.nil_sublist _)))) ?_
 refine JL.nilCheck rfl .none rfl ?_
 refine JA.cont ?_
 refine JA.take 2 (listed' := #[true, true, true, false, false, false, false, false, false, false, false, false, false]) hQ rfl (by kernel_rfl) (by kernel_rfl) (by kernel_rfl) (by kernel_rfl) (by kernel_rfl) hE (HSub.refl _) (.cons_cons _ (.cons_cons _ (.cons_cons _ (List.nil_sublist _)))) ?_
 refine JL.fieldAddr fo_106_0 rfl .none rfl ?_
 refine JA.cont ?_
 refine JA.take 3 (listed' := #[true, true, true, true, false, false, false, false, false, false, false, false, false]) hQ rfl (by kernel_rfl) (by kernel_rfl) (by kernel_rfl) (by kernel_rfl) (by kernel_rfl) hE (HSub.refl _) (.cons_cons _ (.cons_cons _ (.cons_cons _ (List.nil_sublist _)))) ?_
 refine JL.fieldAddr fo_25_4 rfl .none rfl ?_
 refine JA.cont ?_
 refine JA.take 4 (listed' := #[true, true, true, true, true, false, false, false, false, false, false, false, false]) hQ rfl (by kernel_rfl) (by kernel_rfl) (by kernel_rfl) (by kernel_rfl) (by kernel_rfl) hE (HSub.refl _) (.cons_cons _ (.cons_cons _ (.cons_cons _ (List.nil_sublist _)))) ?_
 refine JL.loadOwn 2 az_23 rfl rfl rfl .none rfl ?_
 refine JA.cont ?_
 refine JA.take 5 (listed' := #[true, true, true, true, true, true, false, false, false, false, false, false, false]) hQ rfl (by kernel_rfl) (by kernel_rfl) (by kernel_rfl) (by kernel_rfl) (by kernel_rfl) hE (HSub.refl _) (.cons_cons _ (.cons_cons _ (.cons_cons _ (List.nil_sublist _)))) ?_
 refine JL.move .none rfl ?_
 refine JA.cont ?_
 refine JA.take 6 (listed' := #[true, true, true, true, true, true, true, false, false, false, false, false, false]) hQ rfl (by kernel_rfl) (by kernel_rfl) (by kernel_rfl) (by kernel_rfl) (by kernel_rfl) hE (HSub.refl _) (.cons_cons _ (.cons_cons _ (.cons_cons _ (List.nil_sublist _)))) ?_
 refine JL.indexSL (R := R_Panel) sl_23 hc_4 rfl hy9 .none rfl ?_
 rintro b29 o30 cs31 hc32 - ⟨y9_v0, rfl, hy9_0⟩
 refine JA.cont ?_
 refine JA.take 7 (listed' := #[true, true, true, true, true, true, true, true, false, false, false, false, false]) hQ rfl (by kernel_rfl) (by kernel_rfl) (by kernel_rfl) (by kernel_rfl) (by kernel_rfl) hE (HSub.refl _) (.cons_cons _ (.cons_cons _ (.cons_cons _ (List.nil_sublist _)))) ?_
 refine JL.loadH 0 az_30 rfl hc32 rfl .none rfl ?_
 refine JA.cont ?_
 refine JA.take 8 (listed' := #[true, true, true, true, true, true, true, true, true, false, false, false, false]) hQ rfl (by kernel_rfl) (by kernel_rfl) (by kernel_rfl) (by kernel_rfl) (by kernel_rfl) hE (HSub.refl _) (.cons_cons _ (.cons_cons _ (.cons_cons _ (List.nil_sublist _)))) ?_
 refine JL.fieldAddr fo_62_2 rfl .none rfl ?_
 refine JA.cont ?_
 refine JA.take 9 (listed' := #[true, true, true, true, true, true, true, true, true, true, false, false, false]) hQ rfl (by kernel_rfl) (by kernel_rfl) (by kernel_rfl) (by kernel_rfl) (by kernel_rfl) hE (HSub.refl _) (.cons_cons _ (.cons_cons _ (.cons_cons _ (List.nil_sublist _)))) ?_
 refine JL.loadOwn 1 az_3 rfl rfl rfl .none rfl ?_
 refine JA.cont ?_
 refine JA.take 12 (listed' := #[true, true, true, true, true, true, true, true, true, true, false, false, true]) hQ rfl (by kernel_rfl) (by kernel_rfl) (by kernel_rfl) (by kernel_rfl) (by kernel_rfl) hE (HSub.refl _) (.cons_cons _ (.cons_cons _ (.cons_cons _ (List.nil_sublist _)))) ?_
 refine JL.move .none rfl ?_
 refine JA.cont ?_
 refine JA.many [10] (by kernel_rfl) (by simp) (all_one ⟨_, #[true, true, true, true, true, true, true, true, true, true, true, false, true], rfl, (by kernel_rfl), ?_⟩)
 refine JL.callH (c_lays_rows n H y9 y9_v0 hy9_0 p.Turned y14 hy14) rfl en_71 .none rfl ?_
 intro H33 y14a_v0 hs33 hy14a_0
 refine JA.after hE hs33 (.cons_cons _ (.cons_cons _ (.cons_cons _ (List.nil_sublist _)))) ?_
 refine JA.many [11] (by kernel_rfl) (by simp) (all_one ⟨_, #[true, true, true, true, true, true, true, true, true, true, true, true, true], rfl, (by kernel_rfl), ?_⟩)
 refine JL.lenSL (R := R_Span) ul_28 hy14a_0 .none rfl ?_
 refine JA.after hE hs33 (.cons_cons _ (.cons_cons _ (.cons_cons _ (List.nil_sublist _)))) ?_
 refine JA.done hQ (by kernel_rfl) ?_
 refine JQ.go (JC.fresh (fun f => f 0 = .pointer (some ⟨c_b, 0, none⟩) ∧ f 5 = .pointer (some ⟨b1, 0, none⟩) ∧ f 6 = .bool false ∧ f 7 = .pointer (some ⟨b2, 0, none⟩) ∧ f 27 = y14a_v0 ∧ f 28 = .int .i64 (y14.length : Int) ∧ f 29 = .int .i64 0) ⟨rfl, rfl, rfl, rfl, rfl, rfl, rfl⟩ ?_)
 rintro f ⟨hf0, hf5, hf6, hf7, hf27, hf28, hf29⟩
 refine (JC.norm (i := 0) hf0 (JC.norm (i := 5) hf5 (JC.norm (i := 6) hf6 (JC.norm (i := 7) hf7 (JC.norm (i := 27) hf27 (JC.norm (i := 28) hf28 (JC.norm (i := 29) hf29 ?_)))))))
 obtain ⟨r101, hlr101, hKr101⟩ := bind_some hF
 refine JC.join (fun (z_99 : List Int) H100 f bs gs => f 0 = .pointer (some ⟨c_b, 0, none⟩) ∧ f 5 = .pointer (some ⟨b1, 0, none⟩) ∧ f 7 = .pointer (some ⟨b2, 0, none⟩) ∧ bs = ((b2, .cells (av .u16 z_99).toArray 85) :: (b1, .cells [.int .i64 p.Row, .int .i64 p.Col, .int .i64 p.Turned].toArray 62) :: (c_b, .cells (([.int .i64 c.Width, .int .i64 c.Length, c_v2, c_v3, c_v4, .int .i64 c_r] : List Value) ++ (av .u16 c_t ++ [c_v])).toArray 106) :: bT) ∧ gs = (⟨c_v, 62, 3, c_l.length, c_x⟩ :: gT) ∧ z_99.length = 12 ∧ HSub H33 H100 ∧ Sum.inr z_99 = r101) ?_ ?_
 ·skip
  refine JC.block (JC.loop hlr101 (fun (x : Int × List Int) H146 f bs gs => match x with | (x_144, z_145) => f 0 = .pointer (some ⟨c_b, 0, none⟩) ∧ f 5 = .pointer (some ⟨b1, 0, none⟩) ∧ f 7 = .pointer (some ⟨b2, 0, none⟩) ∧ f 27 = y14a_v0 ∧ f 28 = .int .i64 (y14.length : Int) ∧ f 29 = .int .i64 x_144 ∧ bs = ((b2, .cells (av .u16 z_145).toArray 85) :: (b1, .cells [.int .i64 p.Row, .int .i64 p.Col, .int .i64 p.Turned].toArray 62) :: (c_b, .cells (([.int .i64 c.Width, .int .i64 c.Length, c_v2, c_v3, c_v4, .int .i64 c_r] : List Value) ++ (av .u16 c_t ++ [c_v])).toArray 106) :: bT) ∧ gs = (⟨c_v, 62, 3, c_l.length, c_x⟩ :: gT) ∧ z_145.length = 12 ∧ HSub H33 H146) ⟨rfl, rfl, rfl, rfl, rfl, rfl, rfl, rfl, c_tl, (HSub.refl _)⟩ ?_)
  rintro ⟨x_144, z_145⟩ x148 H146 f bs gs ⟨hf0, hf5, hf7, hf27, hf28, hf29, rfl, rfl, hz_145, hs146⟩ hF hr147
  rw [F_lays_cloth_put_s1] at hF
  refine (JC.norm (i := 0) hf0 (JC.norm (i := 5) hf5 (JC.norm (i := 7) hf7 (JC.norm (i := 27) hf27 (JC.norm (i := 28) hf28 (JC.norm (i := 29) hf29 ?_))))))
  refine JC.seq (JC.region (by rfl) ?_)
  intro hQ
  refine JL.bin rfl rfl rfl .none rfl ?_
  refine JL.done hQ (JQ.go (JC.seq ?_))
  rcases ite_some hF with ⟨hc149, hF⟩ | ⟨hc149, hF⟩
  ·refine JC.cond_t (b := decide (x_144 < (y14.length : Int))) rfl hc149 ?_
   refine JC.skip (JQ.go (JC.seq (JC.block (JC.seq (JC.region (by rfl) ?_)))))
   intro hQ
   refine JL.move .none rfl ?_
   obtain ⟨y150, hy150, hF⟩ := bind_some hF
   refine JL.indexSL (R := R_Span) sl_28 (SL.mono R_Span_mono hs146 hy14a_0) rfl hy150 .none rfl ?_
   rintro b151 o152 cs153 hc154 - rfl
   refine JL.loadH 0 az_46 rfl hc154 rfl .none rfl ?_
   refine JL.alloc ze_46 .none rfl ?_
   intro b155
   refine JL.assign .none rfl ?_
   refine JL.storeOwn 0 (cs := [.int .i64 y150.Low, .int .i64 y150.High]) az_46 rfl rfl rfl (one_cons rfl (one_cons rfl one_nil)) rfl rfl .none ?_
   refine JL.done hQ (JQ.go (JC.seq (JC.draw (by rfl) mo_ (by kernel_rfl) ?_)))
   intro hQ
   refine JL.fieldAddr fo_62_0 rfl .none rfl ?_
   refine JL.loadOwn 2 az_3 rfl rfl rfl .none rfl ?_
   refine JL.move .none rfl ?_
   refine JL.bin rfl rfl rfl .none rfl ?_
   refine JL.fieldAddr fo_62_1 rfl .none rfl ?_
   refine JL.loadOwn 2 az_3 rfl rfl rfl .none rfl ?_
   refine JL.fieldAddr fo_46_1 rfl .none rfl ?_
   refine JL.loadOwn 0 az_3 rfl rfl rfl .none rfl ?_
   refine JL.bin rfl rfl rfl .none rfl ?_
   refine JL.assign .none rfl ?_
   refine JL.assign .none rfl ?_
   refine JL.doneQ hQ ?_
   refine JQ.go (JC.fresh (fun f => f 0 = .pointer (some ⟨c_b, 0, none⟩) ∧ f 5 = .pointer (some ⟨b1, 0, none⟩) ∧ f 7 = .pointer (some ⟨b2, 0, none⟩) ∧ f 9 = .pointer (some ⟨b155, 0, none⟩) ∧ f 10 = .int .i64 (w64 (p.Row + x_144)) ∧ f 11 = .int .i64 (w64 (p.Col + y150.High)) ∧ f 27 = y14a_v0 ∧ f 28 = .int .i64 (y14.length : Int) ∧ f 29 = .int .i64 x_144) ⟨rfl, rfl, rfl, rfl, rfl, rfl, rfl, rfl, rfl⟩ ?_)
   rintro f ⟨hf0, hf5, hf7, hf9, hf10, hf11, hf27, hf28, hf29⟩
   refine (JC.norm (i := 0) hf0 (JC.norm (i := 5) hf5 (JC.norm (i := 7) hf7 (JC.norm (i := 9) hf9 (JC.norm (i := 10) hf10 (JC.norm (i := 11) hf11 (JC.norm (i := 27) hf27 (JC.norm (i := 28) hf28 (JC.norm (i := 29) hf29 ?_)))))))))
   refine JC.seq (JC.seq (JC.region (by rfl) ?_))
   intro hQ
   refine JL.move .none rfl ?_
   refine JL.move .none rfl ?_
   refine JL.nilCheck rfl .none rfl ?_
   refine JL.fieldAddr fo_106_1 rfl .none rfl ?_
   refine JL.loadOwn 3 az_3 rfl rfl rfl .none rfl ?_
   refine JL.bin rfl rfl rfl .none rfl ?_
   refine JL.move .none rfl ?_
   refine JL.cut 8 (fun f => f 0 = .pointer (some ⟨c_b, 0, none⟩) ∧ f 5 = .pointer (some ⟨b1, 0, none⟩) ∧ f 7 = .pointer (some ⟨b2, 0, none⟩) ∧ f 9 = .pointer (some ⟨b155, 0, none⟩) ∧ f 10 = .int .i64 (w64 (p.Row + x_144)) ∧ f 11 = .int .i64 (w64 (p.Col + y150.High)) ∧ f 27 = y14a_v0 ∧ f 28 = .int .i64 (y14.length : Int) ∧ f 29 = .int .i64 x_144 ∧ f 57 = .bool ((decide (c_r ≤ (w64 (p.Row + x_144)))) || (decide (c.Width ≤ (w64 (p.Col + y150.High)))))) ?_ ?_
   ·intro hJ156
    rcases bcases (decide (c_r ≤ (w64 (p.Row + x_144)))) with hc157 | hc157
    ·skip
     refine JL.skip (.bool rfl rfl rfl hc157) rfl ?_
     refine JL.skip (.bool rfl rfl rfl hc157) rfl ?_
     refine JL.skip (.bool rfl rfl rfl hc157) rfl ?_
     refine JL.skip (.bool rfl rfl rfl hc157) rfl ?_
     refine JL.skip (.bool rfl rfl rfl hc157) rfl ?_
     refine JL.skip (.bool rfl rfl rfl hc157) rfl ?_
     refine JL.skip (.bool rfl rfl rfl hc157) rfl ?_
     refine JL.pick_t (b := decide (c_r ≤ (w64 (p.Row + x_144)))) rfl hc157 .none rfl ?_
     exact hJ156 _ ⟨rfl, rfl, rfl, rfl, rfl, rfl, rfl, rfl, rfl, or_t hc157 rfl⟩
    ·skip
     refine JL.move (.some rfl rfl rfl hc157) rfl ?_
     refine JL.move (.some rfl rfl rfl hc157) rfl ?_
     refine JL.nilCheck rfl (.some rfl rfl rfl hc157) rfl ?_
     refine JL.fieldAddr fo_106_0 rfl (.some rfl rfl rfl hc157) rfl ?_
     refine JL.fieldAddr fo_25_0 rfl (.some rfl rfl rfl hc157) rfl ?_
     refine JL.loadOwn 3 az_3 rfl rfl rfl (.some rfl rfl rfl hc157) rfl ?_
     refine JL.bin rfl rfl rfl (.some rfl rfl rfl hc157) rfl ?_
     refine JL.pick_f (b := decide (c_r ≤ (w64 (p.Row + x_144)))) rfl hc157 .none rfl ?_
     exact hJ156 _ ⟨rfl, rfl, rfl, rfl, rfl, rfl, rfl, rfl, rfl, or_f hc157 rfl⟩
   ·rintro f ⟨hf0, hf5, hf7, hf9, hf10, hf11, hf27, hf28, hf29, hf57⟩
    refine (JL.norm (i := 0) hf0 (JL.norm (i := 5) hf5 (JL.norm (i := 7) hf7 (JL.norm (i := 9) hf9 (JL.norm (i := 10) hf10 (JL.norm (i := 11) hf11 (JL.norm (i := 27) hf27 (JL.norm (i := 28) hf28 (JL.norm (i := 29) hf29 (JL.norm (i := 57) hf57 ?_))))))))))
    refine JL.done hQ (JQ.go ?_)
    rcases ite_some hF with ⟨hc158, hF⟩ | ⟨hc158, hF⟩
    ·refine JC.cond_t (b := ((decide (c_r ≤ (w64 (p.Row + x_144)))) || (decide (c.Width ≤ (w64 (p.Col + y150.High)))))) rfl hc158 ?_
     refine JC.seq (JC.region (by rfl) ?_)
     intro hQ
     refine JL.assign .none rfl ?_
     refine JL.done hQ (JQ.go (JC.ret (JQ.ret_then (JQ.ret_block (JQ.ret_then (JQ.ret_then (JQ.ret_block (JQ.ret_join (JQ.ret_then ?_)))))))))
     obtain rfl := Option.some.inj hF
     have ehr147 := hr147 _ rfl
     subst ehr147
     have hF := hKr101
     try dsimp only at hF
     refine JQ.mask [false, false, false, true] [] ?_
     obtain rfl := Option.some.inj hF
     exact JQ.outW rfl (.tmp .nil) ⟨rfl, (HSub.trans hs33 hs146), _, _, [], rfl, rfl, (CH.mono R_Place_mono (HSub.trans hs33 hs146) c_h), c_tl, (Back.refl _)⟩
    ·refine JC.cond_f (b := ((decide (c_r ≤ (w64 (p.Row + x_144)))) || (decide (c.Width ≤ (w64 (p.Col + y150.High)))))) rfl hc158 ?_
     refine JC.skip (JQ.go (JC.seq (JC.draw (by rfl) mo_ (by kernel_rfl) ?_)))
     intro hQ
     refine JL.move .none rfl ?_
     refine JL.bin rfl rfl rfl .none rfl ?_
     obtain ⟨u161, hu161, hF⟩ := bind_some hF
     refine JL.shl rfl rfl (nneg_some hu161) .none rfl ?_
     refine JL.fieldAddr fo_62_1 rfl .none rfl ?_
     refine JL.loadOwn 2 az_3 rfl rfl rfl .none rfl ?_
     refine JL.fieldAddr fo_46_0 rfl .none rfl ?_
     refine JL.loadOwn 0 az_3 rfl rfl rfl .none rfl ?_
     refine JL.bin rfl rfl rfl .none rfl ?_
     obtain ⟨u162, hu162, hF⟩ := bind_some hF
     refine JL.shl rfl rfl (nneg_some hu162) .none rfl ?_
     refine JL.bin rfl rfl rfl .none rfl ?_
     refine JL.assign .none rfl ?_
     refine JL.doneQ hQ ?_
     refine JQ.go (JC.fresh (fun f => f 0 = .pointer (some ⟨c_b, 0, none⟩) ∧ f 5 = .pointer (some ⟨b1, 0, none⟩) ∧ f 7 = .pointer (some ⟨b2, 0, none⟩) ∧ f 10 = .int .i64 (w64 (p.Row + x_144)) ∧ f 12 = .int .u16 (IntKind.u16.wrap ((bshl .u16 1 (w64 ((w64 (p.Col + y150.High)) + 1))) - (bshl .u16 1 (w64 (p.Col + y150.Low))))) ∧ f 27 = y14a_v0 ∧ f 28 = .int .i64 (y14.length : Int) ∧ f 29 = .int .i64 x_144) ⟨rfl, rfl, rfl, rfl, rfl, rfl, rfl, rfl⟩ ?_)
     rintro f ⟨hf0, hf5, hf7, hf10, hf12, hf27, hf28, hf29⟩
     refine (JC.norm (i := 0) hf0 (JC.norm (i := 5) hf5 (JC.norm (i := 7) hf7 (JC.norm (i := 10) hf10 (JC.norm (i := 12) hf12 (JC.norm (i := 27) hf27 (JC.norm (i := 28) hf28 (JC.norm (i := 29) hf29 ?_))))))))
     refine JC.seq (JC.seq (JC.region (by rfl) ?_))
     intro hQ
     refine JL.move .none rfl ?_
     obtain ⟨y163, hy163, hF⟩ := bind_some hF
     refine JL.indexArrP (l := z_145) ar_85 az_83 rfl rfl hz_145 hy163 .none rfl ?_
     refine JL.loadEl (j := (w64 (p.Row + x_144))) 1 az_83 rfl rfl hy163 .none rfl ?_
     refine JL.move .none rfl ?_
     refine JL.and rfl rfl .none rfl ?_
     refine JL.bin rfl rfl rfl .none rfl ?_
     refine JL.done hQ (JQ.go ?_)
     rcases ite_some hF with ⟨hc164, hF⟩ | ⟨hc164, hF⟩
     ·refine JC.cond_t (b := ((band .u16 y163 (IntKind.u16.wrap ((bshl .u16 1 (w64 ((w64 (p.Col + y150.High)) + 1))) - (bshl .u16 1 (w64 (p.Col + y150.Low)))))) != 0)) rfl hc164 ?_
      refine JC.seq (JC.region (by rfl) ?_)
      intro hQ
      refine JL.assign .none rfl ?_
      refine JL.done hQ (JQ.go (JC.fresh (fun f => f 6 = .bool false) rfl ?_))
      rintro f hf6
      refine (JC.norm (i := 6) hf6 ?_)
      refine JC.ret (JQ.ret_then (JQ.ret_block (JQ.ret_then (JQ.ret_then (JQ.ret_block (JQ.ret_join (JQ.ret_then ?_)))))))
      obtain rfl := Option.some.inj hF
      have ehr147 := hr147 _ rfl
      subst ehr147
      have hF := hKr101
      try dsimp only at hF
      refine JQ.mask [false, false, false, true] [] ?_
      obtain rfl := Option.some.inj hF
      exact JQ.outW rfl (.tmp .nil) ⟨rfl, (HSub.trans hs33 hs146), _, _, [], rfl, rfl, (CH.mono R_Place_mono (HSub.trans hs33 hs146) c_h), c_tl, (Back.refl _)⟩
     ·refine JC.cond_f (b := ((band .u16 y163 (IntKind.u16.wrap ((bshl .u16 1 (w64 ((w64 (p.Col + y150.High)) + 1))) - (bshl .u16 1 (w64 (p.Col + y150.Low)))))) != 0)) rfl hc164 ?_
      refine JC.skip (JQ.go (JC.region (by rfl) ?_))
      intro hQ
      refine JL.move .none rfl ?_
      obtain ⟨y165, hy165, hF⟩ := bind_some hF
      refine JL.indexArrP (l := z_145) ar_85 az_83 rfl rfl hz_145 hy165 .none rfl ?_
      refine JL.loadEl (j := (w64 (p.Row + x_144))) 1 az_83 rfl rfl hy165 .none rfl ?_
      refine JL.move .none rfl ?_
      refine JL.or rfl rfl .none rfl ?_
      obtain ⟨y166, hy166, hF⟩ := bind_some hF
      refine JL.indexArrP (l := z_145) ar_85 az_83 rfl rfl hz_145 hy166 .none rfl ?_
      refine JL.storeEl (j := (w64 (p.Row + x_144))) 1 az_83 rfl rfl rfl hy166 .none ?_
      refine JL.done hQ (JQ.normal_block (JQ.go (JC.fresh (fun f => f 0 = .pointer (some ⟨c_b, 0, none⟩) ∧ f 5 = .pointer (some ⟨b1, 0, none⟩) ∧ f 7 = .pointer (some ⟨b2, 0, none⟩) ∧ f 27 = y14a_v0 ∧ f 28 = .int .i64 (y14.length : Int) ∧ f 29 = .int .i64 x_144) ⟨rfl, rfl, rfl, rfl, rfl, rfl⟩ ?_)))
      rintro f ⟨hf0, hf5, hf7, hf27, hf28, hf29⟩
      refine (JC.norm (i := 0) hf0 (JC.norm (i := 5) hf5 (JC.norm (i := 7) hf7 (JC.norm (i := 27) hf27 (JC.norm (i := 28) hf28 (JC.norm (i := 29) hf29 ?_))))))
      refine JC.region (by rfl) ?_
      intro hQ
      refine JL.bin rfl rfl rfl .none rfl ?_
      refine JL.move .none rfl ?_
      refine JL.done hQ ?_
      obtain rfl := Option.some.inj hF
      refine JQ.mask [false, true, true, true] [true] ?_
      exact JQ.next rfl ⟨rfl, rfl, rfl, rfl, rfl, rfl, rfl, rfl, (setx_length hz_145), hs146⟩
  ·refine JC.cond_f (b := decide (x_144 < (y14.length : Int))) rfl hc149 ?_
   refine JC.exit (JQ.exit_then (JQ.exit_then (JQ.exit_block ?_)))
   obtain rfl := Option.some.inj hF
   have ehr147 := hr147 _ rfl
   subst ehr147
   exact JQ.join z_145 ⟨rfl, rfl, rfl, rfl, rfl, hz_145, hs146, rfl⟩
 ·rintro z_99 H100 f bs gs ⟨hf0, hf5, hf7, rfl, rfl, hz_99, hs100, rfl⟩
  have hF := hKr101
  try dsimp only at hF
  refine (JQ.norm (i := 0) hf0 (JQ.norm (i := 5) hf5 (JQ.norm (i := 7) hf7 ?_)))
  refine JQ.go (JC.seq ?_)
  obtain ⟨l168, hl168, hF⟩ := bind_some hF
  refine JC.mixed 16 16 #[false, false, false, false, false, false, false, false, false, false, false, false, false, false, false, false] [(b2, .cells (av .u16 z_99).toArray 85), (b1, .cells [.int .i64 p.Row, .int .i64 p.Col, .int .i64 p.Turned].toArray 62)] (by rfl) mo_ (by kernel_rfl) (by kernel_rfl) ?_
  intro hQ hE
  refine JA.cut 7 #[true, true, true, true, true, true, true, true, true, false, false, false, false, false, false, false] (fun H209 f bs gs => ∃ (b202 : Nat), f 81 = .pointer (some ⟨c_b, 0, none⟩) ∧ f 82 = .pointer (some ⟨c_b, 0, none⟩) ∧ f 83 = .agg (av .u16 z_99).toArray ∧ f 87 = c_v ∧ f 89 = .slice (some ⟨b202, 0, none⟩) 1 1 ∧ bs = ((b202, .cells [.int .i64 p.Row, .int .i64 p.Col, .int .i64 p.Turned].toArray 62) :: (b2, .cells (av .u16 z_99).toArray 85) :: (b1, .cells [.int .i64 p.Row, .int .i64 p.Col, .int .i64 p.Turned].toArray 62) :: (c_b, .cells (([.int .i64 c.Width, .int .i64 c.Length, c_v2, c_v3, c_v4, .int .i64 c_r] : List Value) ++ (av .u16 c_t ++ [c_v])).toArray 106) :: bT) ∧ gs = (⟨c_v, 62, 3, c_l.length, c_x⟩ :: gT) ∧ HSub H100 H209) ?_ ?_
  ·rintro H209 f bs gs ⟨b202, hf81, hf82, hf83, hf87, hf89, rfl, rfl, hs209⟩
   refine (JA.norm (i := 81) hf81 (JA.norm (i := 82) hf82 (JA.norm (i := 83) hf83 (JA.norm (i := 87) hf87 (JA.norm (i := 89) hf89 ?_)))))
   refine JA.many [9] (by kernel_rfl) (by simp) (all_one ⟨_, #[true, true, true, true, true, true, true, true, true, true, false, false, false, false, false, false], rfl, (by kernel_rfl), ?_⟩)
   refine JL.appendK (R := R_Place) 0 (l := c_l) (m := [p]) ap_54 ⟨rfl, rfl⟩ rfl (CH.mono R_Place_mono (HSub.trans hs33 (HSub.trans hs100 hs209)) c_h) rfl rfl rfl (CH.cons (cs := [.int .i64 p.Row, .int .i64 p.Col, .int .i64 p.Turned]) rfl rfl CH.nil) rfl (by decide) (one_cons rfl (one_cons rfl (one_cons rfl one_nil))) hl168 .none rfl ?_
   intro v210 xs211 gx212 hch213 hbk214
   refine JA.after hE hs209 (.cons _ (.cons_cons _ (.cons_cons _ (.cons _ (List.nil_sublist _))))) ?_
   refine JA.take 10 (listed' := #[true, true, true, true, true, true, true, true, true, true, true, false, false, false, false, false]) hQ rfl (by kernel_rfl) (by kernel_rfl) (by kernel_rfl) (by kernel_rfl) (by kernel_rfl) hE hs209 (.cons _ (.cons_cons _ (.cons_cons _ (.cons _ (List.nil_sublist _))))) ?_
   refine JL.nilCheck rfl .none rfl ?_
   refine JA.cont ?_
   refine JA.take 11 (listed' := #[true, true, true, true, true, true, true, true, true, true, true, true, false, false, false, false]) hQ rfl (by kernel_rfl) (by kernel_rfl) (by kernel_rfl) (by kernel_rfl) (by kernel_rfl) hE hs209 (.cons _ (.cons_cons _ (.cons_cons _ (.cons _ (List.nil_sublist _))))) ?_
   refine JL.fieldAddr fo_106_2 rfl .none rfl ?_
   refine JA.cont ?_
   refine JA.many [12] (by kernel_rfl) (by simp) (all_one ⟨_, #[true, true, true, true, true, true, true, true, true, true, true, true, true, false, false, false], rfl, (by kernel_rfl), ?_⟩)
   refine JL.storeAma 3 az_85 rfl rfl rfl c_tl hz_99 .none ?_
   refine JA.after hE hs209 (.cons _ (.cons_cons _ (.cons_cons _ (.cons _ (List.nil_sublist _))))) ?_
   refine JA.take 13 (listed' := #[true, true, true, true, true, true, true, true, true, true, true, true, true, true, false, false]) hQ rfl (by kernel_rfl) (by kernel_rfl) (by kernel_rfl) (by kernel_rfl) (by kernel_rfl) hE hs209 (.cons _ (.cons_cons _ (.cons_cons _ (.cons _ (List.nil_sublist _))))) ?_
   refine JL.nilCheck rfl .none rfl ?_
   refine JA.cont ?_
   refine JA.take 14 (listed' := #[true, true, true, true, true, true, true, true, true, true, true, true, true, true, true, false]) hQ rfl (by kernel_rfl) (by kernel_rfl) (by kernel_rfl) (by kernel_rfl) (by kernel_rfl) hE hs209 (.cons _ (.cons_cons _ (.cons_cons _ (.cons _ (List.nil_sublist _))))) ?_
   refine JL.fieldAddr fo_106_3 rfl .none rfl ?_
   refine JA.cont ?_
   refine JA.many [15] (by kernel_rfl) (by simp) (all_one ⟨_, #[true, true, true, true, true, true, true, true, true, true, true, true, true, true, true, true], rfl, (by kernel_rfl), ?_⟩)
   refine JL.oneG 0 rfl (fun ho215 => ?_)
   refine JL.storeAmb 3 az_54 rfl rfl ⟨ho215.2, ho215.1⟩ rfl hz_99 .none ?_
   refine JA.after hE hs209 (.cons _ (.cons_cons _ (.cons_cons _ (.cons _ (List.nil_sublist _))))) ?_
   refine JA.done hQ (by kernel_rfl) ?_
   refine JQ.go (JC.seq (JC.region (by rfl) ?_))
   intro hQ
   refine JL.assign .none rfl ?_
   refine JL.done hQ (JQ.go (JC.ret (JQ.mask [false, false, false, true] [] ?_)))
   obtain rfl := Option.some.inj hF
   exact JQ.outW rfl (.tmp .nil) ⟨rfl, (HSub.trans hs33 (HSub.trans hs100 hs209)), _, _, gx212, rfl, rfl, hch213, hz_99, hbk214⟩
  intro nd208_0
  refine JA.take 0 (listed' := #[true, false, false, false, false, false, false, false, false, false, false, false, false, false, false, false]) hQ rfl (by kernel_rfl) (by kernel_rfl) (by kernel_rfl) (by kernel_rfl) (by kernel_rfl) hE (HSub.refl _) (.cons_cons _ (.cons_cons _ (.cons _ (List.nil_sublist _)))) ?_
  refine JL.move .none rfl ?_
  refine JA.cont ?_
  refine JA.take 1 (listed' := #[true, true, false, false, false, false, false, false, false, false, false, false, false, false, false, false]) hQ rfl (by kernel_rfl) (by kernel_rfl) (by kernel_rfl) (by kernel_rfl) (by kernel_rfl) hE (HSub.refl _) (.cons_cons _ (.cons_cons _ (.cons _ (List.nil_sublist _)))) ?_
  refine JL.move .none rfl ?_
  refine JA.cont ?_
  refine JA.take 2 (listed' := #[true, true, true, false, false, false, false, false, false, false, false, false, false, false, false, false]) hQ rfl (by kernel_rfl) (by kernel_rfl) (by kernel_rfl) (by kernel_rfl) (by kernel_rfl) hE (HSub.refl _) (.cons_cons _ (.cons_cons _ (.cons _ (List.nil_sublist _)))) ?_
  refine JL.loadArr (l := z_99) 0 az_85 rfl rfl hz_99 .none rfl ?_
  refine JA.cont ?_
  refine JA.take 3 (listed' := #[true, true, true, true, false, false, false, false, false, false, false, false, false, false, false, false]) hQ rfl (by kernel_rfl) (by kernel_rfl) (by kernel_rfl) (by kernel_rfl) (by kernel_rfl) hE (HSub.refl _) (.cons_cons _ (.cons_cons _ (.cons _ (List.nil_sublist _)))) ?_
  refine JL.move .none rfl ?_
  refine JA.cont ?_
  refine JA.take 4 (listed' := #[true, true, true, true, true, false, false, false, false, false, false, false, false, false, false, false]) hQ rfl (by kernel_rfl) (by kernel_rfl) (by kernel_rfl) (by kernel_rfl) (by kernel_rfl) hE (HSub.refl _) (.cons_cons _ (.cons_cons _ (.cons _ (List.nil_sublist _)))) ?_
  refine JL.nilCheck rfl .none rfl ?_
  refine JA.cont ?_
  refine JA.take 5 (listed' := #[true, true, true, true, true, true, false, false, false, false, false, false, false, false, false, false]) hQ rfl (by kernel_rfl) (by kernel_rfl) (by kernel_rfl) (by kernel_rfl) (by kernel_rfl) hE (HSub.refl _) (.cons_cons _ (.cons_cons _ (.cons _ (List.nil_sublist _)))) ?_
  refine JL.fieldAddr fo_106_3 rfl .none rfl ?_
  refine JA.cont ?_
  refine JA.take 7 (listed' := #[true, true, true, true, true, true, false, true, false, false, false, false, false, false, false, false]) hQ rfl (by kernel_rfl) (by kernel_rfl) (by kernel_rfl) (by kernel_rfl) (by kernel_rfl) hE (HSub.refl _) (.cons_cons _ (.cons_cons _ (.cons _ (List.nil_sublist _)))) ?_
  refine JL.loadOwn 1 az_62 rfl rfl rfl .none rfl ?_
  refine JA.cont ?_
  refine JA.many [6, 8] (by kernel_rfl) (by simp) (all_cons ⟨_, #[true, true, true, true, true, true, true, true, false, false, false, false, false, false, false, false], rfl, (by kernel_rfl), ?_⟩ (all_one ⟨_, #[true, true, true, true, true, true, false, true, true, false, false, false, false, false, false, false], rfl, (by kernel_rfl), ?_⟩))
  ·skip
   refine JL.loadOwn 2 az_54 rfl rfl (loadw_amb c_tl) .none rfl ?_
   refine JA.after hE (HSub.refl _) (.cons_cons _ (.cons_cons _ (.cons _ (List.nil_sublist _)))) ?_
   refine JA.many [8] (by kernel_rfl) (by simp) (all_one ⟨_, #[true, true, true, true, true, true, true, true, true, false, false, false, false, false, false, false], rfl, (by kernel_rfl), ?_⟩)
   refine JL.buildSlice (e := 62) (l := [.int .i64 p.Row, .int .i64 p.Col, .int .i64 p.Turned]) (by kernel_rfl) .none rfl ?_
   intro b216
   refine JA.after hE (HSub.refl _) (.cons _ (.cons_cons _ (.cons_cons _ (.cons _ (List.nil_sublist _))))) ?_
   exact nd208_0 _ _ _ _ ⟨b216, rfl, rfl, rfl, rfl, rfl, rfl, rfl, (HSub.refl _)⟩
  ·skip
   refine JL.buildSlice (e := 62) (l := [.int .i64 p.Row, .int .i64 p.Col, .int .i64 p.Turned]) (by kernel_rfl) .none rfl ?_
   intro b217
   refine JA.after hE (HSub.refl _) (.cons _ (.cons_cons _ (.cons_cons _ (.cons _ (List.nil_sublist _))))) ?_
   refine JA.many [6] (by kernel_rfl) (by simp) (all_one ⟨_, #[true, true, true, true, true, true, true, true, true, false, false, false, false, false, false, false], rfl, (by kernel_rfl), ?_⟩)
   refine JL.loadOwn 3 az_54 rfl rfl (loadw_amb c_tl) .none rfl ?_
   refine JA.after hE (HSub.refl _) (.cons _ (.cons_cons _ (.cons_cons _ (.cons _ (List.nil_sublist _))))) ?_
   exact nd208_0 _ _ _ _ ⟨b217, rfl, rfl, rfl, rfl, rfl, rfl, rfl, (HSub.refl _)⟩
-- 69 (*ferrule/lays.cloth).fill
def F_lays_cloth_fill_s3 (n : Nat) (rec : Lap → Int → (List Int) → (List Place) → Option (Bool × List Int × List Place)) (c : Lap) (c_r : Int) (c_t : List Int) (c_l : List Place) (x_5181 : Int) (x_6045 : Int) : Int → Option (Int ⊕ ((Int ⊕ ((Int ⊕ ((Bool × List Int × List Place) ⊕ Unit)) ⊕ Unit)) ⊕ Unit))
 | x_6189 => if decide (x_6189 < 2) = true then ((F_lays_cloth_put n c c_r c_t c_l (c_l.length : Int) (Place.mk x_5181 x_6045 x_6189)).bind fun y6196 => (if y6196.1 = true then ((rec c c_r y6196.2.1 y6196.2.2).bind fun y6206 => if y6206.1 = true then (some (Sum.inr (Sum.inl (Sum.inr (Sum.inl (Sum.inr (Sum.inl (true, y6206.2.1, y6206.2.2)))))))) else (some (Sum.inl (w64 (x_6189 + 1))))) else (some (Sum.inl (w64 (x_6189 + 1)))))) else (some (Sum.inr (Sum.inr ())))
def F_lays_cloth_fill_s2 (n : Nat) (rec : Lap → Int → (List Int) → (List Place) → Option (Bool × List Int × List Place)) (c : Lap) (c_r : Int) (c_t : List Int) (c_l : List Place) (x_5181 : Int) : Int → Option (Int ⊕ ((Int ⊕ ((Bool × List Int × List Place) ⊕ Unit)) ⊕ Unit))
 | x_6045 => if decide (x_6045 < c.Width) = true then ((loopO n (F_lays_cloth_fill_s3 n rec c c_r c_t c_l x_5181 x_6045) 0).bind fun r6134 => match r6134 with | .inl o => some o | .inr _ => some (Sum.inl (w64 (x_6045 + 1)))) else (some (Sum.inr (Sum.inr ())))
def F_lays_cloth_fill_s1 (n : Nat) (rec : Lap → Int → (List Int) → (List Place) → Option (Bool × List Int × List Place)) (c : Lap) (c_r : Int) (c_t : List Int) (c_l : List Place) : Int → Option (Int ⊕ ((Bool × List Int × List Place) ⊕ Unit))
 | x_5181 => if decide (x_5181 < c_r) = true then ((loopO n (F_lays_cloth_fill_s2 n rec c c_r c_t c_l x_5181) 0).bind fun r5702 => match r5702 with | .inl o => some o | .inr _ => some (Sum.inl (w64 (x_5181 + 1)))) else (some (Sum.inr (Sum.inr ())))
def F_lays_cloth_fill : Nat → Lap → Int → (List Int) → (List Place) → Option (Bool × List Int × List Place)
 | 0, _, _, _, _ => none
 | n + 1, c, c_r, c_t, c_l => (fun rec => if ((c_l.length : Int) == (c.Panels.length : Int)) = true then (some (true, c_t, c_l)) else ((loopO n (F_lays_cloth_fill_s1 n rec c c_r c_t c_l) 0).bind fun r3110 => match r3110 with | .inl o => some o | .inr _ => some (false, c_t, c_l))) (F_lays_cloth_fill n)
theorem c_lays_cloth_fill (n : Nat) : ∀ (H : Hp) (c : Lap) (c_v2 : Value) (hc_2 : SL H 2 R_Cell c_v2 c.Faults) (c_v3 : Value) (hc_3 : SL H 2 R_Cell c_v3 c.Flaws) (c_v4 : Value) (hc_4 : SL H 1 R_Panel c_v4 c.Panels) (c_r : Int) (c_t : List Int) (c_tl : c_t.length = 12) (c_l : List Place) (c_v : Value) (c_x : List Value) (c_h : CH H 3 R_Place c_x c_l) (c_b : Nat) (bT : List (Nat × Obj)) (gT : List GS) (y : Bool × List Int × List Place) (hF : F_lays_cloth_fill n c c_r c_t c_l = some y) (B : Bs) (w : World) (hs : St B H ((c_b, .cells (([.int .i64 c.Width, .int .i64 c.Length, c_v2, c_v3, c_v4, .int .i64 c_r] : List Value) ++ (av .u16 c_t ++ [c_v])).toArray 106) :: bT) (⟨c_v, 62, 3, c_l.length, c_x⟩ :: gT) w), Calls Try.prog 69 [.pointer (some ⟨c_b, 0, none⟩)].toArray w (RetW B (KC H c_b [.int .i64 c.Width, .int .i64 c.Length, c_v2, c_v3, c_v4, .int .i64 c_r] bT gT ⟨c_v, 62, 3, c_l.length, c_x⟩ y)) := by
 induction n with
 | zero => intro H c c_v2 hc_2 c_v3 hc_3 c_v4 hc_4 c_r c_t c_tl c_l c_v c_x c_h c_b bT gT y hF; simp [F_lays_cloth_fill] at hF
 | succ n ih =>
 intro H c c_v2 hc_2 c_v3 hc_3 c_v4 hc_4 c_r c_t c_tl c_l c_v c_x c_h c_b bT gT y hF B w hs
 rw [F_lays_cloth_fill] at hF
 dsimp only at hF
 refine calls_of (N := 59) Try.func69 rfl rfl rfl hs ?_
 clear hs
 refine JC.seq (JC.region (by rfl) ?_)
 intro hQ
 refine JL.assign .none rfl ?_
 refine JL.done hQ (JQ.go (JC.seq (JC.region (by rfl) ?_)))
 intro hQ
 refine JL.move .none rfl ?_
 refine JL.nilCheck rfl .none rfl ?_
 refine JL.fieldAddr fo_106_3 rfl .none rfl ?_
 refine JL.loadOwn 0 az_54 rfl rfl (loadw_amb c_tl) .none rfl ?_
 refine JL.lenG 0 ul_54 rfl rfl .none rfl ?_
 refine JL.assign .none rfl ?_
 refine JL.done hQ (JQ.go (JC.seq (JC.seq (JC.region (by rfl) ?_))))
 intro hQ
 refine JL.move .none rfl ?_
 refine JL.move .none rfl ?_
 refine JL.nilCheck rfl .none rfl ?_
 refine JL.fieldAddr fo_106_0 rfl .none rfl ?_
 refine JL.fieldAddr fo_25_4 rfl .none rfl ?_
 refine JL.loadOwn 0 az_23 rfl rfl rfl .none rfl ?_
 refine JL.lenSL (R := R_Panel) ul_23 hc_4 .none rfl ?_
 refine JL.bin rfl rfl rfl .none rfl ?_
 refine JL.done hQ (JQ.go (JC.fresh (fun f => f 0 = .pointer (some ⟨c_b, 0, none⟩) ∧ f 2 = .bool false ∧ f 3 = .int .i64 (c_l.length : Int) ∧ f 20 = .bool ((c_l.length : Int) == (c.Panels.length : Int))) ⟨rfl, rfl, rfl, rfl⟩ ?_))
 rintro f ⟨hf0, hf2, hf3, hf20⟩
 refine (JC.norm (i := 0) hf0 (JC.norm (i := 2) hf2 (JC.norm (i := 3) hf3 (JC.norm (i := 20) hf20 ?_))))
 rcases ite_some hF with ⟨hc1, hF⟩ | ⟨hc1, hF⟩
 ·refine JC.cond_t (b := ((c_l.length : Int) == (c.Panels.length : Int))) rfl hc1 ?_
  refine JC.seq (JC.region (by rfl) ?_)
  intro hQ
  refine JL.assign .none rfl ?_
  refine JL.done hQ (JQ.go (JC.ret (JQ.ret_then ?_)))
  obtain rfl := Option.some.inj hF
  exact JQ.outW rfl (.tmp .nil) ⟨rfl, (HSub.refl _), _, _, [], rfl, rfl, c_h, c_tl, (Back.refl _)⟩
 ·refine JC.cond_f (b := ((c_l.length : Int) == (c.Panels.length : Int))) rfl hc1 ?_
  refine JC.skip (JQ.go (JC.seq (JC.seq (JC.region (by rfl) ?_))))
  intro hQ
  refine JL.move .none rfl ?_
  refine JL.nilCheck rfl .none rfl ?_
  refine JL.fieldAddr fo_106_1 rfl .none rfl ?_
  refine JL.loadOwn 0 az_3 rfl rfl rfl .none rfl ?_
  refine JL.move .none rfl ?_
  refine JL.done hQ (JQ.go ?_)
  obtain ⟨r3110, hlr3110, hKr3110⟩ := bind_some hF
  refine JC.join (fun (_ : Unit) H3109 f bs gs => bs = ((c_b, .cells (([.int .i64 c.Width, .int .i64 c.Length, c_v2, c_v3, c_v4, .int .i64 c_r] : List Value) ++ (av .u16 c_t ++ [c_v])).toArray 106) :: bT) ∧ gs = (⟨c_v, 62, 3, c_l.length, c_x⟩ :: gT) ∧ HSub H H3109 ∧ Sum.inr () = r3110) ?_ ?_
  ·skip
   refine JC.block (JC.loop hlr3110 (fun (x_5181 : Int) H5182 f bs gs => f 0 = .pointer (some ⟨c_b, 0, none⟩) ∧ f 3 = .int .i64 (c_l.length : Int) ∧ f 24 = .int .i64 c_r ∧ f 25 = .int .i64 x_5181 ∧ bs = ((c_b, .cells (([.int .i64 c.Width, .int .i64 c.Length, c_v2, c_v3, c_v4, .int .i64 c_r] : List Value) ++ (av .u16 c_t ++ [c_v])).toArray 106) :: bT) ∧ gs = (⟨c_v, 62, 3, c_l.length, c_x⟩ :: gT) ∧ HSub H H5182) ⟨rfl, rfl, rfl, rfl, rfl, rfl, (HSub.refl _)⟩ ?_)
   rintro x_5181 x5184 H5182 f bs gs ⟨hf0, hf3, hf24, hf25, rfl, rfl, hs5182⟩ hF hr5183
   rw [F_lays_cloth_fill_s1] at hF
   refine (JC.norm (i := 0) hf0 (JC.norm (i := 3) hf3 (JC.norm (i := 24) hf24 (JC.norm (i := 25) hf25 ?_))))
   refine JC.seq (JC.region (by rfl) ?_)
   intro hQ
   refine JL.bin rfl rfl rfl .none rfl ?_
   refine JL.done hQ (JQ.go (JC.seq ?_))
   rcases ite_some hF with ⟨hc5185, hF⟩ | ⟨hc5185, hF⟩
   ·refine JC.cond_t (b := decide (x_5181 < c_r)) rfl hc5185 ?_
    refine JC.skip (JQ.go (JC.seq (JC.block (JC.seq (JC.region (by rfl) ?_)))))
    intro hQ
    refine JL.move .none rfl ?_
    refine JL.assign .none rfl ?_
    refine JL.done hQ (JQ.go (JC.seq (JC.region (by rfl) ?_)))
    intro hQ
    refine JL.move .none rfl ?_
    refine JL.nilCheck rfl .none rfl ?_
    refine JL.fieldAddr fo_106_0 rfl .none rfl ?_
    refine JL.fieldAddr fo_25_0 rfl .none rfl ?_
    refine JL.loadOwn 0 az_3 rfl rfl rfl .none rfl ?_
    refine JL.move .none rfl ?_
    refine JL.done hQ (JQ.go ?_)
    obtain ⟨r5702, hlr5702, hKr5702⟩ := bind_some hF
    refine JC.join (fun (_ : Unit) H5701 f bs gs => f 0 = .pointer (some ⟨c_b, 0, none⟩) ∧ f 3 = .int .i64 (c_l.length : Int) ∧ f 24 = .int .i64 c_r ∧ f 25 = .int .i64 x_5181 ∧ bs = ((c_b, .cells (([.int .i64 c.Width, .int .i64 c.Length, c_v2, c_v3, c_v4, .int .i64 c_r] : List Value) ++ (av .u16 c_t ++ [c_v])).toArray 106) :: bT) ∧ gs = (⟨c_v, 62, 3, c_l.length, c_x⟩ :: gT) ∧ HSub H5182 H5701 ∧ Sum.inr () = r5702) ?_ ?_
    ·skip
     refine JC.block (JC.loop hlr5702 (fun (x_6045 : Int) H6046 f bs gs => f 0 = .pointer (some ⟨c_b, 0, none⟩) ∧ f 3 = .int .i64 (c_l.length : Int) ∧ f 4 = .int .i64 x_5181 ∧ f 24 = .int .i64 c_r ∧ f 25 = .int .i64 x_5181 ∧ f 32 = .int .i64 c.Width ∧ f 33 = .int .i64 x_6045 ∧ bs = ((c_b, .cells (([.int .i64 c.Width, .int .i64 c.Length, c_v2, c_v3, c_v4, .int .i64 c_r] : List Value) ++ (av .u16 c_t ++ [c_v])).toArray 106) :: bT) ∧ gs = (⟨c_v, 62, 3, c_l.length, c_x⟩ :: gT) ∧ HSub H5182 H6046) ⟨rfl, rfl, rfl, rfl, rfl, rfl, rfl, rfl, rfl, (HSub.refl _)⟩ ?_)
     rintro x_6045 x6048 H6046 f bs gs ⟨hf0, hf3, hf4, hf24, hf25, hf32, hf33, rfl, rfl, hs6046⟩ hF hr6047
     rw [F_lays_cloth_fill_s2] at hF
     refine (JC.norm (i := 0) hf0 (JC.norm (i := 3) hf3 (JC.norm (i := 4) hf4 (JC.norm (i := 24) hf24 (JC.norm (i := 25) hf25 (JC.norm (i := 32) hf32 (JC.norm (i := 33) hf33 ?_)))))))
     refine JC.seq (JC.region (by rfl) ?_)
     intro hQ
     refine JL.bin rfl rfl rfl .none rfl ?_
     refine JL.done hQ (JQ.go (JC.seq ?_))
     rcases ite_some hF with ⟨hc6049, hF⟩ | ⟨hc6049, hF⟩
     ·refine JC.cond_t (b := decide (x_6045 < c.Width)) rfl hc6049 ?_
      refine JC.skip (JQ.go (JC.seq (JC.block (JC.seq (JC.region (by rfl) ?_)))))
      intro hQ
      refine JL.move .none rfl ?_
      refine JL.assign .none rfl ?_
      refine JL.done hQ (JQ.go (JC.seq (JC.region (by rfl) ?_)))
      intro hQ
      refine JL.move .none rfl ?_
      refine JL.done hQ (JQ.go ?_)
      obtain ⟨r6134, hlr6134, hKr6134⟩ := bind_some hF
      refine JC.join (fun (_ : Unit) H6133 f bs gs => f 0 = .pointer (some ⟨c_b, 0, none⟩) ∧ f 3 = .int .i64 (c_l.length : Int) ∧ f 4 = .int .i64 x_5181 ∧ f 24 = .int .i64 c_r ∧ f 25 = .int .i64 x_5181 ∧ f 32 = .int .i64 c.Width ∧ f 33 = .int .i64 x_6045 ∧ bs = ((c_b, .cells (([.int .i64 c.Width, .int .i64 c.Length, c_v2, c_v3, c_v4, .int .i64 c_r] : List Value) ++ (av .u16 c_t ++ [c_v])).toArray 106) :: bT) ∧ gs = (⟨c_v, 62, 3, c_l.length, c_x⟩ :: gT) ∧ HSub H6046 H6133 ∧ Sum.inr () = r6134) ?_ ?_
      ·skip
       refine JC.block (JC.loop hlr6134 (fun (x_6189 : Int) H6190 f bs gs => f 0 = .pointer (some ⟨c_b, 0, none⟩) ∧ f 3 = .int .i64 (c_l.length : Int) ∧ f 4 = .int .i64 x_5181 ∧ f 5 = .int .i64 x_6045 ∧ f 24 = .int .i64 c_r ∧ f 25 = .int .i64 x_5181 ∧ f 32 = .int .i64 c.Width ∧ f 33 = .int .i64 x_6045 ∧ f 36 = .int .i64 x_6189 ∧ bs = ((c_b, .cells (([.int .i64 c.Width, .int .i64 c.Length, c_v2, c_v3, c_v4, .int .i64 c_r] : List Value) ++ (av .u16 c_t ++ [c_v])).toArray 106) :: bT) ∧ gs = (⟨c_v, 62, 3, c_l.length, c_x⟩ :: gT) ∧ HSub H6046 H6190) ⟨rfl, rfl, rfl, rfl, rfl, rfl, rfl, rfl, rfl, rfl, rfl, (HSub.refl _)⟩ ?_)
       rintro x_6189 x6192 H6190 f bs gs ⟨hf0, hf3, hf4, hf5, hf24, hf25, hf32, hf33, hf36, rfl, rfl, hs6190⟩ hF hr6191
       rw [F_lays_cloth_fill_s3] at hF
       refine (JC.norm (i := 0) hf0 (JC.norm (i := 3) hf3 (JC.norm (i := 4) hf4 (JC.norm (i := 5) hf5 (JC.norm (i := 24) hf24 (JC.norm (i := 25) hf25 (JC.norm (i := 32) hf32 (JC.norm (i := 33) hf33 (JC.norm (i := 36) hf36 ?_)))))))))
       refine JC.seq (JC.region (by rfl) ?_)
       intro hQ
       refine JL.bin rfl rfl rfl .none rfl ?_
       refine JL.done hQ (JQ.go (JC.seq ?_))
       rcases ite_some hF with ⟨hc6193, hF⟩ | ⟨hc6193, hF⟩
       ·refine JC.cond_t (b := decide (x_6189 < 2)) rfl hc6193 ?_
        refine JC.skip (JQ.go (JC.seq (JC.block (JC.seq (JC.region (by rfl) ?_)))))
        intro hQ
        refine JL.move .none rfl ?_
        refine JL.assign .none rfl ?_
        refine JL.done hQ (JQ.go (JC.seq (JC.region (by rfl) ?_)))
        intro hQ
        refine JL.move .none rfl ?_
        refine JL.nilCheck rfl .none rfl ?_
        refine JL.loadOwn 0 az_106 rfl rfl (loadw_amc c_tl) .none rfl ?_
        refine JL.alloc ze_106 .none rfl ?_
        intro b6194
        refine JL.oneG 0 rfl (fun ho6195 => ?_)
        refine JL.storeAmc 0 az_106 rfl rfl c_tl (one_cons rfl (one_cons rfl (one_cons (SL.one (SL.mono R_Cell_mono (HSub.trans hs5182 (HSub.trans hs6046 hs6190)) hc_2)) (one_cons (SL.one (SL.mono R_Cell_mono (HSub.trans hs5182 (HSub.trans hs6046 hs6190)) hc_3)) (one_cons (SL.one (SL.mono R_Panel_mono (HSub.trans hs5182 (HSub.trans hs6046 hs6190)) hc_4)) (one_cons rfl (one_cons ho6195.1 one_nil))))))) rfl rfl .none ?_
        refine JL.done hQ (JQ.go (JC.seq (JC.seq (JC.region (by rfl) ?_))))
        intro hQ
        refine JL.move .none rfl ?_
        refine JL.move .none rfl ?_
        refine JL.move .none rfl ?_
        refine JL.move .none rfl ?_
        refine JL.move .none rfl ?_
        refine JL.build (l := [.int .i64 x_5181, .int .i64 x_6045, .int .i64 x_6189]) (by kernel_rfl) .none rfl ?_
        refine JL.permB (swapAt_perm 0 _) ?_
        obtain ⟨y6196, hy6196, hF⟩ := bind_some hF
        refine JL.callW (fun w hs => c_lays_cloth_put n H6190 c c_v2 (SL.mono R_Cell_mono (HSub.trans hs5182 (HSub.trans hs6046 hs6190)) hc_2) c_v3 (SL.mono R_Cell_mono (HSub.trans hs5182 (HSub.trans hs6046 hs6190)) hc_3) c_v4 (SL.mono R_Panel_mono (HSub.trans hs5182 (HSub.trans hs6046 hs6190)) hc_4) c_r c_t c_tl c_l c_v c_x (CH.mono R_Place_mono (HSub.trans hs5182 (HSub.trans hs6046 hs6190)) c_h) c_b _ _ (c_l.length : Int) (Place.mk x_5181 x_6045 x_6189) y6196 hy6196 _ w hs) rfl en_68 .none rfl ?_
        rintro _ H6197 _ _ ⟨rfl, hs6197, lv6198, lx6199, gx6200, rfl, rfl, hch6201, htl6202, hbk6203⟩
        refine JL.move .none rfl ?_
        rcases ite_some hF with ⟨hc6205, hF⟩ | ⟨hc6205, hF⟩
        ·skip
         refine JL.move (.some rfl rfl rfl hc6205) rfl ?_
         obtain ⟨y6206, hy6206, hF⟩ := bind_some hF
         refine JL.callW (fun w hs => ih H6197 c c_v2 (SL.mono R_Cell_mono (HSub.trans hs5182 (HSub.trans hs6046 (HSub.trans hs6190 hs6197))) hc_2) c_v3 (SL.mono R_Cell_mono (HSub.trans hs5182 (HSub.trans hs6046 (HSub.trans hs6190 hs6197))) hc_3) c_v4 (SL.mono R_Panel_mono (HSub.trans hs5182 (HSub.trans hs6046 (HSub.trans hs6190 hs6197))) hc_4) c_r y6196.2.1 htl6202 y6196.2.2 lv6198 lx6199 hch6201 c_b _ _ y6206 hy6206 _ w hs) rfl en_69 (.some rfl rfl rfl hc6205) rfl ?_
         rintro _ H6207 _ _ ⟨rfl, hs6207, lv6208, lx6209, gx6210, rfl, rfl, hch6211, htl6212, hbk6213⟩
         refine JL.pick_t (b := y6196.1) rfl hc6205 .none rfl ?_
         refine JL.done hQ (JQ.go (JC.fresh (fun f => f 0 = .pointer (some ⟨c_b, 0, none⟩) ∧ f 3 = .int .i64 (c_l.length : Int) ∧ f 4 = .int .i64 x_5181 ∧ f 5 = .int .i64 x_6045 ∧ f 7 = .pointer (some ⟨b6194, 0, none⟩) ∧ f 24 = .int .i64 c_r ∧ f 25 = .int .i64 x_5181 ∧ f 32 = .int .i64 c.Width ∧ f 33 = .int .i64 x_6045 ∧ f 36 = .int .i64 x_6189 ∧ f 50 = .pointer (some ⟨c_b, 0, none⟩) ∧ f 51 = .bool y6206.1 ∧ f 52 = .bool y6206.1) ⟨rfl, rfl, rfl, rfl, rfl, rfl, rfl, rfl, rfl, rfl, rfl, rfl, rfl⟩ ?_))
         rintro f ⟨hf0, hf3, hf4, hf5, hf7, hf24, hf25, hf32, hf33, hf36, hf50, hf51, hf52⟩
         refine (JC.norm (i := 0) hf0 (JC.norm (i := 3) hf3 (JC.norm (i := 4) hf4 (JC.norm (i := 5) hf5 (JC.norm (i := 7) hf7 (JC.norm (i := 24) hf24 (JC.norm (i := 25) hf25 (JC.norm (i := 32) hf32 (JC.norm (i := 33) hf33 (JC.norm (i := 36) hf36 (JC.norm (i := 50) hf50 (JC.norm (i := 51) hf51 (JC.norm (i := 52) hf52 ?_)))))))))))))
         rcases ite_some hF with ⟨hc6215, hF⟩ | ⟨hc6215, hF⟩
         ·refine JC.cond_t (b := y6206.1) rfl hc6215 ?_
          refine JC.seq (JC.region (by rfl) ?_)
          intro hQ
          refine JL.assign .none rfl ?_
          refine JL.done hQ (JQ.go (JC.fresh (fun f => f 2 = .bool true) rfl ?_))
          rintro f hf2
          refine (JC.norm (i := 2) hf2 ?_)
          refine JC.ret (JQ.ret_then (JQ.ret_block (JQ.ret_then (JQ.ret_then (JQ.ret_block (JQ.ret_join (JQ.ret_block (JQ.ret_then (JQ.ret_then (JQ.ret_block (JQ.ret_join (JQ.ret_block (JQ.ret_then (JQ.ret_then (JQ.ret_block (JQ.ret_join (JQ.ret_then ?_)))))))))))))))))
          obtain rfl := Option.some.inj hF
          have ehr6191 := hr6191 _ rfl
          subst ehr6191
          have hF := hKr6134
          try dsimp only at hF
          obtain rfl := Option.some.inj hF
          have ehr6047 := hr6047 _ rfl
          subst ehr6047
          have hF := hKr5702
          try dsimp only at hF
          obtain rfl := Option.some.inj hF
          have ehr5183 := hr5183 _ rfl
          subst ehr5183
          have hF := hKr3110
          try dsimp only at hF
          refine JQ.mask [true, false] [] ?_
          refine JQ.assocG (a := gx6210) (b := gx6200) ?_
          obtain rfl := Option.some.inj hF
          exact JQ.outW rfl (.tmp .nil) ⟨rfl, (HSub.trans hs5182 (HSub.trans hs6046 (HSub.trans hs6190 (HSub.trans hs6197 hs6207)))), _, _, (gx6210 ++ gx6200), rfl, rfl, hch6211, htl6212, (hbk6203.trans hbk6213)⟩
         ·refine JC.cond_f (b := y6206.1) rfl hc6215 ?_
          refine JC.skip (JQ.go (JC.region (by rfl) ?_))
          intro hQ
          refine JL.move .none rfl ?_
          refine JL.loadOwn 1 az_106 rfl rfl (loadw_amc c_tl) .none rfl ?_
          refine JL.nilCheck rfl .none rfl ?_
          refine JL.back hbk6213 ?_
          refine JL.back hbk6203 ?_
          refine JL.oneG 0 rfl (fun ho6216 => ?_)
          refine JL.storeAmc 0 az_106 rfl rfl c_tl (one_cons rfl (one_cons rfl (one_cons (SL.one (SL.mono R_Cell_mono (HSub.trans hs5182 (HSub.trans hs6046 (HSub.trans hs6190 (HSub.trans hs6197 hs6207)))) hc_2)) (one_cons (SL.one (SL.mono R_Cell_mono (HSub.trans hs5182 (HSub.trans hs6046 (HSub.trans hs6190 (HSub.trans hs6197 hs6207)))) hc_3)) (one_cons (SL.one (SL.mono R_Panel_mono (HSub.trans hs5182 (HSub.trans hs6046 (HSub.trans hs6190 (HSub.trans hs6197 hs6207)))) hc_4)) (one_cons rfl (one_cons ho6216.1 one_nil))))))) rfl (am_len htl6212) .none ?_
          refine JL.done hQ (JQ.normal_block (JQ.go (JC.region (by rfl) ?_)))
          intro hQ
          refine JL.bin rfl rfl rfl .none rfl ?_
          refine JL.move .none rfl ?_
          refine JL.done hQ ?_
          obtain rfl := Option.some.inj hF
          refine JQ.mask [true, false] [true] ?_
          exact JQ.next rfl ⟨rfl, rfl, rfl, rfl, rfl, rfl, rfl, rfl, rfl, rfl, rfl, (HSub.trans hs6190 (HSub.trans hs6197 hs6207))⟩
        ·skip
         refine JL.skip (.bool rfl rfl rfl hc6205) rfl ?_
         refine JL.skip (.bool rfl rfl rfl hc6205) rfl ?_
         refine JL.pick_f (b := y6196.1) rfl hc6205 .none rfl ?_
         refine JL.done hQ (JQ.go (JC.fresh (fun f => f 0 = .pointer (some ⟨c_b, 0, none⟩) ∧ f 3 = .int .i64 (c_l.length : Int) ∧ f 4 = .int .i64 x_5181 ∧ f 5 = .int .i64 x_6045 ∧ f 7 = .pointer (some ⟨b6194, 0, none⟩) ∧ f 24 = .int .i64 c_r ∧ f 25 = .int .i64 x_5181 ∧ f 32 = .int .i64 c.Width ∧ f 33 = .int .i64 x_6045 ∧ f 36 = .int .i64 x_6189 ∧ f 52 = .bool false) ⟨rfl, rfl, rfl, rfl, rfl, rfl, rfl, rfl, rfl, rfl, rfl⟩ ?_))
         rintro f ⟨hf0, hf3, hf4, hf5, hf7, hf24, hf25, hf32, hf33, hf36, hf52⟩
         refine (JC.norm (i := 0) hf0 (JC.norm (i := 3) hf3 (JC.norm (i := 4) hf4 (JC.norm (i := 5) hf5 (JC.norm (i := 7) hf7 (JC.norm (i := 24) hf24 (JC.norm (i := 25) hf25 (JC.norm (i := 32) hf32 (JC.norm (i := 33) hf33 (JC.norm (i := 36) hf36 (JC.norm (i := 52) hf52 ?_)))))))))))
         refine JC.cond_f (b := false) rfl rfl ?_
         refine JC.skip (JQ.go (JC.region (by rfl) ?_))
         intro hQ
         refine JL.move .none rfl ?_
         refine JL.loadOwn 1 az_106 rfl rfl (loadw_amc c_tl) .none rfl ?_
         refine JL.nilCheck rfl .none rfl ?_
         refine JL.back hbk6203 ?_
         refine JL.oneG 0 rfl (fun ho6217 => ?_)
         refine JL.storeAmc 0 az_106 rfl rfl c_tl (one_cons rfl (one_cons rfl (one_cons (SL.one (SL.mono R_Cell_mono (HSub.trans hs5182 (HSub.trans hs6046 (HSub.trans hs6190 hs6197))) hc_2)) (one_cons (SL.one (SL.mono R_Cell_mono (HSub.trans hs5182 (HSub.trans hs6046 (HSub.trans hs6190 hs6197))) hc_3)) (one_cons (SL.one (SL.mono R_Panel_mono (HSub.trans hs5182 (HSub.trans hs6046 (HSub.trans hs6190 hs6197))) hc_4)) (one_cons rfl (one_cons ho6217.1 one_nil))))))) rfl (am_len htl6202) .none ?_
         refine JL.done hQ (JQ.normal_block (JQ.go (JC.region (by rfl) ?_)))
         intro hQ
         refine JL.bin rfl rfl rfl .none rfl ?_
         refine JL.move .none rfl ?_
         refine JL.done hQ ?_
         obtain rfl := Option.some.inj hF
         refine JQ.mask [true, false] [true] ?_
         exact JQ.next rfl ⟨rfl, rfl, rfl, rfl, rfl, rfl, rfl, rfl, rfl, rfl, rfl, (HSub.trans hs6190 hs6197)⟩
       ·refine JC.cond_f (b := decide (x_6189 < 2)) rfl hc6193 ?_
        refine JC.exit (JQ.exit_then (JQ.exit_then (JQ.exit_block ?_)))
        obtain rfl := Option.some.inj hF
        have ehr6191 := hr6191 _ rfl
        subst ehr6191
        exact JQ.join () ⟨rfl, rfl, rfl, rfl, rfl, rfl, rfl, rfl, rfl, hs6190, rfl⟩
      ·rintro _ H6133 f bs gs ⟨hf0, hf3, hf4, hf24, hf25, hf32, hf33, rfl, rfl, hs6133, rfl⟩
       have hF := hKr6134
       try dsimp only at hF
       refine (JQ.norm (i := 0) hf0 (JQ.norm (i := 3) hf3 (JQ.norm (i := 4) hf4 (JQ.norm (i := 24) hf24 (JQ.norm (i := 25) hf25 (JQ.norm (i := 32) hf32 (JQ.norm (i := 33) hf33 ?_)))))))
       refine JQ.normal_block (JQ.go (JC.region (by rfl) ?_))
       intro hQ
       refine JL.bin rfl rfl rfl .none rfl ?_
       refine JL.move .none rfl ?_
       refine JL.done hQ ?_
       obtain rfl := Option.some.inj hF
       exact JQ.next rfl ⟨rfl, rfl, rfl, rfl, rfl, rfl, rfl, rfl, rfl, (HSub.trans hs6046 hs6133)⟩
     ·refine JC.cond_f (b := decide (x_6045 < c.Width)) rfl hc6049 ?_
      refine JC.exit (JQ.exit_then (JQ.exit_then (JQ.exit_block ?_)))
      obtain rfl := Option.some.inj hF
      have ehr6047 := hr6047 _ rfl
      subst ehr6047
      exact JQ.join () ⟨rfl, rfl, rfl, rfl, rfl, rfl, hs6046, rfl⟩
    ·rintro _ H5701 f bs gs ⟨hf0, hf3, hf24, hf25, rfl, rfl, hs5701, rfl⟩
     have hF := hKr5702
     try dsimp only at hF
     refine (JQ.norm (i := 0) hf0 (JQ.norm (i := 3) hf3 (JQ.norm (i := 24) hf24 (JQ.norm (i := 25) hf25 ?_))))
     refine JQ.normal_block (JQ.go (JC.region (by rfl) ?_))
     intro hQ
     refine JL.bin rfl rfl rfl .none rfl ?_
     refine JL.move .none rfl ?_
     refine JL.done hQ ?_
     obtain rfl := Option.some.inj hF
     exact JQ.next rfl ⟨rfl, rfl, rfl, rfl, rfl, rfl, (HSub.trans hs5182 hs5701)⟩
   ·refine JC.cond_f (b := decide (x_5181 < c_r)) rfl hc5185 ?_
    refine JC.exit (JQ.exit_then (JQ.exit_then (JQ.exit_block ?_)))
    obtain rfl := Option.some.inj hF
    have ehr5183 := hr5183 _ rfl
    subst ehr5183
    exact JQ.join () ⟨rfl, rfl, hs5182, rfl⟩
  ·rintro _ H3109 f bs gs ⟨rfl, rfl, hs3109, rfl⟩
   have hF := hKr3110
   try dsimp only at hF
   refine JQ.go (JC.seq (JC.region (by rfl) ?_))
   intro hQ
   refine JL.assign .none rfl ?_
   refine JL.done hQ (JQ.go (JC.ret ?_))
   obtain rfl := Option.some.inj hF
   exact JQ.outW rfl (.tmp .nil) ⟨rfl, hs3109, _, _, [], rfl, rfl, (CH.mono R_Place_mono hs3109 c_h), c_tl, (Back.refl _)⟩
end Go.Proofs.Ytflhjlgimihmgaa
end
