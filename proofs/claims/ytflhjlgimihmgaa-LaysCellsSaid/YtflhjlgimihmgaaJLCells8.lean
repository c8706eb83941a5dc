/-
  A part of the proof of LCells: the texts GenK10, GenK11, Lai, GLaysCells.
-/
import Derived.Test.YtflhjlgimihmgaaJLCells7
section
set_option maxRecDepth 100000
set_option maxHeartbeats 40000000
namespace Go.Proofs.Ytflhjlgimihmgaa
open Go Go.RowKit Go.Dec
set_option linter.unusedVariables false
-- 37 ferrule/lays.Needs
def F_lays_Needs_s1 (n : Nat) (s : Lap) (lay : List Place) : Int × Int × List Int × List Place → Option ((Int × Int × List Int × List Place) ⊕ ((Int × Int) ⊕ Int))
 | (need_225, x_226, z_227, out_228) => if decide (x_226 < (lay.length : Int)) = true then ((geti lay x_226).bind fun y233 => (F_lays_cloth_put n s s.Length z_227 out_228 x_226 y233).bind fun y239 => if (!y239.1) = true then (some (Sum.inr (Sum.inl (0, 3)))) else ((geti s.Panels x_226).bind fun y253 => some (Sum.inl ((max need_225 (w64 (y233.Row + (y253.Rows.length : Int)))), (w64 (x_226 + 1)), y239.2.1, y239.2.2)))) else (some (Sum.inr (Sum.inr need_225)))
def F_lays_Needs (n : Nat) (s : Lap) (lay : List Place) : Option (Int × Int) :=
 (F_lays_Check n s).bind fun y2 => if (y2 != 0) = true then (some (0, y2)) else ((if ((lay.length : Int) != (s.Panels.length : Int)) = true then (some true) else ((F_slices_ContainsFunc___api_Place_api_Place_ n lay (fun a0_ => F_lays_Needs_1 n a0_)).bind fun y8 => some y8) : Option Bool).bind fun p5 => if p5 = true then (some (0, 1)) else ((F_lays_cellsOf n [s.Faults]).bind fun y23 => (lenck 12 y23).bind fun u24 => (loopO n (F_lays_Needs_s1 n s lay) (0, 0, y23, ([] : List Place))).bind fun r162 => match r162 with | .inl o => some o | .inr need_160 => some (need_160, 0)))
theorem c_lays_Needs (n : Nat) (H : Hp) (s : Lap) (s_v2 : Value) (hs_2 : SL H 2 R_Cell s_v2 s.Faults) (s_v3 : Value) (hs_3 : SL H 2 R_Cell s_v3 s.Flaws) (s_v4 : Value) (hs_4 : SL H 1 R_Panel s_v4 s.Panels) (lay : List Place) (lay_v0 : Value) (hlay_0 : SL H 3 R_Place lay_v0 lay) (y : Int × Int) (hF : F_lays_Needs n s lay = some y) : SC Try.prog 37 [.agg [.int .i64 s.Width, .int .i64 s.Length, s_v2, s_v3, s_v4].toArray, lay_v0] (.tuple [.int .i64 y.1, .int .i64 y.2].toArray) H := by
 rw [F_lays_Needs] at hF
 refine SC.of (N := 61) Try.func37 rfl rfl rfl fun w => ?_
 refine JC.seq (JC.region (by rfl) ?_)
 intro hQ
 refine JL.box (cs := [.int .i64 s.Width, .int .i64 s.Length, s_v2, s_v3, s_v4]) rfl .none rfl ?_
 intro b1
 refine JL.assign .none rfl ?_
 refine JL.assign .none rfl ?_
 refine JL.done hQ (JQ.go (JC.seq (JC.seq (JC.region (by rfl) ?_))))
 intro hQ
 refine JL.loadOwn 0 az_25 rfl rfl rfl .none rfl ?_
 obtain ⟨y2, hy2, hF⟩ := bind_some hF
 refine JL.callS (c_lays_Check n H s s_v2 hs_2 s_v3 hs_3 s_v4 hs_4 y2 hy2) rfl en_33 .none rfl ?_
 refine JL.assign .none rfl ?_
 refine JL.done hQ (JQ.go (JC.seq (JC.region (by rfl) ?_)))
 intro hQ
 refine JL.move .none rfl ?_
 refine JL.bin rfl rfl rfl .none rfl ?_
 refine JL.done hQ (JQ.go ?_)
 rcases ite_some hF with ⟨hc3, hF⟩ | ⟨hc3, hF⟩
 ·refine JC.cond_t (b := (y2 != 0)) rfl hc3 ?_
  refine JC.seq (JC.region (by rfl) ?_)
  intro hQ
  refine JL.move .none rfl ?_
  refine JL.assign .none rfl ?_
  refine JL.assign .none rfl ?_
  refine JL.done hQ (JQ.go (JC.ret (JQ.ret_then ?_)))
  obtain rfl := Option.some.inj hF
  exact JQ.outS rfl (.tmp (.tmp .nil)) rfl
 ·refine JC.cond_f (b := (y2 != 0)) rfl hc3 ?_
  refine JC.skip (JQ.go (JC.seq (JC.seq (JC.region (by rfl) ?_))))
  intro hQ
  refine JL.move .none rfl ?_
  refine JL.lenSL (R := R_Place) ul_54 hlay_0 .none rfl ?_
  refine JL.fieldAddr fo_25_4 rfl .none rfl ?_
  refine JL.loadOwn 0 az_23 rfl rfl rfl .none rfl ?_
  refine JL.lenSL (R := R_Panel) ul_23 hs_4 .none rfl ?_
  refine JL.bin rfl rfl rfl .none rfl ?_
  refine JL.move .none rfl ?_
  obtain ⟨p5, hp5, hF⟩ := bind_some hF
  refine JL.cut 3 (fun f => f 1 = lay_v0 ∧ f 2 = .pointer (some ⟨b1, 0, none⟩) ∧ f 25 = .bool p5) ?_ ?_
  ·intro hJ6
   rcases ite_some hp5 with ⟨hc7, hF⟩ | ⟨hc7, hF⟩
   ·skip
    refine JL.skip (.bool rfl rfl rfl hc7) rfl ?_
    refine JL.skip (.bool rfl rfl rfl hc7) rfl ?_
    refine JL.pick_t (b := ((lay.length : Int) != (s.Panels.length : Int))) rfl hc7 .none rfl ?_
    obtain rfl := Option.some.inj hF
    exact hJ6 _ ⟨rfl, rfl, rfl⟩
   ·skip
    refine JL.move (.some rfl rfl rfl hc7) rfl ?_
    obtain ⟨y8, hy8, hF⟩ := bind_some hF
    refine JL.callS (c_slices_ContainsFunc___api_Place_api_Place_ n H lay lay_v0 hlay_0 (fun a0_ => F_lays_Needs_1 n a0_) 67 [] en_67 (fun H' hs' a0_ y' hy' => c_lays_Needs_1 n H' a0_ y' hy') y8 hy8) rfl en_66 (.some rfl rfl rfl hc7) rfl ?_
    refine JL.pick_f (b := ((lay.length : Int) != (s.Panels.length : Int))) rfl hc7 .none rfl ?_
    obtain rfl := Option.some.inj hF
    exact hJ6 _ ⟨rfl, rfl, rfl⟩
  ·rintro f ⟨hf1, hf2, hf25⟩
   refine (JL.norm (i := 1) hf1 (JL.norm (i := 2) hf2 (JL.norm (i := 25) hf25 ?_)))
   refine JL.done hQ (JQ.go ?_)
   rcases ite_some hF with ⟨hc9, hF⟩ | ⟨hc9, hF⟩
   ·refine JC.cond_t (b := p5) rfl hc9 ?_
    refine JC.seq (JC.region (by rfl) ?_)
    intro hQ
    refine JL.assign .none rfl ?_
    refine JL.assign .none rfl ?_
    refine JL.done hQ (JQ.go (JC.ret (JQ.ret_then ?_)))
    obtain rfl := Option.some.inj hF
    exact JQ.outS rfl (.tmp (.tmp .nil)) rfl
   ·refine JC.cond_f (b := p5) rfl hc9 ?_
    refine JC.skip (JQ.go (JC.seq ?_))
    obtain ⟨a10, c11, rfl, hh12⟩ := hs_2
    have hs_2 : SL H 2 R_Cell (.slice a10 s.Faults.length c11) s.Faults := ⟨a10, c11, rfl, hh12⟩
    obtain ⟨a13, c14, rfl, hh15⟩ := hs_3
    have hs_3 : SL H 2 R_Cell (.slice a13 s.Flaws.length c14) s.Flaws := ⟨a13, c14, rfl, hh15⟩
    obtain ⟨a16, c17, rfl, hh18⟩ := hs_4
    have hs_4 : SL H 1 R_Panel (.slice a16 s.Panels.length c17) s.Panels := ⟨a16, c17, rfl, hh18⟩
    obtain ⟨y23, hy23, hF⟩ := bind_some hF
    obtain ⟨u24, hu24, hF⟩ := bind_some hF
    refine JC.mixed 10 10 #[false, false, false, false, false, false, false, false, false, false] [(b1, .cells [.int .i64 s.Width, .int .i64 s.Length, (.slice a10 s.Faults.length c11), (.slice a13 s.Flaws.length c14), (.slice a16 s.Panels.length c17)].toArray 25)] (by rfl) mo_ (by kernel_rfl) (by kernel_rfl) ?_
    intro hQ hE
    refine JA.take 0 (listed' := #[true, false, false, false, false, false, false, false, false, false]) hQ rfl (by kernel_rfl) (by kernel_rfl) (by kernel_rfl) (by kernel_rfl) (by kernel_rfl) hE (HSub.refl _) (.cons_cons _ (List.nil_sublist _)) ?_
    refine JL.loadOwn 0 az_25 rfl rfl rfl .none rfl ?_
    refine JA.cont ?_
    refine JA.take 1 (listed' := #[true, true, false, false, false, false, false, false, false, false]) hQ rfl (by kernel_rfl) (by kernel_rfl) (by kernel_rfl) (by kernel_rfl) (by kernel_rfl) hE (HSub.refl _) (.cons_cons _ (List.nil_sublist _)) ?_
    refine JL.fieldAddr fo_25_1 rfl .none rfl ?_
    refine JA.cont ?_
    refine JA.take 2 (listed' := #[true, true, true, false, false, false, false, false, false, false]) hQ rfl (by kernel_rfl) (by kernel_rfl) (by kernel_rfl) (by kernel_rfl) (by kernel_rfl) hE (HSub.refl _) (.cons_cons _ (List.nil_sublist _)) ?_
    refine JL.loadOwn 0 az_3 rfl rfl rfl .none rfl ?_
    refine JA.cont ?_
    refine JA.take 3 (listed' := #[true, true, true, true, false, false, false, false, false, false]) hQ rfl (by kernel_rfl) (by kernel_rfl) (by kernel_rfl) (by kernel_rfl) (by kernel_rfl) hE (HSub.refl _) (.cons_cons _ (List.nil_sublist _)) ?_
    refine JL.fieldAddr fo_25_2 rfl .none rfl ?_
    refine JA.cont ?_
    refine JA.take 4 (listed' := #[true, true, true, true, true, false, false, false, false, false]) hQ rfl (by kernel_rfl) (by kernel_rfl) (by kernel_rfl) (by kernel_rfl) (by kernel_rfl) hE (HSub.refl _) (.cons_cons _ (List.nil_sublist _)) ?_
    refine JL.loadOwn 0 az_22 rfl rfl rfl .none rfl ?_
    refine JA.cont ?_
    refine JA.many [5] (by kernel_rfl) (by simp) (all_one ⟨_, #[true, true, true, true, true, true, false, false, false, false], rfl, (by kernel_rfl), ?_⟩)
    refine JL.buildSlice (e := 22) (l := [(.slice a10 s.Faults.length c11)]) (by kernel_rfl) .none rfl ?_
    intro b31
    refine JA.after hE (HSub.refl _) (.cons _ (.cons_cons _ (List.nil_sublist _))) ?_
    refine JA.many [6] (by kernel_rfl) (by simp) (all_one ⟨_, #[true, true, true, true, true, true, true, false, false, false], rfl, (by kernel_rfl), ?_⟩)
    refine JL.freezeC 0 (l := [(.slice a10 s.Faults.length c11)]) rfl ?_
    intro H32 hs32 hc33
    have hg34 : SL H32 1 (RSl 2 R_Cell) (.slice (some ⟨b31, 0, none⟩) 1 1) [s.Faults] := CH.sl (l := [s.Faults]) (CH.cons (cs := [(.slice a10 s.Faults.length c11)]) rfl ⟨_, rfl, (SL.mono R_Cell_mono hs32 hs_2)⟩ CH.nil) hc33 ⟨by simp, by simp⟩
    refine JL.callS (c_lays_cellsOf n H32 [s.Faults] (.slice (some ⟨b31, 0, none⟩) 1 1) hg34 y23 hy23) rfl en_45 .none rfl ?_
    refine JA.after hE hs32 (.cons_cons _ (List.nil_sublist _)) ?_
    refine JA.take 7 (listed' := #[true, true, true, true, true, true, true, true, false, false]) hQ rfl (by kernel_rfl) (by kernel_rfl) (by kernel_rfl) (by kernel_rfl) (by kernel_rfl) hE hs32 (.cons_cons _ (List.nil_sublist _)) ?_
    refine JL.buildAm (kd := .u16) (A := [.int .i64 s.Width, .int .i64 s.Length, (.slice a10 s.Faults.length c11), (.slice a13 s.Flaws.length c14), (.slice a16 s.Panels.length c17), .int .i64 s.Length]) (v := .slice none 0 0) (lenck_some hu24) rfl (fun t0 t1 t2 t3 t4 t5 t6 t7 t8 t9 t10 t11 => by kernel_rfl) .none rfl ?_
    refine JA.cont ?_
    refine JA.many [8] (by kernel_rfl) (by simp) (all_one ⟨_, #[true, true, true, true, true, true, true, true, true, false], rfl, (by kernel_rfl), ?_⟩)
    refine JL.box (cs := ([.int .i64 s.Width, .int .i64 s.Length, (.slice a10 s.Faults.length c11), (.slice a13 s.Flaws.length c14), (.slice a16 s.Panels.length c17), .int .i64 s.Length] : List Value) ++ (av .u16 y23 ++ [.slice none 0 0])) rfl .none rfl ?_
    intro b35
    refine JA.after hE hs32 (.cons _ (.cons_cons _ (List.nil_sublist _))) ?_
    refine JA.take 9 (listed' := #[true, true, true, true, true, true, true, true, true, true]) hQ rfl (by kernel_rfl) (by kernel_rfl) (by kernel_rfl) (by kernel_rfl) (by kernel_rfl) hE hs32 (.cons _ (.cons_cons _ (List.nil_sublist _))) ?_
    refine JL.assign .none rfl ?_
    refine JA.cont ?_
    refine JA.done hQ (by kernel_rfl) ?_
    refine JQ.go (JC.seq (JC.region (by rfl) ?_))
    intro hQ
    refine JL.assign .none rfl ?_
    refine JL.done hQ (JQ.go (JC.fresh (fun f => f 1 = lay_v0 ∧ f 2 = .pointer (some ⟨b1, 0, none⟩) ∧ f 7 = .pointer (some ⟨b35, 0, none⟩) ∧ f 8 = .int .i64 0) ⟨rfl, rfl, rfl, rfl⟩ ?_))
    rintro f ⟨hf1, hf2, hf7, hf8⟩
    refine (JC.norm (i := 1) hf1 (JC.norm (i := 2) hf2 (JC.norm (i := 7) hf7 (JC.norm (i := 8) hf8 ?_))))
    refine JC.seq (JC.seq (JC.region (by rfl) ?_))
    intro hQ
    refine JL.move .none rfl ?_
    refine JL.lenSL (R := R_Place) ul_54 (SL.mono R_Place_mono hs32 hlay_0) .none rfl ?_
    refine JL.move .none rfl ?_
    refine JL.done hQ (JQ.go (JC.newNil (e := 62) (sz := 3) ?_))
    obtain ⟨r162, hlr162, hKr162⟩ := bind_some hF
    refine JC.join (fun (need_160 : Int) H161 f bs gs => f 8 = .int .i64 need_160 ∧ bs = [] ∧ gs = [] ∧ HSub H32 H161 ∧ Sum.inr need_160 = r162) ?_ ?_
    ·skip
     refine JC.block (JC.loop hlr162 (fun (x : Int × Int × List Int × List Place) H229 f bs gs => match x with | (need_225, x_226, z_227, out_228) => ∃ (vout_228 : Value) (xsout_228 : List Value), f 2 = .pointer (some ⟨b1, 0, none⟩) ∧ f 7 = .pointer (some ⟨b35, 0, none⟩) ∧ f 8 = .int .i64 need_225 ∧ f 35 = lay_v0 ∧ f 36 = .int .i64 (lay.length : Int) ∧ f 37 = .int .i64 x_226 ∧ bs = [(b35, .cells (([.int .i64 s.Width, .int .i64 s.Length, (.slice a10 s.Faults.length c11), (.slice a13 s.Flaws.length c14), (.slice a16 s.Panels.length c17), .int .i64 s.Length] : List Value) ++ (av .u16 z_227 ++ [vout_228])).toArray 106), (b1, .cells [.int .i64 s.Width, .int .i64 s.Length, (.slice a10 s.Faults.length c11), (.slice a13 s.Flaws.length c14), (.slice a16 s.Panels.length c17)].toArray 25)] ∧ gs = [⟨vout_228, 62, 3, out_228.length, xsout_228⟩] ∧ z_227.length = 12 ∧ CH H229 3 R_Place xsout_228 out_228 ∧ HSub H32 H229) ⟨(.slice none 0 0), [], rfl, rfl, rfl, rfl, rfl, rfl, rfl, rfl, (lenck_some hu24), CH.nil, (HSub.refl _)⟩ ?_)
     rintro ⟨need_225, x_226, z_227, out_228⟩ x231 H229 f bs gs ⟨vout_228, xsout_228, hf2, hf7, hf8, hf35, hf36, hf37, rfl, rfl, hz_227, hout_228, hs229⟩ hF hr230
     rw [F_lays_Needs_s1] at hF
     refine (JC.norm (i := 2) hf2 (JC.norm (i := 7) hf7 (JC.norm (i := 8) hf8 (JC.norm (i := 35) hf35 (JC.norm (i := 36) hf36 (JC.norm (i := 37) hf37 ?_))))))
     refine JC.seq (JC.region (by rfl) ?_)
     intro hQ
     refine JL.bin rfl rfl rfl .none rfl ?_
     refine JL.done hQ (JQ.go (JC.seq ?_))
     rcases ite_some hF with ⟨hc232, hF⟩ | ⟨hc232, hF⟩
     ·refine JC.cond_t (b := decide (x_226 < (lay.length : Int))) rfl hc232 ?_
      refine JC.skip (JQ.go (JC.seq (JC.block (JC.seq (JC.region (by rfl) ?_)))))
      intro hQ
      refine JL.move .none rfl ?_
      obtain ⟨y233, hy233, hF⟩ := bind_some hF
      refine JL.indexSL (R := R_Place) sl_54 (SL.mono R_Place_mono (HSub.trans hs32 hs229) hlay_0) rfl hy233 .none rfl ?_
      rintro b234 o235 cs236 hc237 - rfl
      refine JL.loadH 0 az_62 rfl hc237 rfl .none rfl ?_
      refine JL.alloc ze_62 .none rfl ?_
      intro b238
      refine JL.assign .none rfl ?_
      refine JL.storeOwn 0 (cs := [.int .i64 y233.Row, .int .i64 y233.Col, .int .i64 y233.Turned]) az_62 rfl rfl rfl (one_cons rfl (one_cons rfl (one_cons rfl one_nil))) rfl rfl .none ?_
      refine JL.done hQ (JQ.go (JC.seq (JC.seq (JC.region (by rfl) ?_))))
      intro hQ
      refine JL.move .none rfl ?_
      refine JL.move .none rfl ?_
      refine JL.loadOwn 0 az_62 rfl rfl rfl .none rfl ?_
      refine JL.permB (swapAt_perm 0 _) ?_
      obtain ⟨y239, hy239, hF⟩ := bind_some hF
      refine JL.callW (fun w hs => c_lays_cloth_put n H229 s (.slice a10 s.Faults.length c11) (SL.mono R_Cell_mono (HSub.trans hs32 hs229) hs_2) (.slice a13 s.Flaws.length c14) (SL.mono R_Cell_mono (HSub.trans hs32 hs229) hs_3) (.slice a16 s.Panels.length c17) (SL.mono R_Panel_mono (HSub.trans hs32 hs229) hs_4) s.Length z_227 hz_227 out_228 vout_228 xsout_228 hout_228 b35 _ _ x_226 y233 y239 hy239 _ w hs) rfl en_68 .none rfl ?_
      rintro _ H240 _ _ ⟨rfl, hs240, lv241, lx242, gx243, rfl, rfl, hch244, htl245, hbk246⟩
      refine JL.takeG 1 ?_
      refine JL.not rfl .none rfl ?_
      refine JL.done hQ (JQ.go (JC.fresh (fun f => f 2 = .pointer (some ⟨b1, 0, none⟩) ∧ f 7 = .pointer (some ⟨b35, 0, none⟩) ∧ f 8 = .int .i64 need_225 ∧ f 9 = .int .i64 x_226 ∧ f 10 = .pointer (some ⟨b238, 0, none⟩) ∧ f 35 = lay_v0 ∧ f 36 = .int .i64 (lay.length : Int) ∧ f 37 = .int .i64 x_226 ∧ f 46 = .bool (!y239.1)) ⟨rfl, rfl, rfl, rfl, rfl, rfl, rfl, rfl, rfl⟩ ?_))
      rintro f ⟨hf2, hf7, hf8, hf9, hf10, hf35, hf36, hf37, hf46⟩
      refine (JC.norm (i := 2) hf2 (JC.norm (i := 7) hf7 (JC.norm (i := 8) hf8 (JC.norm (i := 9) hf9 (JC.norm (i := 10) hf10 (JC.norm (i := 35) hf35 (JC.norm (i := 36) hf36 (JC.norm (i := 37) hf37 (JC.norm (i := 46) hf46 ?_)))))))))
      rcases ite_some hF with ⟨hc247, hF⟩ | ⟨hc247, hF⟩
      ·refine JC.cond_t (b := (!y239.1)) rfl hc247 ?_
       refine JC.seq (JC.region (by rfl) ?_)
       intro hQ
       refine JL.assign .none rfl ?_
       refine JL.assign .none rfl ?_
       refine JL.done hQ (JQ.go (JC.ret (JQ.ret_then (JQ.ret_block (JQ.ret_then (JQ.ret_then (JQ.ret_block (JQ.ret_join (JQ.ret_then ?_)))))))))
       obtain rfl := Option.some.inj hF
       have ehr230 := hr230 _ rfl
       subst ehr230
       have hF := hKr162
       try dsimp only at hF
       obtain rfl := Option.some.inj hF
       exact JQ.outS rfl (.tmp (.tmp .nil)) rfl
      ·refine JC.cond_f (b := (!y239.1)) rfl hc247 ?_
       refine JC.skip (JQ.go (JC.draw (by rfl) mo_ (by kernel_rfl) ?_))
       intro hQ
       refine JL.move .none rfl ?_
       refine JL.fieldAddr fo_62_0 rfl .none rfl ?_
       refine JL.loadOwn 1 az_3 rfl rfl rfl .none rfl ?_
       refine JL.fieldAddr fo_25_4 rfl .none rfl ?_
       refine JL.loadOwn 2 az_23 rfl rfl rfl .none rfl ?_
       refine JL.move .none rfl ?_
       obtain ⟨y253, hy253, hF⟩ := bind_some hF
       refine JL.indexSL (R := R_Panel) sl_23 (SL.mono R_Panel_mono (HSub.trans hs32 (HSub.trans hs229 hs240)) hs_4) rfl hy253 .none rfl ?_
       rintro b254 o255 cs256 hc257 - ⟨y253_v0, rfl, hy253_0⟩
       refine JL.fieldAddr fo_30_0 rfl .none rfl ?_
       refine JL.loadH 0 az_28 rfl hc257 rfl .none rfl ?_
       refine JL.lenSL (R := R_Span) ul_28 hy253_0 .none rfl ?_
       refine JL.bin rfl rfl rfl .none rfl ?_
       refine JL.max rfl rfl .none rfl ?_
       refine JL.assign .none rfl ?_
       refine JL.doneQ hQ ?_
       refine JQ.normal_block (JQ.go (JC.fresh (fun f => f 2 = .pointer (some ⟨b1, 0, none⟩) ∧ f 7 = .pointer (some ⟨b35, 0, none⟩) ∧ f 8 = .int .i64 (max need_225 (w64 (y233.Row + (y253.Rows.length : Int)))) ∧ f 35 = lay_v0 ∧ f 36 = .int .i64 (lay.length : Int) ∧ f 37 = .int .i64 x_226) ⟨rfl, rfl, rfl, rfl, rfl, rfl⟩ ?_))
       rintro f ⟨hf2, hf7, hf8, hf35, hf36, hf37⟩
       refine (JC.norm (i := 2) hf2 (JC.norm (i := 7) hf7 (JC.norm (i := 8) hf8 (JC.norm (i := 35) hf35 (JC.norm (i := 36) hf36 (JC.norm (i := 37) hf37 ?_))))))
       refine JC.region (by rfl) ?_
       intro hQ
       refine JL.bin rfl rfl rfl .none rfl ?_
       refine JL.move .none rfl ?_
       refine JL.done hQ ?_
       obtain rfl := Option.some.inj hF
       refine JQ.mask [true, false, true] [true] ?_
       exact JQ.next rfl ⟨lv241, lx242, rfl, rfl, rfl, rfl, rfl, rfl, rfl, rfl, htl245, hch244, (HSub.trans hs229 hs240)⟩
     ·refine JC.cond_f (b := decide (x_226 < (lay.length : Int))) rfl hc232 ?_
      refine JC.exit (JQ.exit_then (JQ.exit_then (JQ.exit_block ?_)))
      obtain rfl := Option.some.inj hF
      have ehr230 := hr230 _ rfl
      subst ehr230
      refine JQ.mask [false, false] [false] ?_
      exact JQ.join need_225 ⟨rfl, rfl, rfl, hs229, rfl⟩
    ·rintro need_160 H161 f bs gs ⟨hf8, rfl, rfl, hs161, rfl⟩
     have hF := hKr162
     try dsimp only at hF
     refine (JQ.norm (i := 8) hf8 ?_)
     refine JQ.go (JC.seq (JC.region (by rfl) ?_))
     intro hQ
     refine JL.move .none rfl ?_
     refine JL.assign .none rfl ?_
     refine JL.assign .none rfl ?_
     refine JL.done hQ (JQ.go (JC.ret ?_))
     obtain rfl := Option.some.inj hF
     exact JQ.outS rfl (.tmp (.tmp .nil)) rfl
-- 38 ferrule/ferruleref03.Needs
def F_ref03_Needs_s1 (n : Nat) (lay : List Place) : Int → Option (Int ⊕ ((Int × Int) ⊕ Unit))
 | i_58 => if decide (i_58 < (lay.length : Int)) = true then ((geti lay i_58).bind fun y63 => (F_ref03_IsPlace n y63).bind fun y68 => if (!y68) = true then (some (Sum.inr (Sum.inl (0, 1)))) else (some (Sum.inl (w64 (i_58 + 1))))) else (some (Sum.inr (Sum.inr ())))
def F_ref03_Needs (n : Nat) (s : Lap) (lay : List Place) : Option (Int × Int) :=
 (F_ref03_Check n s).bind fun y2 => if (y2 != 0) = true then (some (0, y2)) else ((loopO n (F_ref03_Needs_s1 n lay) 0).bind fun r37 => match r37 with | .inl o => some o | .inr _ => if ((lay.length : Int) != (s.Panels.length : Int)) = true then (some (0, 1)) else ((F_ref03_Rows n s s.Faults lay).bind fun y71 => if decide (0 ≤ y71) = true then (some (y71, 0)) else (some (0, 3))))
theorem c_ref03_Needs (n : Nat) (H : Hp) (s : Lap) (s_v2 : Value) (hs_2 : SL H 2 R_Cell s_v2 s.Faults) (s_v3 : Value) (hs_3 : SL H 2 R_Cell s_v3 s.Flaws) (s_v4 : Value) (hs_4 : SL H 1 R_Panel s_v4 s.Panels) (lay : List Place) (lay_v0 : Value) (hlay_0 : SL H 3 R_Place lay_v0 lay) (y : Int × Int) (hF : F_ref03_Needs n s lay = some y) : SC Try.prog 38 [.agg [.int .i64 s.Width, .int .i64 s.Length, s_v2, s_v3, s_v4].toArray, lay_v0] (.tuple [.int .i64 y.1, .int .i64 y.2].toArray) H := by
 rw [F_ref03_Needs] at hF
 refine SC.of (N := 40) Try.func38 rfl rfl rfl fun w => ?_
 refine JC.seq (JC.region (by rfl) ?_)
 intro hQ
 refine JL.box (cs := [.int .i64 s.Width, .int .i64 s.Length, s_v2, s_v3, s_v4]) rfl .none rfl ?_
 intro b1
 refine JL.assign .none rfl ?_
 refine JL.assign .none rfl ?_
 refine JL.done hQ (JQ.go (JC.seq (JC.seq (JC.region (by rfl) ?_))))
 intro hQ
 refine JL.loadOwn 0 az_25 rfl rfl rfl .none rfl ?_
 obtain ⟨y2, hy2, hF⟩ := bind_some hF
 refine JL.callS (c_ref03_Check n H s s_v2 hs_2 s_v3 hs_3 s_v4 hs_4 y2 hy2) rfl en_34 .none rfl ?_
 refine JL.assign .none rfl ?_
 refine JL.done hQ (JQ.go (JC.seq (JC.region (by rfl) ?_)))
 intro hQ
 refine JL.move .none rfl ?_
 refine JL.bin rfl rfl rfl .none rfl ?_
 refine JL.done hQ (JQ.go ?_)
 rcases ite_some hF with ⟨hc3, hF⟩ | ⟨hc3, hF⟩
 ·refine JC.cond_t (b := (y2 != 0)) rfl hc3 ?_
  refine JC.seq (JC.region (by rfl) ?_)
  intro hQ
  refine JL.move .none rfl ?_
  refine JL.assign .none rfl ?_
  refine JL.assign .none rfl ?_
  refine JL.done hQ (JQ.go (JC.ret (JQ.ret_then ?_)))
  obtain rfl := Option.some.inj hF
  exact JQ.outS rfl (.tmp (.tmp .nil)) rfl
 ·refine JC.cond_f (b := (y2 != 0)) rfl hc3 ?_
  refine JC.skip (JQ.go (JC.seq (JC.seq (JC.region (by rfl) ?_))))
  intro hQ
  refine JL.assign .none rfl ?_
  refine JL.done hQ (JQ.go ?_)
  obtain ⟨r37, hlr37, hKr37⟩ := bind_some hF
  refine JC.join (fun (_ : Unit) H36 f bs gs => f 1 = lay_v0 ∧ f 2 = .pointer (some ⟨b1, 0, none⟩) ∧ bs = [(b1, .cells [.int .i64 s.Width, .int .i64 s.Length, s_v2, s_v3, s_v4].toArray 25)] ∧ gs = [] ∧ HSub H H36 ∧ Sum.inr () = r37) ?_ ?_
  ·skip
   refine JC.block (JC.loop hlr37 (fun (i_58 : Int) H59 f bs gs => f 1 = lay_v0 ∧ f 2 = .pointer (some ⟨b1, 0, none⟩) ∧ f 7 = .int .i64 i_58 ∧ bs = [(b1, .cells [.int .i64 s.Width, .int .i64 s.Length, s_v2, s_v3, s_v4].toArray 25)] ∧ gs = [] ∧ HSub H H59) ⟨rfl, rfl, rfl, rfl, rfl, (HSub.refl _)⟩ ?_)
   rintro i_58 x61 H59 f bs gs ⟨hf1, hf2, hf7, rfl, rfl, hs59⟩ hF hr60
   rw [F_ref03_Needs_s1] at hF
   refine (JC.norm (i := 1) hf1 (JC.norm (i := 2) hf2 (JC.norm (i := 7) hf7 ?_)))
   refine JC.seq (JC.seq (JC.region (by rfl) ?_))
   intro hQ
   refine JL.move .none rfl ?_
   refine JL.move .none rfl ?_
   refine JL.lenSL (R := R_Place) ul_54 (SL.mono R_Place_mono hs59 hlay_0) .none rfl ?_
   refine JL.bin rfl rfl rfl .none rfl ?_
   refine JL.done hQ (JQ.go ?_)
   rcases ite_some hF with ⟨hc62, hF⟩ | ⟨hc62, hF⟩
   ·refine JC.cond_t (b := decide (i_58 < (lay.length : Int))) rfl hc62 ?_
    refine JC.skip (JQ.go (JC.seq (JC.block (JC.seq (JC.region (by rfl) ?_)))))
    intro hQ
    refine JL.move .none rfl ?_
    refine JL.move .none rfl ?_
    obtain ⟨y63, hy63, hF⟩ := bind_some hF
    refine JL.indexSL (R := R_Place) sl_54 (SL.mono R_Place_mono hs59 hlay_0) rfl hy63 .none rfl ?_
    rintro b64 o65 cs66 hc67 - rfl
    refine JL.loadH 0 az_62 rfl hc67 rfl .none rfl ?_
    obtain ⟨y68, hy68, hF⟩ := bind_some hF
    refine JL.callS (c_ref03_IsPlace n H59 y63 y68 hy68) rfl en_24 .none rfl ?_
    refine JL.not rfl .none rfl ?_
    refine JL.done hQ (JQ.go ?_)
    rcases ite_some hF with ⟨hc69, hF⟩ | ⟨hc69, hF⟩
    ·refine JC.cond_t (b := (!y68)) rfl hc69 ?_
     refine JC.seq (JC.region (by rfl) ?_)
     intro hQ
     refine JL.assign .none rfl ?_
     refine JL.assign .none rfl ?_
     refine JL.done hQ (JQ.go (JC.fresh (fun f => f 4 = .int .i64 0 ∧ f 5 = .int .i64 1) ⟨rfl, rfl⟩ ?_))
     rintro f ⟨hf4, hf5⟩
     refine (JC.norm (i := 4) hf4 (JC.norm (i := 5) hf5 ?_))
     refine JC.ret (JQ.ret_block (JQ.ret_then (JQ.ret_then (JQ.ret_block (JQ.ret_join (JQ.ret_then ?_))))))
     obtain rfl := Option.some.inj hF
     have ehr60 := hr60 _ rfl
     subst ehr60
     have hF := hKr37
     try dsimp only at hF
     obtain rfl := Option.some.inj hF
     exact JQ.outS rfl (.tmp (.tmp .nil)) rfl
    ·refine JC.cond_f (b := (!y68)) rfl hc69 ?_
     refine JC.skip (JQ.normal_block (JQ.go (JC.region (by rfl) ?_)))
     intro hQ
     refine JL.move .none rfl ?_
     refine JL.bin rfl rfl rfl .none rfl ?_
     refine JL.assign .none rfl ?_
     refine JL.done hQ ?_
     obtain rfl := Option.some.inj hF
     exact JQ.next rfl ⟨rfl, rfl, rfl, rfl, rfl, hs59⟩
   ·refine JC.cond_f (b := decide (i_58 < (lay.length : Int))) rfl hc62 ?_
    refine JC.exit (JQ.exit_then (JQ.exit_then (JQ.exit_block ?_)))
    obtain rfl := Option.some.inj hF
    have ehr60 := hr60 _ rfl
    subst ehr60
    exact JQ.join () ⟨rfl, rfl, rfl, rfl, hs59, rfl⟩
  ·rintro _ H36 f bs gs ⟨hf1, hf2, rfl, rfl, hs36, rfl⟩
   have hF := hKr37
   try dsimp only at hF
   refine (JQ.norm (i := 1) hf1 (JQ.norm (i := 2) hf2 ?_))
   refine JQ.go (JC.seq (JC.seq (JC.region (by rfl) ?_)))
   intro hQ
   refine JL.move .none rfl ?_
   refine JL.lenSL (R := R_Place) ul_54 (SL.mono R_Place_mono hs36 hlay_0) .none rfl ?_
   refine JL.fieldAddr fo_25_4 rfl .none rfl ?_
   refine JL.loadOwn 0 az_23 rfl rfl rfl .none rfl ?_
   refine JL.lenSL (R := R_Panel) ul_23 (SL.mono R_Panel_mono hs36 hs_4) .none rfl ?_
   refine JL.bin rfl rfl rfl .none rfl ?_
   refine JL.done hQ (JQ.go ?_)
   rcases ite_some hF with ⟨hc70, hF⟩ | ⟨hc70, hF⟩
   ·refine JC.cond_t (b := ((lay.length : Int) != (s.Panels.length : Int))) rfl hc70 ?_
    refine JC.seq (JC.region (by rfl) ?_)
    intro hQ
    refine JL.assign .none rfl ?_
    refine JL.assign .none rfl ?_
    refine JL.done hQ (JQ.go (JC.ret (JQ.ret_then ?_)))
    obtain rfl := Option.some.inj hF
    exact JQ.outS rfl (.tmp (.tmp .nil)) rfl
   ·refine JC.cond_f (b := ((lay.length : Int) != (s.Panels.length : Int))) rfl hc70 ?_
    refine JC.skip (JQ.go (JC.seq (JC.seq (JC.region (by rfl) ?_))))
    intro hQ
    refine JL.loadOwn 0 az_25 rfl rfl rfl .none rfl ?_
    refine JL.fieldAddr fo_25_2 rfl .none rfl ?_
    refine JL.loadOwn 0 az_22 rfl rfl rfl .none rfl ?_
    refine JL.move .none rfl ?_
    obtain ⟨y71, hy71, hF⟩ := bind_some hF
    refine JL.callS (c_ref03_Rows n H36 s s_v2 (SL.mono R_Cell_mono hs36 hs_2) s_v3 (SL.mono R_Cell_mono hs36 hs_3) s_v4 (SL.mono R_Panel_mono hs36 hs_4) s.Faults s_v2 (SL.mono R_Cell_mono hs36 hs_2) lay lay_v0 (SL.mono R_Place_mono hs36 hlay_0) y71 hy71) rfl en_25 .none rfl ?_
    refine JL.assign .none rfl ?_
    refine JL.done hQ (JQ.go (JC.fresh (fun f => f 8 = .int .i64 y71) rfl ?_))
    rintro f hf8
    refine (JC.norm (i := 8) hf8 ?_)
    refine JC.seq (JC.region (by rfl) ?_)
    intro hQ
    refine JL.move .none rfl ?_
    refine JL.bin rfl rfl rfl .none rfl ?_
    refine JL.done hQ (JQ.go ?_)
    rcases ite_some hF with ⟨hc72, hF⟩ | ⟨hc72, hF⟩
    ·refine JC.cond_t (b := decide (0 ≤ y71)) rfl hc72 ?_
     refine JC.seq (JC.region (by rfl) ?_)
     intro hQ
     refine JL.move .none rfl ?_
     refine JL.assign .none rfl ?_
     refine JL.assign .none rfl ?_
     refine JL.done hQ (JQ.go (JC.ret (JQ.ret_then ?_)))
     obtain rfl := Option.some.inj hF
     exact JQ.outS rfl (.tmp (.tmp .nil)) rfl
    ·refine JC.cond_f (b := decide (0 ≤ y71)) rfl hc72 ?_
     refine JC.skip (JQ.go (JC.seq (JC.region (by rfl) ?_)))
     intro hQ
     refine JL.assign .none rfl ?_
     refine JL.assign .none rfl ?_
     refine JL.done hQ (JQ.go (JC.ret ?_))
     obtain rfl := Option.some.inj hF
     exact JQ.outS rfl (.tmp (.tmp .nil)) rfl
-- 56 ferrule/ferruleref03.all
def F_ref03_all (n : Nat) (s : Lap) : Option (List Cell) :=
 (lim (([] : List Cell) ++ s.Faults)).bind fun l4 => (lim (l4 ++ s.Flaws)).bind fun l8 => some l8
theorem c_ref03_all (n : Nat) (H : Hp) (s : Lap) (s_v2 : Value) (hs_2 : SL H 2 R_Cell s_v2 s.Faults) (s_v3 : Value) (hs_3 : SL H 2 R_Cell s_v3 s.Flaws) (s_v4 : Value) (hs_4 : SL H 1 R_Panel s_v4 s.Panels) (y : (List Cell)) (hF : F_ref03_all n s = some y) : HC Try.prog 56 [.agg [.int .i64 s.Width, .int .i64 s.Length, s_v2, s_v3, s_v4].toArray] H (fun H' ra_v0 => SL H' 2 R_Cell ra_v0 y) := by
 rw [F_ref03_all] at hF
 refine HC.of (N := 10) Try.func56 rfl rfl rfl fun w => ?_
 refine JC.seq (JC.region (by rfl) ?_)
 intro hQ
 refine JL.box (cs := [.int .i64 s.Width, .int .i64 s.Length, s_v2, s_v3, s_v4]) rfl .none rfl ?_
 intro b1
 refine JL.assign .none rfl ?_
 refine JL.done hQ (JQ.go (JC.seq ?_))
 obtain ⟨l4, hl4, hF⟩ := bind_some hF
 obtain ⟨l8, hl8, hF⟩ := bind_some hF
 refine JC.mixed 8 8 #[false, false, false, false, false, false, false, false] [(b1, .cells [.int .i64 s.Width, .int .i64 s.Length, s_v2, s_v3, s_v4].toArray 25)] (by rfl) mo_ (by kernel_rfl) (by kernel_rfl) ?_
 intro hQ hE
 refine JA.take 1 (listed' := #[false, true, false, false, false, false, false, false]) hQ rfl (by kernel_rfl) (by kernel_rfl) (by kernel_rfl) (by kernel_rfl) (by kernel_rfl) hE (HSub.refl _) (.cons_cons _ (List.nil_sublist _)) ?_
 refine JL.fieldAddr fo_25_2 rfl .none rfl ?_
 refine JA.cont ?_
 refine JA.take 2 (listed' := #[false, true, true, false, false, false, false, false]) hQ rfl (by kernel_rfl) (by kernel_rfl) (by kernel_rfl) (by kernel_rfl) (by kernel_rfl) hE (HSub.refl _) (.cons_cons _ (List.nil_sublist _)) ?_
 refine JL.loadOwn 0 az_22 rfl rfl rfl .none rfl ?_
 refine JA.cont ?_
 refine JA.take 4 (listed' := #[false, true, true, false, true, false, false, false]) hQ rfl (by kernel_rfl) (by kernel_rfl) (by kernel_rfl) (by kernel_rfl) (by kernel_rfl) hE (HSub.refl _) (.cons_cons _ (List.nil_sublist _)) ?_
 refine JL.fieldAddr fo_25_3 rfl .none rfl ?_
 refine JA.cont ?_
 refine JA.take 5 (listed' := #[false, true, true, false, true, true, false, false]) hQ rfl (by kernel_rfl) (by kernel_rfl) (by kernel_rfl) (by kernel_rfl) (by kernel_rfl) hE (HSub.refl _) (.cons_cons _ (List.nil_sublist _)) ?_
 refine JL.loadOwn 0 az_22 rfl rfl rfl .none rfl ?_
 refine JA.cont ?_
 refine JA.many [0] (by kernel_rfl) (by simp) (all_one ⟨_, #[true, true, true, false, true, true, false, false], rfl, (by kernel_rfl), ?_⟩)
 refine JL.emptySlice ap_22 .none rfl ?_
 intro v20
 refine JA.after hE (HSub.refl _) (.cons_cons _ (List.nil_sublist _)) ?_
 refine JA.many [3] (by kernel_rfl) (by simp) (all_one ⟨_, #[true, true, true, true, true, true, false, false], rfl, (by kernel_rfl), ?_⟩)
 refine JL.appD (R := R_Cell) 0 (l := ([] : List Cell)) (m := s.Faults) ap_22 rfl ⟨rfl, rfl⟩ rfl CH.nil rfl hs_2 (R_Cell_one _) hl4 .none rfl ?_
 intro v22 xs23 hch24
 refine JA.after hE (HSub.refl _) (.cons_cons _ (List.nil_sublist _)) ?_
 refine JA.many [6] (by kernel_rfl) (by simp) (all_one ⟨_, #[true, true, true, true, true, true, true, false], rfl, (by kernel_rfl), ?_⟩)
 refine JL.appD (R := R_Cell) 0 (l := l4) (m := s.Flaws) ap_22 rfl ⟨rfl, rfl⟩ rfl hch24 rfl hs_3 (R_Cell_one _) hl8 .none rfl ?_
 intro v25 xs26 hch27
 refine JA.after hE (HSub.refl _) (.cons_cons _ (List.nil_sublist _)) ?_
 refine JA.take 7 (listed' := #[true, true, true, true, true, true, true, true]) hQ rfl (by kernel_rfl) (by kernel_rfl) (by kernel_rfl) (by kernel_rfl) (by kernel_rfl) hE (HSub.refl _) (.cons_cons _ (List.nil_sublist _)) ?_
 refine JL.assign .none rfl ?_
 refine JA.cont ?_
 refine JA.done hQ (by kernel_rfl) ?_
 refine JQ.go (JC.ret (JQ.freezeG 0 (R := R_Cell) rfl R_Cell_mono hch27 rfl ?_))
 intro H28 hs28 hg29
 obtain rfl := Option.some.inj hF
 exact JQ.outH rfl (.tmp .nil) hg29
-- 39 ferrule/ferruleref03.Room
def F_ref03_Room_s2 (n : Nat) (s : Lap) (r_427 : Int) : Int × Int → Option ((Int × Int) ⊕ Int)
 | (n_497, c_498) => if decide (c_498 < s.Width) = true then ((F_ref03_all n s).bind fun y503 => (F_ref03_In n y503 (Cell.mk r_427 c_498)).bind fun y505 => (if (!y505) = true then (some (w64 (n_497 + 1))) else (some n_497)).bind fun n_507 => some (Sum.inl (n_507, (w64 (c_498 + 1))))) else (some (Sum.inr n_497))
def F_ref03_Room_s1 (n : Nat) (s : Lap) (rows : Int) : Int × Int → Option ((Int × Int) ⊕ Int)
 | (n_426, r_427) => if decide (r_427 < rows) = true then ((loopO n (F_ref03_Room_s2 n s r_427) (n_426, 0)).bind fun n_470 => some (Sum.inl (n_470, (w64 (r_427 + 1))))) else (some (Sum.inr n_426))
def F_ref03_Room (n : Nat) (s : Lap) (rows : Int) : Option (Int × Int) :=
 (F_ref03_Check n s).bind fun y2 => if (y2 != 0) = true then (some (0, y2)) else ((F_ref03_within n rows 0 s.Length).bind fun y4 => if (!y4) = true then (some (0, 1)) else ((loopO n (F_ref03_Room_s1 n s rows) (0, 0)).bind fun n_257 => some (n_257, 0)))
theorem c_ref03_Room (n : Nat) (H : Hp) (s : Lap) (s_v2 : Value) (hs_2 : SL H 2 R_Cell s_v2 s.Faults) (s_v3 : Value) (hs_3 : SL H 2 R_Cell s_v3 s.Flaws) (s_v4 : Value) (hs_4 : SL H 1 R_Panel s_v4 s.Panels) (rows : Int) (y : Int × Int) (hF : F_ref03_Room n s rows = some y) : SC Try.prog 39 [.agg [.int .i64 s.Width, .int .i64 s.Length, s_v2, s_v3, s_v4].toArray, .int .i64 rows] (.tuple [.int .i64 y.1, .int .i64 y.2].toArray) H := by
 rw [F_ref03_Room] at hF
 refine SC.of (N := 41) Try.func39 rfl rfl rfl fun w => ?_
 refine JC.seq (JC.region (by rfl) ?_)
 intro hQ
 refine JL.box (cs := [.int .i64 s.Width, .int .i64 s.Length, s_v2, s_v3, s_v4]) rfl .none rfl ?_
 intro b1
 refine JL.assign .none rfl ?_
 refine JL.assign .none rfl ?_
 refine JL.done hQ (JQ.go (JC.seq (JC.seq (JC.region (by rfl) ?_))))
 intro hQ
 refine JL.loadOwn 0 az_25 rfl rfl rfl .none rfl ?_
 obtain ⟨y2, hy2, hF⟩ := bind_some hF
 refine JL.callS (c_ref03_Check n H s s_v2 hs_2 s_v3 hs_3 s_v4 hs_4 y2 hy2) rfl en_34 .none rfl ?_
 refine JL.assign .none rfl ?_
 refine JL.done hQ (JQ.go (JC.seq (JC.region (by rfl) ?_)))
 intro hQ
 refine JL.move .none rfl ?_
 refine JL.bin rfl rfl rfl .none rfl ?_
 refine JL.done hQ (JQ.go ?_)
 rcases ite_some hF with ⟨hc3, hF⟩ | ⟨hc3, hF⟩
 ·refine JC.cond_t (b := (y2 != 0)) rfl hc3 ?_
  refine JC.seq (JC.region (by rfl) ?_)
  intro hQ
  refine JL.move .none rfl ?_
  refine JL.assign .none rfl ?_
  refine JL.assign .none rfl ?_
  refine JL.done hQ (JQ.go (JC.ret (JQ.ret_then ?_)))
  obtain rfl := Option.some.inj hF
  exact JQ.outS rfl (.tmp (.tmp .nil)) rfl
 ·refine JC.cond_f (b := (y2 != 0)) rfl hc3 ?_
  refine JC.skip (JQ.go (JC.seq (JC.seq (JC.region (by rfl) ?_))))
  intro hQ
  refine JL.move .none rfl ?_
  refine JL.fieldAddr fo_25_1 rfl .none rfl ?_
  refine JL.loadOwn 0 az_3 rfl rfl rfl .none rfl ?_
  obtain ⟨y4, hy4, hF⟩ := bind_some hF
  refine JL.callS (c_ref03_within n H rows 0 s.Length y4 hy4) rfl en_51 .none rfl ?_
  refine JL.not rfl .none rfl ?_
  refine JL.done hQ (JQ.go (JC.fresh (fun f => f 1 = .int .i64 rows ∧ f 2 = .pointer (some ⟨b1, 0, none⟩) ∧ f 4 = .int .i64 0 ∧ f 5 = .int .i64 0 ∧ f 19 = .bool (!y4)) ⟨rfl, rfl, rfl, rfl, rfl⟩ ?_))
  rintro f ⟨hf1, hf2, hf4, hf5, hf19⟩
  refine (JC.norm (i := 1) hf1 (JC.norm (i := 2) hf2 (JC.norm (i := 4) hf4 (JC.norm (i := 5) hf5 (JC.norm (i := 19) hf19 ?_)))))
  rcases ite_some hF with ⟨hc5, hF⟩ | ⟨hc5, hF⟩
  ·refine JC.cond_t (b := (!y4)) rfl hc5 ?_
   refine JC.seq (JC.region (by rfl) ?_)
   intro hQ
   refine JL.assign .none rfl ?_
   refine JL.assign .none rfl ?_
   refine JL.done hQ (JQ.go (JC.ret (JQ.ret_then ?_)))
   obtain rfl := Option.some.inj hF
   exact JQ.outS rfl (.tmp (.tmp .nil)) rfl
  ·refine JC.cond_f (b := (!y4)) rfl hc5 ?_
   refine JC.skip (JQ.go (JC.seq (JC.region (by rfl) ?_)))
   intro hQ
   refine JL.assign .none rfl ?_
   refine JL.done hQ (JQ.go (JC.seq (JC.seq (JC.region (by rfl) ?_))))
   intro hQ
   refine JL.assign .none rfl ?_
   refine JL.done hQ (JQ.go ?_)
   obtain ⟨r259, hlr259, hKr259⟩ := bind_some hF
   refine JC.join (fun (n_257 : Int) H258 f bs gs => f 7 = .int .i64 n_257 ∧ bs = [] ∧ gs = [] ∧ HSub H H258 ∧ n_257 = r259) ?_ ?_
   ·skip
    refine JC.block (JC.loop hlr259 (fun (x : Int × Int) H428 f bs gs => match x with | (n_426, r_427) => f 1 = .int .i64 rows ∧ f 2 = .pointer (some ⟨b1, 0, none⟩) ∧ f 7 = .int .i64 n_426 ∧ f 8 = .int .i64 r_427 ∧ bs = [(b1, .cells [.int .i64 s.Width, .int .i64 s.Length, s_v2, s_v3, s_v4].toArray 25)] ∧ gs = [] ∧ HSub H H428) ⟨rfl, rfl, rfl, rfl, rfl, rfl, (HSub.refl _)⟩ ?_)
    rintro ⟨n_426, r_427⟩ x430 H428 f bs gs ⟨hf1, hf2, hf7, hf8, rfl, rfl, hs428⟩ hF hr429
    rw [F_ref03_Room_s1] at hF
    refine (JC.norm (i := 1) hf1 (JC.norm (i := 2) hf2 (JC.norm (i := 7) hf7 (JC.norm (i := 8) hf8 ?_))))
    refine JC.seq (JC.seq (JC.region (by rfl) ?_))
    intro hQ
    refine JL.move .none rfl ?_
    refine JL.move .none rfl ?_
    refine JL.bin rfl rfl rfl .none rfl ?_
    refine JL.done hQ (JQ.go ?_)
    rcases ite_some hF with ⟨hc431, hF⟩ | ⟨hc431, hF⟩
    ·refine JC.cond_t (b := decide (r_427 < rows)) rfl hc431 ?_
     refine JC.skip (JQ.go (JC.seq (JC.block (JC.seq (JC.region (by rfl) ?_)))))
     intro hQ
     refine JL.assign .none rfl ?_
     refine JL.done hQ (JQ.go ?_)
     obtain ⟨r472, hlr472, hKr472⟩ := bind_some hF
     refine JC.join (fun (n_470 : Int) H471 f bs gs => f 1 = .int .i64 rows ∧ f 2 = .pointer (some ⟨b1, 0, none⟩) ∧ f 7 = .int .i64 n_470 ∧ f 8 = .int .i64 r_427 ∧ bs = [(b1, .cells [.int .i64 s.Width, .int .i64 s.Length, s_v2, s_v3, s_v4].toArray 25)] ∧ gs = [] ∧ HSub H428 H471 ∧ n_470 = r472) ?_ ?_
     ·skip
      refine JC.block (JC.loop hlr472 (fun (x : Int × Int) H499 f bs gs => match x with | (n_497, c_498) => f 1 = .int .i64 rows ∧ f 2 = .pointer (some ⟨b1, 0, none⟩) ∧ f 7 = .int .i64 n_497 ∧ f 8 = .int .i64 r_427 ∧ f 9 = .int .i64 c_498 ∧ bs = [(b1, .cells [.int .i64 s.Width, .int .i64 s.Length, s_v2, s_v3, s_v4].toArray 25)] ∧ gs = [] ∧ HSub H428 H499) ⟨rfl, rfl, rfl, rfl, rfl, rfl, rfl, (HSub.refl _)⟩ ?_)
      rintro ⟨n_497, c_498⟩ x501 H499 f bs gs ⟨hf1, hf2, hf7, hf8, hf9, rfl, rfl, hs499⟩ hF hr500
      rw [F_ref03_Room_s2] at hF
      refine (JC.norm (i := 1) hf1 (JC.norm (i := 2) hf2 (JC.norm (i := 7) hf7 (JC.norm (i := 8) hf8 (JC.norm (i := 9) hf9 ?_)))))
      refine JC.seq (JC.seq (JC.region (by rfl) ?_))
      intro hQ
      refine JL.move .none rfl ?_
      refine JL.fieldAddr fo_25_0 rfl .none rfl ?_
      refine JL.loadOwn 0 az_3 rfl rfl rfl .none rfl ?_
      refine JL.bin rfl rfl rfl .none rfl ?_
      refine JL.done hQ (JQ.go ?_)
      rcases ite_some hF with ⟨hc502, hF⟩ | ⟨hc502, hF⟩
      ·refine JC.cond_t (b := decide (c_498 < s.Width)) rfl hc502 ?_
       refine JC.skip (JQ.go (JC.seq (JC.block (JC.seq (JC.region (by rfl) ?_)))))
       intro hQ
       refine JL.loadOwn 0 az_25 rfl rfl rfl .none rfl ?_
       obtain ⟨y503, hy503, hF⟩ := bind_some hF
       refine JL.callH (c_ref03_all n H499 s s_v2 (SL.mono R_Cell_mono (HSub.trans hs428 hs499) hs_2) s_v3 (SL.mono R_Cell_mono (HSub.trans hs428 hs499) hs_3) s_v4 (SL.mono R_Panel_mono (HSub.trans hs428 hs499) hs_4) y503 hy503) rfl en_56 .none rfl ?_
       intro H504 y503a_v0 hs504 hy503a_0
       refine JL.move .none rfl ?_
       refine JL.move .none rfl ?_
       refine JL.build (l := [.int .i64 r_427, .int .i64 c_498]) (by kernel_rfl) .none rfl ?_
       obtain ⟨y505, hy505, hF⟩ := bind_some hF
       refine JL.callS (c_ref03_In n H504 y503 y503a_v0 hy503a_0 (Cell.mk r_427 c_498) y505 hy505) rfl en_53 .none rfl ?_
       refine JL.not rfl .none rfl ?_
       refine JL.done hQ (JQ.go (JC.fresh (fun f => f 1 = .int .i64 rows ∧ f 2 = .pointer (some ⟨b1, 0, none⟩) ∧ f 7 = .int .i64 n_497 ∧ f 8 = .int .i64 r_427 ∧ f 9 = .int .i64 c_498 ∧ f 37 = .bool (!y505)) ⟨rfl, rfl, rfl, rfl, rfl, rfl⟩ ?_))
       rintro f ⟨hf1, hf2, hf7, hf8, hf9, hf37⟩
       refine (JC.norm (i := 1) hf1 (JC.norm (i := 2) hf2 (JC.norm (i := 7) hf7 (JC.norm (i := 8) hf8 (JC.norm (i := 9) hf9 (JC.norm (i := 37) hf37 ?_))))))
       obtain ⟨r509, hlr509, hKr509⟩ := bind_some hF
       refine JC.join (fun (n_507 : Int) H508 f bs gs => f 1 = .int .i64 rows ∧ f 2 = .pointer (some ⟨b1, 0, none⟩) ∧ f 7 = .int .i64 n_507 ∧ f 8 = .int .i64 r_427 ∧ f 9 = .int .i64 c_498 ∧ bs = [(b1, .cells [.int .i64 s.Width, .int .i64 s.Length, s_v2, s_v3, s_v4].toArray 25)] ∧ gs = [] ∧ HSub H504 H508 ∧ n_507 = r509) ?_ ?_
       ·have hF := hlr509
        rcases ite_some hF with ⟨hc510, hF⟩ | ⟨hc510, hF⟩
        ·refine JC.cond_t (b := (!y505)) rfl hc510 ?_
         refine JC.region (by rfl) ?_
         intro hQ
         refine JL.move .none rfl ?_
         refine JL.bin rfl rfl rfl .none rfl ?_
         refine JL.assign .none rfl ?_
         refine JL.done hQ ?_
         obtain rfl := Option.some.inj hF
         exact JQ.join (w64 (n_497 + 1)) ⟨rfl, rfl, rfl, rfl, rfl, rfl, rfl, (HSub.refl _), rfl⟩
        ·refine JC.cond_f (b := (!y505)) rfl hc510 ?_
         refine JC.skip ?_
         obtain rfl := Option.some.inj hF
         exact JQ.join n_497 ⟨rfl, rfl, rfl, rfl, rfl, rfl, rfl, (HSub.refl _), rfl⟩
       ·rintro n_507 H508 f bs gs ⟨hf1, hf2, hf7, hf8, hf9, rfl, rfl, hs508, rfl⟩
        have hF := hKr509
        try dsimp only at hF
        refine (JQ.norm (i := 1) hf1 (JQ.norm (i := 2) hf2 (JQ.norm (i := 7) hf7 (JQ.norm (i := 8) hf8 (JQ.norm (i := 9) hf9 ?_)))))
        refine JQ.normal_block (JQ.go (JC.region (by rfl) ?_))
        intro hQ
        refine JL.move .none rfl ?_
        refine JL.bin rfl rfl rfl .none rfl ?_
        refine JL.assign .none rfl ?_
        refine JL.done hQ ?_
        obtain rfl := Option.some.inj hF
        exact JQ.next rfl ⟨rfl, rfl, rfl, rfl, rfl, rfl, rfl, (HSub.trans hs499 (HSub.trans hs504 hs508))⟩
      ·refine JC.cond_f (b := decide (c_498 < s.Width)) rfl hc502 ?_
       refine JC.exit (JQ.exit_then (JQ.exit_then (JQ.exit_block ?_)))
       obtain rfl := Option.some.inj hF
       have ehr500 := hr500 _ rfl
       subst ehr500
       exact JQ.join n_497 ⟨rfl, rfl, rfl, rfl, rfl, rfl, hs499, rfl⟩
     ·rintro n_470 H471 f bs gs ⟨hf1, hf2, hf7, hf8, rfl, rfl, hs471, rfl⟩
      have hF := hKr472
      try dsimp only at hF
      refine (JQ.norm (i := 1) hf1 (JQ.norm (i := 2) hf2 (JQ.norm (i := 7) hf7 (JQ.norm (i := 8) hf8 ?_))))
      refine JQ.normal_block (JQ.go (JC.region (by rfl) ?_))
      intro hQ
      refine JL.move .none rfl ?_
      refine JL.bin rfl rfl rfl .none rfl ?_
      refine JL.assign .none rfl ?_
      refine JL.done hQ ?_
      obtain rfl := Option.some.inj hF
      exact JQ.next rfl ⟨rfl, rfl, rfl, rfl, rfl, rfl, (HSub.trans hs428 hs471)⟩
    ·refine JC.cond_f (b := decide (r_427 < rows)) rfl hc431 ?_
     refine JC.exit (JQ.exit_then (JQ.exit_then (JQ.exit_block ?_)))
     obtain rfl := Option.some.inj hF
     have ehr429 := hr429 _ rfl
     subst ehr429
     refine JQ.mask [false] [] ?_
     exact JQ.join n_426 ⟨rfl, rfl, rfl, hs428, rfl⟩
   ·rintro n_257 H258 f bs gs ⟨hf7, rfl, rfl, hs258, rfl⟩
    have hF := hKr259
    try dsimp only at hF
    refine (JQ.norm (i := 7) hf7 ?_)
    refine JQ.go (JC.seq (JC.region (by rfl) ?_))
    intro hQ
    refine JL.move .none rfl ?_
    refine JL.assign .none rfl ?_
    refine JL.assign .none rfl ?_
    refine JL.done hQ (JQ.go (JC.ret ?_))
    obtain rfl := Option.some.inj hF
    exact JQ.outS rfl (.tmp (.tmp .nil)) rfl
-- 40 ferrule/ferrulelaw03.sameCells
def F_law03_sameCells_s1 (n : Nat) (a : List Cell) (b : List Cell) : Int → Option (Int ⊕ (Bool ⊕ Unit))
 | i_126 => if decide (i_126 < (a.length : Int)) = true then ((geti a i_126).bind fun y141 => (geti b i_126).bind fun y146 => if (!((y141.Row == y146.Row) && (y141.Col == y146.Col))) = true then (some (Sum.inr (Sum.inl false))) else (some (Sum.inl (w64 (i_126 + 1))))) else (some (Sum.inr (Sum.inr ())))
def F_law03_sameCells (n : Nat) (a : List Cell) (b : List Cell) : Option Bool :=
 if ((a.length : Int) != (b.length : Int)) = true then (some false) else ((loopO n (F_law03_sameCells_s1 n a b) 0).bind fun r77 => match r77 with | .inl o => some o | .inr _ => some true)
theorem c_law03_sameCells (n : Nat) (H : Hp) (a : List Cell) (a_v0 : Value) (ha_0 : SL H 2 R_Cell a_v0 a) (b : List Cell) (b_v0 : Value) (hb_0 : SL H 2 R_Cell b_v0 b) (y : Bool) (hF : F_law03_sameCells n a b = some y) : SC Try.prog 40 [a_v0, b_v0] (.bool y) H := by
 rw [F_law03_sameCells] at hF
 refine SC.of (N := 26) Try.func40 rfl rfl rfl fun w => ?_
 refine JC.seq (JC.region (by rfl) ?_)
 intro hQ
 refine JL.assign .none rfl ?_
 refine JL.done hQ (JQ.go (JC.seq (JC.seq (JC.region (by rfl) ?_))))
 intro hQ
 refine JL.move .none rfl ?_
 refine JL.lenSL (R := R_Cell) ul_22 ha_0 .none rfl ?_
 refine JL.move .none rfl ?_
 refine JL.lenSL (R := R_Cell) ul_22 hb_0 .none rfl ?_
 refine JL.bin rfl rfl rfl .none rfl ?_
 refine JL.done hQ (JQ.go ?_)
 rcases ite_some hF with ⟨hc1, hF⟩ | ⟨hc1, hF⟩
 ·refine JC.cond_t (b := ((a.length : Int) != (b.length : Int))) rfl hc1 ?_
  refine JC.seq (JC.region (by rfl) ?_)
  intro hQ
  refine JL.assign .none rfl ?_
  refine JL.done hQ (JQ.go (JC.ret (JQ.ret_then ?_)))
  obtain rfl := Option.some.inj hF
  exact JQ.outS rfl (.tmp .nil) rfl
 ·refine JC.cond_f (b := ((a.length : Int) != (b.length : Int))) rfl hc1 ?_
  refine JC.skip (JQ.go (JC.seq (JC.seq (JC.region (by rfl) ?_))))
  intro hQ
  refine JL.assign .none rfl ?_
  refine JL.done hQ (JQ.go ?_)
  obtain ⟨r77, hlr77, hKr77⟩ := bind_some hF
  refine JC.join (fun (_ : Unit) H76 f bs gs => bs = [] ∧ gs = [] ∧ HSub H H76 ∧ Sum.inr () = r77) ?_ ?_
  ·skip
   refine JC.block (JC.loop hlr77 (fun (i_126 : Int) H127 f bs gs => f 0 = a_v0 ∧ f 1 = b_v0 ∧ f 5 = .int .i64 i_126 ∧ bs = [] ∧ gs = [] ∧ HSub H H127) ⟨rfl, rfl, rfl, rfl, rfl, (HSub.refl _)⟩ ?_)
   rintro i_126 x129 H127 f bs gs ⟨hf0, hf1, hf5, rfl, rfl, hs127⟩ hF hr128
   rw [F_law03_sameCells_s1] at hF
   refine (JC.norm (i := 0) hf0 (JC.norm (i := 1) hf1 (JC.norm (i := 5) hf5 ?_)))
   refine JC.seq (JC.seq (JC.region (by rfl) ?_))
   intro hQ
   refine JL.move .none rfl ?_
   refine JL.move .none rfl ?_
   refine JL.lenSL (R := R_Cell) ul_22 (SL.mono R_Cell_mono hs127 ha_0) .none rfl ?_
   refine JL.bin rfl rfl rfl .none rfl ?_
   refine JL.done hQ (JQ.go ?_)
   rcases ite_some hF with ⟨hc130, hF⟩ | ⟨hc130, hF⟩
   ·refine JC.cond_t (b := decide (i_126 < (a.length : Int))) rfl hc130 ?_
    refine JC.skip (JQ.go (JC.seq (JC.block (JC.seq (JC.draw (by rfl) mo_ (by kernel_rfl) ?_)))))
    intro hQ
    refine JL.move .none rfl ?_
    refine JL.move .none rfl ?_
    obtain ⟨y141, hy141, hF⟩ := bind_some hF
    refine JL.indexSL (R := R_Cell) sl_22 (SL.mono R_Cell_mono hs127 ha_0) rfl hy141 .none rfl ?_
    rintro b142 o143 cs144 hc145 - rfl
    refine JL.loadH 0 az_27 rfl hc145 rfl .none rfl ?_
    refine JL.move .none rfl ?_
    refine JL.move .none rfl ?_
    obtain ⟨y146, hy146, hF⟩ := bind_some hF
    refine JL.indexSL (R := R_Cell) sl_22 (SL.mono R_Cell_mono hs127 hb_0) rfl hy146 .none rfl ?_
    rintro b147 o148 cs149 hc150 - rfl
    refine JL.loadH 0 az_27 rfl hc150 rfl .none rfl ?_
    refine JL.neAgg eqg_27 rfl rfl (fun w => eqa_27 y141.Row y141.Col y146.Row y146.Col w) .none rfl ?_
    refine JL.doneQ hQ ?_
    refine JQ.go (JC.fresh (fun f => f 0 = a_v0 ∧ f 1 = b_v0 ∧ f 5 = .int .i64 i_126 ∧ f 25 = .bool (!((y141.Row == y146.Row) && (y141.Col == y146.Col)))) ⟨rfl, rfl, rfl, rfl⟩ ?_)
    rintro f ⟨hf0, hf1, hf5, hf25⟩
    refine (JC.norm (i := 0) hf0 (JC.norm (i := 1) hf1 (JC.norm (i := 5) hf5 (JC.norm (i := 25) hf25 ?_))))
    rcases ite_some hF with ⟨hc151, hF⟩ | ⟨hc151, hF⟩
    ·refine JC.cond_t (b := (!((y141.Row == y146.Row) && (y141.Col == y146.Col)))) rfl hc151 ?_
     refine JC.seq (JC.region (by rfl) ?_)
     intro hQ
     refine JL.assign .none rfl ?_
     refine JL.done hQ (JQ.go (JC.ret (JQ.ret_block (JQ.ret_then (JQ.ret_then (JQ.ret_block (JQ.ret_join (JQ.ret_then ?_))))))))
     obtain rfl := Option.some.inj hF
     have ehr128 := hr128 _ rfl
     subst ehr128
     have hF := hKr77
     try dsimp only at hF
     obtain rfl := Option.some.inj hF
     exact JQ.outS rfl (.tmp .nil) rfl
    ·refine JC.cond_f (b := (!((y141.Row == y146.Row) && (y141.Col == y146.Col)))) rfl hc151 ?_
     refine JC.skip (JQ.normal_block (JQ.go (JC.region (by rfl) ?_)))
     intro hQ
     refine JL.move .none rfl ?_
     refine JL.bin rfl rfl rfl .none rfl ?_
     refine JL.assign .none rfl ?_
     refine JL.done hQ ?_
     obtain rfl := Option.some.inj hF
     exact JQ.next rfl ⟨rfl, rfl, rfl, rfl, rfl, hs127⟩
   ·refine JC.cond_f (b := decide (i_126 < (a.length : Int))) rfl hc130 ?_
    refine JC.exit (JQ.exit_then (JQ.exit_then (JQ.exit_block ?_)))
    obtain rfl := Option.some.inj hF
    have ehr128 := hr128 _ rfl
    subst ehr128
    exact JQ.join () ⟨rfl, rfl, hs127, rfl⟩
  ·rintro _ H76 f bs gs ⟨rfl, rfl, hs76, rfl⟩
   have hF := hKr77
   try dsimp only at hF
   refine JQ.go (JC.seq (JC.region (by rfl) ?_))
   intro hQ
   refine JL.assign .none rfl ?_
   refine JL.done hQ (JQ.go (JC.ret ?_))
   obtain rfl := Option.some.inj hF
   exact JQ.outS rfl (.tmp .nil) rfl
end Go.Proofs.Ytflhjlgimihmgaa
end
section
set_option maxRecDepth 100000
set_option maxHeartbeats 40000000
namespace Go.Proofs.Ytflhjlgimihmgaa
open Go Go.RowKit Go.Dec
set_option linter.unusedVariables false
-- 41 ferrule/ferrulelaw03.same
def F_law03_same_s2 (n : Nat) (a : Lap) (b : Lap) (i_1642 : Int) : Int → Option (Int ⊕ ((Int ⊕ (Bool ⊕ Unit)) ⊕ Unit))
 | k_1917 => (geti a.Panels i_1642).bind fun y1921 => if decide (k_1917 < (y1921.Rows.length : Int)) = true then ((geti a.Panels i_1642).bind fun y1947 => (geti y1947.Rows k_1917).bind fun y1952 => (geti b.Panels i_1642).bind fun y1957 => (geti y1957.Rows k_1917).bind fun y1962 => if (!((y1952.Low == y1962.Low) && (y1952.High == y1962.High))) = true then (some (Sum.inr (Sum.inl (Sum.inr (Sum.inl false))))) else (some (Sum.inl (w64 (k_1917 + 1))))) else (some (Sum.inr (Sum.inr ())))
def F_law03_same_s1 (n : Nat) (a : Lap) (b : Lap) : Int → Option (Int ⊕ (Bool ⊕ Unit))
 | i_1642 => if decide (i_1642 < (a.Panels.length : Int)) = true then ((geti a.Panels i_1642).bind fun y1657 => (geti b.Panels i_1642).bind fun y1662 => if ((y1657.Rows.length : Int) != (y1662.Rows.length : Int)) = true then (some (Sum.inr (Sum.inl false))) else ((loopO n (F_law03_same_s2 n a b i_1642) 0).bind fun r1818 => match r1818 with | .inl o => some o | .inr _ => some (Sum.inl (w64 (i_1642 + 1))))) else (some (Sum.inr (Sum.inr ())))
def F_law03_same (n : Nat) (a : Lap) (b : Lap) : Option Bool :=
 (if ((a.Width != b.Width) || (a.Length != b.Length)) = true then (some true) else ((F_law03_sameCells n a.Faults b.Faults).bind fun y9 => some (!y9)) : Option Bool).bind fun p6 => (if p6 = true then (some true) else ((F_law03_sameCells n a.Flaws b.Flaws).bind fun y14 => some (!y14)) : Option Bool).bind fun p11 => if (p11 || ((a.Panels.length : Int) != (b.Panels.length : Int))) = true then (some false) else ((loopO n (F_law03_same_s1 n a b) 0).bind fun r993 => match r993 with | .inl o => some o | .inr _ => some true)
theorem c_law03_same (n : Nat) (H : Hp) (a : Lap) (a_v2 : Value) (ha_2 : SL H 2 R_Cell a_v2 a.Faults) (a_v3 : Value) (ha_3 : SL H 2 R_Cell a_v3 a.Flaws) (a_v4 : Value) (ha_4 : SL H 1 R_Panel a_v4 a.Panels) (b : Lap) (b_v2 : Value) (hb_2 : SL H 2 R_Cell b_v2 b.Faults) (b_v3 : Value) (hb_3 : SL H 2 R_Cell b_v3 b.Flaws) (b_v4 : Value) (hb_4 : SL H 1 R_Panel b_v4 b.Panels) (y : Bool) (hF : F_law03_same n a b = some y) : SC Try.prog 41 [.agg [.int .i64 a.Width, .int .i64 a.Length, a_v2, a_v3, a_v4].toArray, .agg [.int .i64 b.Width, .int .i64 b.Length, b_v2, b_v3, b_v4].toArray] (.bool y) H := by
 rw [F_law03_same] at hF
 refine SC.of (N := 96) Try.func41 rfl rfl rfl fun w => ?_
 refine JC.seq (JC.region (by rfl) ?_)
 intro hQ
 refine JL.box (cs := [.int .i64 a.Width, .int .i64 a.Length, a_v2, a_v3, a_v4]) rfl .none rfl ?_
 intro b1
 refine JL.box (cs := [.int .i64 b.Width, .int .i64 b.Length, b_v2, b_v3, b_v4]) rfl .none rfl ?_
 intro b2
 refine JL.assign .none rfl ?_
 refine JL.done hQ (JQ.go (JC.seq (JC.seq (JC.region (by rfl) ?_))))
 intro hQ
 refine JL.fieldAddr fo_25_0 rfl .none rfl ?_
 refine JL.loadOwn 1 az_3 rfl rfl rfl .none rfl ?_
 refine JL.fieldAddr fo_25_0 rfl .none rfl ?_
 refine JL.loadOwn 0 az_3 rfl rfl rfl .none rfl ?_
 refine JL.bin rfl rfl rfl .none rfl ?_
 refine JL.move .none rfl ?_
 refine JL.cut 6 (fun f => f 2 = .pointer (some ⟨b1, 0, none⟩) ∧ f 3 = .pointer (some ⟨b2, 0, none⟩) ∧ f 18 = .bool ((a.Width != b.Width) || (a.Length != b.Length))) ?_ ?_
 ·intro hJ3
  rcases bcases (a.Width != b.Width) with hc4 | hc4
  ·skip
   refine JL.skip (.bool rfl rfl rfl hc4) rfl ?_
   refine JL.skip (.bool rfl rfl rfl hc4) rfl ?_
   refine JL.skip (.bool rfl rfl rfl hc4) rfl ?_
   refine JL.skip (.bool rfl rfl rfl hc4) rfl ?_
   refine JL.skip (.bool rfl rfl rfl hc4) rfl ?_
   refine JL.pick_t (b := (a.Width != b.Width)) rfl hc4 .none rfl ?_
   exact hJ3 _ ⟨rfl, rfl, or_t hc4 rfl⟩
  ·skip
   refine JL.fieldAddr fo_25_1 rfl (.some rfl rfl rfl hc4) rfl ?_
   refine JL.loadOwn 1 az_3 rfl rfl rfl (.some rfl rfl rfl hc4) rfl ?_
   refine JL.fieldAddr fo_25_1 rfl (.some rfl rfl rfl hc4) rfl ?_
   refine JL.loadOwn 0 az_3 rfl rfl rfl (.some rfl rfl rfl hc4) rfl ?_
   refine JL.bin rfl rfl rfl (.some rfl rfl rfl hc4) rfl ?_
   refine JL.pick_f (b := (a.Width != b.Width)) rfl hc4 .none rfl ?_
   exact hJ3 _ ⟨rfl, rfl, or_f hc4 rfl⟩
 ·rintro f ⟨hf2, hf3, hf18⟩
  refine (JL.norm (i := 2) hf2 (JL.norm (i := 3) hf3 (JL.norm (i := 18) hf18 ?_)))
  refine JL.move .none rfl ?_
  obtain ⟨p6, hp6, hF⟩ := bind_some hF
  refine JL.cut 7 (fun f => f 2 = .pointer (some ⟨b1, 0, none⟩) ∧ f 3 = .pointer (some ⟨b2, 0, none⟩) ∧ f 26 = .bool p6) ?_ ?_
  ·intro hJ7
   rcases ite_some hp6 with ⟨hc8, hF⟩ | ⟨hc8, hF⟩
   ·skip
    refine JL.skip (.bool rfl rfl rfl hc8) rfl ?_
    refine JL.skip (.bool rfl rfl rfl hc8) rfl ?_
    refine JL.skip (.bool rfl rfl rfl hc8) rfl ?_
    refine JL.skip (.bool rfl rfl rfl hc8) rfl ?_
    refine JL.skip (.bool rfl rfl rfl hc8) rfl ?_
    refine JL.skip (.bool rfl rfl rfl hc8) rfl ?_
    refine JL.pick_t (b := ((a.Width != b.Width) || (a.Length != b.Length))) rfl hc8 .none rfl ?_
    obtain rfl := Option.some.inj hF
    exact hJ7 _ ⟨rfl, rfl, rfl⟩
   ·skip
    refine JL.fieldAddr fo_25_2 rfl (.some rfl rfl rfl hc8) rfl ?_
    refine JL.loadOwn 1 az_22 rfl rfl rfl (.some rfl rfl rfl hc8) rfl ?_
    refine JL.fieldAddr fo_25_2 rfl (.some rfl rfl rfl hc8) rfl ?_
    refine JL.loadOwn 0 az_22 rfl rfl rfl (.some rfl rfl rfl hc8) rfl ?_
    obtain ⟨y9, hy9, hF⟩ := bind_some hF
    refine JL.callS (c_law03_sameCells n H a.Faults a_v2 ha_2 b.Faults b_v2 hb_2 y9 hy9) rfl en_40 (.some rfl rfl rfl hc8) rfl ?_
    refine JL.not rfl (.some rfl rfl rfl hc8) rfl ?_
    refine JL.pick_f (b := ((a.Width != b.Width) || (a.Length != b.Length))) rfl hc8 .none rfl ?_
    obtain rfl := Option.some.inj hF
    exact hJ7 _ ⟨rfl, rfl, rfl⟩
  ·rintro f ⟨hf2, hf3, hf26⟩
   refine (JL.norm (i := 2) hf2 (JL.norm (i := 3) hf3 (JL.norm (i := 26) hf26 ?_)))
   refine JL.move .none rfl ?_
   obtain ⟨p11, hp11, hF⟩ := bind_some hF
   refine JL.cut 7 (fun f => f 2 = .pointer (some ⟨b1, 0, none⟩) ∧ f 3 = .pointer (some ⟨b2, 0, none⟩) ∧ f 34 = .bool p11) ?_ ?_
   ·intro hJ12
    rcases ite_some hp11 with ⟨hc13, hF⟩ | ⟨hc13, hF⟩
    ·skip
     refine JL.skip (.bool rfl rfl rfl hc13) rfl ?_
     refine JL.skip (.bool rfl rfl rfl hc13) rfl ?_
     refine JL.skip (.bool rfl rfl rfl hc13) rfl ?_
     refine JL.skip (.bool rfl rfl rfl hc13) rfl ?_
     refine JL.skip (.bool rfl rfl rfl hc13) rfl ?_
     refine JL.skip (.bool rfl rfl rfl hc13) rfl ?_
     refine JL.pick_t (b := p6) rfl hc13 .none rfl ?_
     obtain rfl := Option.some.inj hF
     exact hJ12 _ ⟨rfl, rfl, rfl⟩
    ·skip
     refine JL.fieldAddr fo_25_3 rfl (.some rfl rfl rfl hc13) rfl ?_
     refine JL.loadOwn 1 az_22 rfl rfl rfl (.some rfl rfl rfl hc13) rfl ?_
     refine JL.fieldAddr fo_25_3 rfl (.some rfl rfl rfl hc13) rfl ?_
     refine JL.loadOwn 0 az_22 rfl rfl rfl (.some rfl rfl rfl hc13) rfl ?_
     obtain ⟨y14, hy14, hF⟩ := bind_some hF
     refine JL.callS (c_law03_sameCells n H a.Flaws a_v3 ha_3 b.Flaws b_v3 hb_3 y14 hy14) rfl en_40 (.some rfl rfl rfl hc13) rfl ?_
     refine JL.not rfl (.some rfl rfl rfl hc13) rfl ?_
     refine JL.pick_f (b := p6) rfl hc13 .none rfl ?_
     obtain rfl := Option.some.inj hF
     exact hJ12 _ ⟨rfl, rfl, rfl⟩
   ·rintro f ⟨hf2, hf3, hf34⟩
    refine (JL.norm (i := 2) hf2 (JL.norm (i := 3) hf3 (JL.norm (i := 34) hf34 ?_)))
    refine JL.move .none rfl ?_
    refine JL.cut 8 (fun f => f 2 = .pointer (some ⟨b1, 0, none⟩) ∧ f 3 = .pointer (some ⟨b2, 0, none⟩) ∧ f 43 = .bool (p11 || ((a.Panels.length : Int) != (b.Panels.length : Int)))) ?_ ?_
    ·intro hJ15
     rcases bcases p11 with hc16 | hc16
     ·skip
      refine JL.skip (.bool rfl rfl rfl hc16) rfl ?_
      refine JL.skip (.bool rfl rfl rfl hc16) rfl ?_
      refine JL.skip (.bool rfl rfl rfl hc16) rfl ?_
      refine JL.skip (.bool rfl rfl rfl hc16) rfl ?_
      refine JL.skip (.bool rfl rfl rfl hc16) rfl ?_
      refine JL.skip (.bool rfl rfl rfl hc16) rfl ?_
      refine JL.skip (.bool rfl rfl rfl hc16) rfl ?_
      refine JL.pick_t (b := p11) rfl hc16 .none rfl ?_
      exact hJ15 _ ⟨rfl, rfl, or_t hc16 rfl⟩
     ·skip
      refine JL.fieldAddr fo_25_4 rfl (.some rfl rfl rfl hc16) rfl ?_
      refine JL.loadOwn 1 az_23 rfl rfl rfl (.some rfl rfl rfl hc16) rfl ?_
      refine JL.lenSL (R := R_Panel) ul_23 ha_4 (.some rfl rfl rfl hc16) rfl ?_
      refine JL.fieldAddr fo_25_4 rfl (.some rfl rfl rfl hc16) rfl ?_
      refine JL.loadOwn 0 az_23 rfl rfl rfl (.some rfl rfl rfl hc16) rfl ?_
      refine JL.lenSL (R := R_Panel) ul_23 hb_4 (.some rfl rfl rfl hc16) rfl ?_
      refine JL.bin rfl rfl rfl (.some rfl rfl rfl hc16) rfl ?_
      refine JL.pick_f (b := p11) rfl hc16 .none rfl ?_
      exact hJ15 _ ⟨rfl, rfl, or_f hc16 rfl⟩
    ·rintro f ⟨hf2, hf3, hf43⟩
     refine (JL.norm (i := 2) hf2 (JL.norm (i := 3) hf3 (JL.norm (i := 43) hf43 ?_)))
     refine JL.done hQ (JQ.go ?_)
     rcases ite_some hF with ⟨hc17, hF⟩ | ⟨hc17, hF⟩
     ·refine JC.cond_t (b := (p11 || ((a.Panels.length : Int) != (b.Panels.length : Int)))) rfl hc17 ?_
      refine JC.seq (JC.region (by rfl) ?_)
      intro hQ
      refine JL.assign .none rfl ?_
      refine JL.done hQ (JQ.go (JC.ret (JQ.ret_then ?_)))
      obtain rfl := Option.some.inj hF
      exact JQ.outS rfl (.tmp .nil) rfl
     ·refine JC.cond_f (b := (p11 || ((a.Panels.length : Int) != (b.Panels.length : Int)))) rfl hc17 ?_
      refine JC.skip (JQ.go (JC.seq (JC.seq (JC.region (by rfl) ?_))))
      intro hQ
      refine JL.assign .none rfl ?_
      refine JL.done hQ (JQ.go ?_)
      obtain ⟨r993, hlr993, hKr993⟩ := bind_some hF
      refine JC.join (fun (_ : Unit) H992 f bs gs => bs = [] ∧ gs = [] ∧ HSub H H992 ∧ Sum.inr () = r993) ?_ ?_
      ·skip
       refine JC.block (JC.loop hlr993 (fun (i_1642 : Int) H1643 f bs gs => f 2 = .pointer (some ⟨b1, 0, none⟩) ∧ f 3 = .pointer (some ⟨b2, 0, none⟩) ∧ f 5 = .int .i64 i_1642 ∧ bs = [(b2, .cells [.int .i64 b.Width, .int .i64 b.Length, b_v2, b_v3, b_v4].toArray 25), (b1, .cells [.int .i64 a.Width, .int .i64 a.Length, a_v2, a_v3, a_v4].toArray 25)] ∧ gs = [] ∧ HSub H H1643) ⟨rfl, rfl, rfl, rfl, rfl, (HSub.refl _)⟩ ?_)
       rintro i_1642 x1645 H1643 f bs gs ⟨hf2, hf3, hf5, rfl, rfl, hs1643⟩ hF hr1644
       rw [F_law03_same_s1] at hF
       refine (JC.norm (i := 2) hf2 (JC.norm (i := 3) hf3 (JC.norm (i := 5) hf5 ?_)))
       refine JC.seq (JC.seq (JC.region (by rfl) ?_))
       intro hQ
       refine JL.move .none rfl ?_
       refine JL.fieldAddr fo_25_4 rfl .none rfl ?_
       refine JL.loadOwn 1 az_23 rfl rfl rfl .none rfl ?_
       refine JL.lenSL (R := R_Panel) ul_23 (SL.mono R_Panel_mono hs1643 ha_4) .none rfl ?_
       refine JL.bin rfl rfl rfl .none rfl ?_
       refine JL.done hQ (JQ.go ?_)
       rcases ite_some hF with ⟨hc1646, hF⟩ | ⟨hc1646, hF⟩
       ·refine JC.cond_t (b := decide (i_1642 < (a.Panels.length : Int))) rfl hc1646 ?_
        refine JC.skip (JQ.go (JC.seq (JC.block (JC.seq (JC.seq (JC.draw (by rfl) mo_ (by kernel_rfl) ?_))))))
        intro hQ
        refine JL.fieldAddr fo_25_4 rfl .none rfl ?_
        refine JL.loadOwn 1 az_23 rfl rfl rfl .none rfl ?_
        refine JL.move .none rfl ?_
        obtain ⟨y1657, hy1657, hF⟩ := bind_some hF
        refine JL.indexSL (R := R_Panel) sl_23 (SL.mono R_Panel_mono hs1643 ha_4) rfl hy1657 .none rfl ?_
        rintro b1658 o1659 cs1660 hc1661 - ⟨y1657_v0, rfl, hy1657_0⟩
        refine JL.fieldAddr fo_30_0 rfl .none rfl ?_
        refine JL.loadH 0 az_28 rfl hc1661 rfl .none rfl ?_
        refine JL.lenSL (R := R_Span) ul_28 hy1657_0 .none rfl ?_
        refine JL.fieldAddr fo_25_4 rfl .none rfl ?_
        refine JL.loadOwn 0 az_23 rfl rfl rfl .none rfl ?_
        refine JL.move .none rfl ?_
        obtain ⟨y1662, hy1662, hF⟩ := bind_some hF
        refine JL.indexSL (R := R_Panel) sl_23 (SL.mono R_Panel_mono hs1643 hb_4) rfl hy1662 .none rfl ?_
        rintro b1663 o1664 cs1665 hc1666 - ⟨y1662_v0, rfl, hy1662_0⟩
        refine JL.fieldAddr fo_30_0 rfl .none rfl ?_
        refine JL.loadH 0 az_28 rfl hc1666 rfl .none rfl ?_
        refine JL.lenSL (R := R_Span) ul_28 hy1662_0 .none rfl ?_
        refine JL.bin rfl rfl rfl .none rfl ?_
        refine JL.doneQ hQ ?_
        refine JQ.go (JC.fresh (fun f => f 2 = .pointer (some ⟨b1, 0, none⟩) ∧ f 3 = .pointer (some ⟨b2, 0, none⟩) ∧ f 5 = .int .i64 i_1642 ∧ f 65 = .bool ((y1657.Rows.length : Int) != (y1662.Rows.length : Int))) ⟨rfl, rfl, rfl, rfl⟩ ?_)
        rintro f ⟨hf2, hf3, hf5, hf65⟩
        refine (JC.norm (i := 2) hf2 (JC.norm (i := 3) hf3 (JC.norm (i := 5) hf5 (JC.norm (i := 65) hf65 ?_))))
        rcases ite_some hF with ⟨hc1667, hF⟩ | ⟨hc1667, hF⟩
        ·refine JC.cond_t (b := ((y1657.Rows.length : Int) != (y1662.Rows.length : Int))) rfl hc1667 ?_
         refine JC.seq (JC.region (by rfl) ?_)
         intro hQ
         refine JL.assign .none rfl ?_
         refine JL.done hQ (JQ.go (JC.ret (JQ.ret_then (JQ.ret_block (JQ.ret_then (JQ.ret_then (JQ.ret_block (JQ.ret_join (JQ.ret_then ?_)))))))))
         obtain rfl := Option.some.inj hF
         have ehr1644 := hr1644 _ rfl
         subst ehr1644
         have hF := hKr993
         try dsimp only at hF
         obtain rfl := Option.some.inj hF
         exact JQ.outS rfl (.tmp .nil) rfl
        ·refine JC.cond_f (b := ((y1657.Rows.length : Int) != (y1662.Rows.length : Int))) rfl hc1667 ?_
         refine JC.skip (JQ.go (JC.seq (JC.region (by rfl) ?_)))
         intro hQ
         refine JL.assign .none rfl ?_
         refine JL.done hQ (JQ.go ?_)
         obtain ⟨r1818, hlr1818, hKr1818⟩ := bind_some hF
         refine JC.join (fun (_ : Unit) H1817 f bs gs => f 2 = .pointer (some ⟨b1, 0, none⟩) ∧ f 3 = .pointer (some ⟨b2, 0, none⟩) ∧ f 5 = .int .i64 i_1642 ∧ bs = [(b2, .cells [.int .i64 b.Width, .int .i64 b.Length, b_v2, b_v3, b_v4].toArray 25), (b1, .cells [.int .i64 a.Width, .int .i64 a.Length, a_v2, a_v3, a_v4].toArray 25)] ∧ gs = [] ∧ HSub H1643 H1817 ∧ Sum.inr () = r1818) ?_ ?_
         ·skip
          refine JC.block (JC.loop hlr1818 (fun (k_1917 : Int) H1918 f bs gs => f 2 = .pointer (some ⟨b1, 0, none⟩) ∧ f 3 = .pointer (some ⟨b2, 0, none⟩) ∧ f 5 = .int .i64 i_1642 ∧ f 6 = .int .i64 k_1917 ∧ bs = [(b2, .cells [.int .i64 b.Width, .int .i64 b.Length, b_v2, b_v3, b_v4].toArray 25), (b1, .cells [.int .i64 a.Width, .int .i64 a.Length, a_v2, a_v3, a_v4].toArray 25)] ∧ gs = [] ∧ HSub H1643 H1918) ⟨rfl, rfl, rfl, rfl, rfl, rfl, (HSub.refl _)⟩ ?_)
          rintro k_1917 x1920 H1918 f bs gs ⟨hf2, hf3, hf5, hf6, rfl, rfl, hs1918⟩ hF hr1919
          rw [F_law03_same_s2] at hF
          refine (JC.norm (i := 2) hf2 (JC.norm (i := 3) hf3 (JC.norm (i := 5) hf5 (JC.norm (i := 6) hf6 ?_))))
          refine JC.seq (JC.seq (JC.region (by rfl) ?_))
          intro hQ
          refine JL.move .none rfl ?_
          refine JL.fieldAddr fo_25_4 rfl .none rfl ?_
          refine JL.loadOwn 1 az_23 rfl rfl rfl .none rfl ?_
          refine JL.move .none rfl ?_
          obtain ⟨y1921, hy1921, hF⟩ := bind_some hF
          refine JL.indexSL (R := R_Panel) sl_23 (SL.mono R_Panel_mono (HSub.trans hs1643 hs1918) ha_4) rfl hy1921 .none rfl ?_
          rintro b1922 o1923 cs1924 hc1925 - ⟨y1921_v0, rfl, hy1921_0⟩
          refine JL.fieldAddr fo_30_0 rfl .none rfl ?_
          refine JL.loadH 0 az_28 rfl hc1925 rfl .none rfl ?_
          refine JL.lenSL (R := R_Span) ul_28 hy1921_0 .none rfl ?_
          refine JL.bin rfl rfl rfl .none rfl ?_
          refine JL.done hQ (JQ.go ?_)
          rcases ite_some hF with ⟨hc1926, hF⟩ | ⟨hc1926, hF⟩
          ·refine JC.cond_t (b := decide (k_1917 < (y1921.Rows.length : Int))) rfl hc1926 ?_
           refine JC.skip (JQ.go (JC.seq (JC.block (JC.seq (JC.draw (by rfl) mo_ (by kernel_rfl) ?_)))))
           intro hQ
           refine JL.fieldAddr fo_25_4 rfl .none rfl ?_
           refine JL.loadOwn 1 az_23 rfl rfl rfl .none rfl ?_
           refine JL.move .none rfl ?_
           obtain ⟨y1947, hy1947, hF⟩ := bind_some hF
           refine JL.indexSL (R := R_Panel) sl_23 (SL.mono R_Panel_mono (HSub.trans hs1643 hs1918) ha_4) rfl hy1947 .none rfl ?_
           rintro b1948 o1949 cs1950 hc1951 - ⟨y1947_v0, rfl, hy1947_0⟩
           refine JL.fieldAddr fo_30_0 rfl .none rfl ?_
           refine JL.loadH 0 az_28 rfl hc1951 rfl .none rfl ?_
           refine JL.move .none rfl ?_
           obtain ⟨y1952, hy1952, hF⟩ := bind_some hF
           refine JL.indexSL (R := R_Span) sl_28 hy1947_0 rfl hy1952 .none rfl ?_
           rintro b1953 o1954 cs1955 hc1956 - rfl
           refine JL.loadH 0 az_46 rfl hc1956 rfl .none rfl ?_
           refine JL.fieldAddr fo_25_4 rfl .none rfl ?_
           refine JL.loadOwn 0 az_23 rfl rfl rfl .none rfl ?_
           refine JL.move .none rfl ?_
           obtain ⟨y1957, hy1957, hF⟩ := bind_some hF
           refine JL.indexSL (R := R_Panel) sl_23 (SL.mono R_Panel_mono (HSub.trans hs1643 hs1918) hb_4) rfl hy1957 .none rfl ?_
           rintro b1958 o1959 cs1960 hc1961 - ⟨y1957_v0, rfl, hy1957_0⟩
           refine JL.fieldAddr fo_30_0 rfl .none rfl ?_
           refine JL.loadH 0 az_28 rfl hc1961 rfl .none rfl ?_
           refine JL.move .none rfl ?_
           obtain ⟨y1962, hy1962, hF⟩ := bind_some hF
           refine JL.indexSL (R := R_Span) sl_28 hy1957_0 rfl hy1962 .none rfl ?_
           rintro b1963 o1964 cs1965 hc1966 - rfl
           refine JL.loadH 0 az_46 rfl hc1966 rfl .none rfl ?_
           refine JL.neAgg eqg_46 rfl rfl (fun w => eqa_46 y1952.Low y1952.High y1962.Low y1962.High w) .none rfl ?_
           refine JL.doneQ hQ ?_
           refine JQ.go (JC.fresh (fun f => f 2 = .pointer (some ⟨b1, 0, none⟩) ∧ f 3 = .pointer (some ⟨b2, 0, none⟩) ∧ f 5 = .int .i64 i_1642 ∧ f 6 = .int .i64 k_1917 ∧ f 95 = .bool (!((y1952.Low == y1962.Low) && (y1952.High == y1962.High)))) ⟨rfl, rfl, rfl, rfl, rfl⟩ ?_)
           rintro f ⟨hf2, hf3, hf5, hf6, hf95⟩
           refine (JC.norm (i := 2) hf2 (JC.norm (i := 3) hf3 (JC.norm (i := 5) hf5 (JC.norm (i := 6) hf6 (JC.norm (i := 95) hf95 ?_)))))
           rcases ite_some hF with ⟨hc1967, hF⟩ | ⟨hc1967, hF⟩
           ·refine JC.cond_t (b := (!((y1952.Low == y1962.Low) && (y1952.High == y1962.High)))) rfl hc1967 ?_
            refine JC.seq (JC.region (by rfl) ?_)
            intro hQ
            refine JL.assign .none rfl ?_
            refine JL.done hQ (JQ.go (JC.ret (JQ.ret_block (JQ.ret_then (JQ.ret_then (JQ.ret_block (JQ.ret_join (JQ.ret_block (JQ.ret_then (JQ.ret_then (JQ.ret_block (JQ.ret_join (JQ.ret_then ?_)))))))))))))
            obtain rfl := Option.some.inj hF
            have ehr1919 := hr1919 _ rfl
            subst ehr1919
            have hF := hKr1818
            try dsimp only at hF
            obtain rfl := Option.some.inj hF
            have ehr1644 := hr1644 _ rfl
            subst ehr1644
            have hF := hKr993
            try dsimp only at hF
            obtain rfl := Option.some.inj hF
            exact JQ.outS rfl (.tmp .nil) rfl
           ·refine JC.cond_f (b := (!((y1952.Low == y1962.Low) && (y1952.High == y1962.High)))) rfl hc1967 ?_
            refine JC.skip (JQ.normal_block (JQ.go (JC.region (by rfl) ?_)))
            intro hQ
            refine JL.move .none rfl ?_
            refine JL.bin rfl rfl rfl .none rfl ?_
            refine JL.assign .none rfl ?_
            refine JL.done hQ ?_
            obtain rfl := Option.some.inj hF
            exact JQ.next rfl ⟨rfl, rfl, rfl, rfl, rfl, rfl, hs1918⟩
          ·refine JC.cond_f (b := decide (k_1917 < (y1921.Rows.length : Int))) rfl hc1926 ?_
           refine JC.exit (JQ.exit_then (JQ.exit_then (JQ.exit_block ?_)))
           obtain rfl := Option.some.inj hF
           have ehr1919 := hr1919 _ rfl
           subst ehr1919
           exact JQ.join () ⟨rfl, rfl, rfl, rfl, rfl, hs1918, rfl⟩
         ·rintro _ H1817 f bs gs ⟨hf2, hf3, hf5, rfl, rfl, hs1817, rfl⟩
          have hF := hKr1818
          try dsimp only at hF
          refine (JQ.norm (i := 2) hf2 (JQ.norm (i := 3) hf3 (JQ.norm (i := 5) hf5 ?_)))
          refine JQ.normal_block (JQ.go (JC.region (by rfl) ?_))
          intro hQ
          refine JL.move .none rfl ?_
          refine JL.bin rfl rfl rfl .none rfl ?_
          refine JL.assign .none rfl ?_
          refine JL.done hQ ?_
          obtain rfl := Option.some.inj hF
          exact JQ.next rfl ⟨rfl, rfl, rfl, rfl, rfl, (HSub.trans hs1643 hs1817)⟩
       ·refine JC.cond_f (b := decide (i_1642 < (a.Panels.length : Int))) rfl hc1646 ?_
        refine JC.exit (JQ.exit_then (JQ.exit_then (JQ.exit_block ?_)))
        obtain rfl := Option.some.inj hF
        have ehr1644 := hr1644 _ rfl
        subst ehr1644
        refine JQ.mask [false, false] [] ?_
        exact JQ.join () ⟨rfl, rfl, hs1643, rfl⟩
      ·rintro _ H992 f bs gs ⟨rfl, rfl, hs992, rfl⟩
       have hF := hKr993
       try dsimp only at hF
       refine JQ.go (JC.seq (JC.region (by rfl) ?_))
       intro hQ
       refine JL.assign .none rfl ?_
       refine JL.done hQ (JQ.go (JC.ret ?_))
       obtain rfl := Option.some.inj hF
       exact JQ.outS rfl (.tmp .nil) rfl
end Go.Proofs.Ytflhjlgimihmgaa
end
section
namespace Go.Proofs.Ytflhjlgimihmgaa
open Go Go.RowKit Go.Dec
section
variable {n : Nat}
theorem p_anyPlace (hn : 1000000 ≤ n) (l : List Place) (hl : l.length ≤ 1000) : ∃ b, F_slices_ContainsFunc___api_Place_api_Place_ n l (fun a0_ => F_lays_Needs_1 n a0_) = some b ∧ (b = false ↔ ∀ p ∈ l, IsPl p) := by
  rw [F_slices_ContainsFunc___api_Place_api_Place_, F_slices_IndexFunc___api_Place_api_Place_]
  obtain ⟨r, hr', hpost⟩ := loop_list (step := F_slices_IndexFunc___api_Place_api_Place__s1 n l (fun a0_ => F_lays_Needs_1 n a0_)) l (fun i (_ : Unit) => (i : Int)) (fun i _ => ∀ j x, j < i → l[j]? = some x → IsPl x)
    (fun r => match r with | .inl v => 0 ≤ v ∧ ¬ ∀ p ∈ l, IsPl p | .inr _ => ∀ p ∈ l, IsPl p) (n := n) () (by intro j x h; omega) (fun i x _ hx hI => by
      have hi := (List.getElem?_eq_some_iff.1 hx).1
      obtain ⟨b, e, q⟩ := p_lIsPlace (n := n) x
      rw [F_slices_IndexFunc___api_Place_api_Place__s1, dlt, decide_eq_true hi, geti_nat, hx]
      simp only [if_true, Option.bind_some, F_lays_Needs_1, e, w64_nat (show i ≤ 4611686018427387904 by omega)]
      cases b with
      | true =>
        refine .inl ⟨(), rfl, fun j y hj hy => ?_⟩
        rcases Nat.lt_or_ge j i with h | h
        · exact hI j y h hy
        · obtain rfl : j = i := by omega
          rw [hx] at hy; cases hy; exact q.1 rfl
      | false => exact .inr ⟨.inl (i : Int), rfl, Int.natCast_nonneg _, fun h => by have := q.2 (h x (List.mem_of_getElem? hx)); cases this⟩) (fun _ hI => by
      refine ⟨.inr (), by rw [F_slices_IndexFunc___api_Place_api_Place__s1, dlt]; simp, fun p hp => ?_⟩
      obtain ⟨j, hj⟩ := List.mem_iff_getElem?.1 hp
      exact hI j p (List.getElem?_eq_some_iff.1 hj).1 hj) (by omega)
  rw [show ((0 : Int)) = ((0 : Nat) : Int) from rfl, hr']
  cases r with
  | inl v => exact ⟨_, rfl, iff_of_false (by rw [show ((0 : Nat) : Int) = 0 from rfl, decide_eq_true hpost.1]; decide) hpost.2⟩
  | inr u => exact ⟨_, rfl, iff_of_true (by decide) hpost⟩
/-- given that it fits in some rows, it fits in j rows just if its last row is one of them -/
theorem fits_rows {W L j : Int} {bad : Int → Int → Prop} {rs : List Span} {pl : Place} (hR : VPn ⟨rs⟩) (h : Fits W L bad rs pl) : Fits W j bad rs pl ↔ pl.Row + rs.length ≤ j := by
  obtain ⟨hn, hr, _⟩ := hR
  simp only at hn hr
  constructor
  · intro hj
    have hlt : rs.length - 1 < rs.length := by omega
    have hs := hr rs[rs.length - 1] (List.getElem_mem hlt)
    have := (hj (pl.Row + ((rs.length - 1 : Nat) : Int)) (pl.Col + rs[rs.length - 1].Low) ⟨rs.length - 1, _, List.getElem?_eq_getElem hlt, rfl, Int.le_refl _, by omega⟩).1
    omega
  · rintro hj r c ⟨k, s, h1, h2, h3⟩
    have hk := (List.getElem?_eq_some_iff.1 h1).1
    exact ⟨by omega, (h r c ⟨k, s, h1, h2, h3⟩).2⟩
theorem rowsT_len (p : Panel) (t : Int) : (rowsT p t).length = p.Rows.length := by
  unfold rowsT
  split
  · rfl
  · simp
theorem p_NeedsLoop (hn : 1000000 ≤ n) {s : Lap} (hv : VL s) (lay : List Place) (hlen : lay.length = s.Panels.length) (hpl : ∀ p ∈ lay, IsPl p) : ∀ (m i : Nat) (need : Int) (tk : List Int) (out : List Place) (n' : Nat), i + m = lay.length → (0 ≤ need ∧ need ≤ s.Length) → TK tk → out.length = i → m < n' →
    ∃ r, loopO n' (F_lays_Needs_s1 n s lay) (need, (i : Int), tk, out) = some r ∧ (match r with | .inl k => k = (0, 3) ∧ ¬ LayIn s.Width s.Length (badT tk) (s.Panels.drop i) (lay.drop i) | .inr k => (need ≤ k ∧ k ≤ s.Length) ∧ ∀ j, need ≤ j → (LayIn s.Width j (badT tk) (s.Panels.drop i) (lay.drop i) ↔ k ≤ j)) := by
  have hL := hv.l
  have hnp := hv.np
  intro m
  induction m with
  | zero =>
    intro i need tk out n' hi h0 hT ho hn'
    obtain rfl : i = lay.length := by omega
    refine ⟨.inr need, loop_done (by rw [F_lays_Needs_s1, dlt]; simp) hn', ⟨Int.le_refl _, h0.2⟩, fun j hj => ?_⟩
    rw [List.drop_length, hlen, List.drop_length]
    exact iff_of_true trivial hj
  | succ m ih =>
    intro i need tk out n' hi h0 hT ho hn'
    obtain ⟨n', rfl⟩ : ∃ k, n' = k + 1 := ⟨n' - 1, by omega⟩
    obtain ⟨pl, hp⟩ : ∃ p, lay[i]? = some p := ⟨_, List.getElem?_eq_getElem (by omega)⟩
    obtain ⟨pa, hpa⟩ : ∃ p, s.Panels[i]? = some p := ⟨_, List.getElem?_eq_getElem (by omega)⟩
    have hvp := hv.p pa (List.mem_of_getElem? hpa)
    have hpp := hpl pl (List.mem_of_getElem? hp)
    have hR := hvp.turn pl.Turned
    obtain ⟨y, hy, h⟩ := p_put hn hv (m := s.Length) ⟨by omega, by omega⟩ hT out (by omega) hpa hpp.ok ⟨hpp.1.2, hpp.2.1.2⟩
    rw [loopO_succ, F_lays_Needs_s1, dlt, decide_eq_true (show i < lay.length by omega), geti_nat, geti_nat, hpa, hp]
    simp only [if_true, Option.bind_some, hy]
    rw [getElem_drop_cons hpa, getElem_drop_cons hp]
    rcases h with ⟨h1, h2, h3, h4, h5⟩ | ⟨h1, h2⟩
    · rw [h1]
      simp only [Bool.not_true, Bool.false_eq_true, if_false, w64_nat (show i ≤ 4611686018427387904 by omega)]
      have hfr := (fits_rows hR h2 (j := s.Length)).1 h2
      rw [rowsT_len] at hfr
      have hn4 := hvp.n
      have hr0 := hpp.1
      rw [w64_id (show -9223372036854775808 ≤ pl.Row + (pa.Rows.length : Int) by omega) (by omega)]
      obtain ⟨r', hr', h'⟩ := ih (i + 1) (max need (pl.Row + (pa.Rows.length : Int))) y.2.1 y.2.2 n' (by omega) ⟨by omega, by omega⟩ h3 (by rw [h4, List.length_append]; simp [ho]) (by omega)
      refine ⟨r', hr', ?_⟩
      have conv : ∀ j, LayIn s.Width j (badT y.2.1) (s.Panels.drop (i + 1)) (lay.drop (i + 1)) ↔ LayIn s.Width j (fun r c => badT tk r c ∨ cov (rowsT pa pl.Turned) pl r c) (s.Panels.drop (i + 1)) (lay.drop (i + 1)) := fun j => LayIn.congr h5
      have fit : ∀ j, Fits s.Width j (badT tk) (rowsT pa pl.Turned) pl ↔ pl.Row + (pa.Rows.length : Int) ≤ j := fun j => by
        rw [fits_rows hR h2, rowsT_len]
      cases r' with
      | inl k' =>
        obtain ⟨e1, hno⟩ := h'
        exact ⟨e1, fun hLay => hno ((conv _).2 hLay.2.2)⟩
      | inr k' =>
        obtain ⟨⟨g1, g2⟩, g3⟩ := h'
        refine ⟨⟨by omega, g2⟩, fun j hj => ?_⟩
        constructor
        · intro hLay
          have k1 := (fit j).1 hLay.2.1
          exact (g3 j (by omega)).1 ((conv j).2 hLay.2.2)
        · intro k1
          exact ⟨hpp.ok, (fit j).2 (by omega), (conv j).1 ((g3 j (by omega)).2 k1)⟩
    · rw [h1]
      exact ⟨.inl (0, 3), rfl, rfl, fun hLay => h2 hLay.2.1⟩
/-- both say the same of a lay -/
theorem p_Needs (hn : 2000000 ≤ n) {s : Lap} (hv : VL s) (lay : List Place) (hlay : lay.length ≤ 20) : ∃ y, F_lays_Needs n s lay = some y ∧ F_ref03_Needs n s lay = some y := by
  have hn1 : 1000000 ≤ n := by omega
  have hL := hv.l
  have hnp := hv.np
  have hfa := hv.fa.2.2
  have place : ∃ r, loopO n (F_ref03_Needs_s1 n lay) 0 = some r ∧ (match r with | .inl o => o = (0, 1) ∧ ¬ ∀ x ∈ lay, IsPl x | .inr _ => ∀ x ∈ lay, IsPl x) := by
    refine loop_list (step := F_ref03_Needs_s1 n lay) lay (fun i (_ : Unit) => (i : Int)) (fun i _ => ∀ j x, j < i → lay[j]? = some x → IsPl x)
      (fun r => match r with | .inl o => o = (0, 1) ∧ ¬ ∀ x ∈ lay, IsPl x | .inr _ => ∀ x ∈ lay, IsPl x) (n := n) () (by intro j x h; omega) (fun i x _ hx hI => ?_) (fun _ hI => ?_) (by omega)
    · have hi := (List.getElem?_eq_some_iff.1 hx).1
      obtain ⟨b, e, q⟩ := p_IsPlace (n := n) x
      rw [F_ref03_Needs_s1, dlt, decide_eq_true hi, geti_nat, hx]
      simp only [if_true, Option.bind_some, e, w64_nat (show i ≤ 4611686018427387904 by omega)]
      cases b with
      | true =>
        refine .inl ⟨(), rfl, fun j y hj hy => ?_⟩
        rcases Nat.lt_or_ge j i with h | h
        · exact hI j y h hy
        · obtain rfl : j = i := by omega
          rw [hx] at hy; cases hy; exact q.1 rfl
      | false => exact .inr ⟨.inl (0, 1), rfl, rfl, fun h => by have := q.2 (h x (List.mem_of_getElem? hx)); cases this⟩
    · refine ⟨.inr (), by rw [F_ref03_Needs_s1, dlt]; simp, fun p hp => ?_⟩
      obtain ⟨j, hj⟩ := List.mem_iff_getElem?.1 hp
      exact hI j p (List.getElem?_eq_some_iff.1 hj).1 hj
  obtain ⟨r, hr, hpost⟩ := place
  obtain ⟨b, eb, qb⟩ := p_anyPlace hn1 lay (by omega)
  rw [F_lays_Needs, F_ref03_Needs, p_LCheck0 hn1 hv, p_Check0 hn1 hv]
  simp only [Option.bind_some, eb, hr, bne_self_eq_false, Bool.false_eq_true, if_false]
  cases r with
  | inl o =>
    obtain ⟨rfl, hno⟩ := hpost
    refine ⟨(0, 1), ?_, rfl⟩
    have : b = true := by
      cases b with
      | true => rfl
      | false => exact absurd (qb.1 rfl) hno
    subst this
    cases ((lay.length : Int) != (s.Panels.length : Int)) <;> rfl
  | inr u =>
    simp only at hpost
    have : b = false := qb.2 hpost
    subst this
    by_cases hlen : lay.length = s.Panels.length
    · have e1 : ((lay.length : Int) != (s.Panels.length : Int)) = false := by simp; omega
      rw [e1]
      simp only [Bool.false_eq_true, if_false, Option.bind_some]
      obtain ⟨tk, h1, h2, h3, h4⟩ := p_cellsOf hn1 [s.Faults] (by simp) (fun l hl => by
        simp only [List.mem_cons, List.not_mem_nil, or_false] at hl
        subst hl; omega) (fun l hl c hc => by
        simp only [List.mem_cons, List.not_mem_nil, or_false] at hl
        subst hl; exact hv.cell (hv.fa.1 c hc).1)
      have hbad : ∀ r c, badT tk r c ↔ inL s.Faults r c := fun r c => (badT_isBad (fun l hl c hc => by
        simp only [List.mem_cons, List.not_mem_nil, or_false] at hl
        subst hl; exact hv.cell (hv.fa.1 c hc).1) h4 r c).trans (inL_sure (s := s) r c).symm
      rw [h1]
      simp only [Option.bind_some, h2]
      obtain ⟨r, hr', h⟩ := p_NeedsLoop hn1 hv lay hlen hpost lay.length 0 0 tk [] n (by omega) ⟨Int.le_refl _, by omega⟩ h3 rfl (by omega)
      rw [show ((0 : Int), (0 : Int), tk, ([] : List Place)) = ((0 : Int), ((0 : Nat) : Int), tk, ([] : List Place)) from rfl, hr']
      obtain ⟨K, eK, hK⟩ := p_Rows hn1 hv s.Faults (by omega) lay hlay hpost
      rw [eK]
      simp only [List.drop_zero, LayIn.congr hbad] at h
      simp only [Option.bind_some]
      cases r with
      | inl k =>
        obtain ⟨rfl, hno⟩ := h
        rcases hK with ⟨rfl, _⟩ | ⟨h0, hK⟩
        · exact ⟨(0, 3), rfl, rfl⟩
        · exact absurd ((hK s.Length (by omega)).2 h0.2) hno
      | inr k =>
        obtain ⟨⟨k0, k1⟩, k2⟩ := h
        rcases hK with ⟨_, hno⟩ | ⟨h0, hK⟩
        · exact absurd ((k2 s.Length (by omega)).2 k1) hno
        · have e : K = k := by
            have a1 := (hK k k0).1 ((k2 k k0).2 (Int.le_refl _))
            have a2 := (k2 K h0.1).1 ((hK K h0.1).2 (Int.le_refl _))
            omega
          subst e
          rw [decide_eq_true h0.1]
          exact ⟨(K, 0), rfl, rfl⟩
    · have e1 : ((lay.length : Int) != (s.Panels.length : Int)) = true := by simp; omega
      rw [e1]
      exact ⟨(0, 1), rfl, rfl⟩
theorem p_allR (s : Lap) (hs : Small s) : F_ref03_all n s = some (s.Faults ++ s.Flaws) := by
  have h1 := hs.fa; have h2 := hs.fl
  rw [F_ref03_all, List.nil_append, lim_ok (by omega)]
  simp only [Option.bind_some]
  rw [lim_ok (by rw [List.length_append]; omega)]
  rfl
theorem filter_split {α : Type} (p : α → Bool) (l : List α) : (l.filter p).length + (l.filter fun x => !p x).length = l.length := by
  induction l with
  | nil => rfl
  | cons a l ih =>
    rw [List.filter_cons, List.filter_cons]
    cases p a <;> simp <;> omega
theorem grid_succ (n W : Nat) : grid (n + 1) W = grid n W ++ (List.range W).map fun (c : Nat) => (⟨(n : Int), (c : Int)⟩ : Cell) := by
  unfold grid
  rw [List.range_succ, List.flatMap_append]
  simp
theorem p_RoomR (hn : 1000000 ≤ n) {s : Lap} (hv : VL s) (m : Nat) (hm : (m : Int) ≤ s.Length) : F_ref03_Room n s (m : Int) = some (s.Width * m - inRows (s.Faults ++ s.Flaws) m, 0) := by
  have hL := hv.l
  have hW := hv.w
  have h1 := hv.fa.2.2
  have h2 := hv.fl.2.2
  obtain ⟨W, hWe⟩ : ∃ W : Nat, s.Width = W := ⟨s.Width.toNat, by omega⟩
  have hBl : (s.Faults ++ s.Flaws).length ≤ 10000 := by rw [List.length_append]; omega
  -- one row
  have row : ∀ (r : Nat) (z : Nat), z ≤ 1000 → loopO n (F_ref03_Room_s2 n s (r : Int)) ((z : Int), 0) = some (((z + (((List.range W).map fun (c : Nat) => (⟨(r : Int), (c : Int)⟩ : Cell)).filter fun c => !inB (s.Faults ++ s.Flaws) c).length : Nat) : Int)) := by
    intro r z hz
    obtain ⟨v, hv', hp⟩ := loop_nats (step := F_ref03_Room_s2 n s (r : Int)) W (fun i (z : Int) => (z, (i : Int))) (fun i y => y = ((z + (((List.range i).map fun (c : Nat) => (⟨(r : Int), (c : Int)⟩ : Cell)).filter fun c => !inB (s.Faults ++ s.Flaws) c).length : Nat) : Int))
      (fun y => y = ((z + (((List.range W).map fun (c : Nat) => (⟨(r : Int), (c : Int)⟩ : Cell)).filter fun c => !inB (s.Faults ++ s.Flaws) c).length : Nat) : Int)) (n := n) (z : Int) (by simp) (fun i y hi hy => .inl (by
        have hlt := List.length_filter_le (fun c => !inB (s.Faults ++ s.Flaws) c) ((List.range i).map fun (c : Nat) => (⟨(r : Int), (c : Int)⟩ : Cell))
        rw [List.length_map, List.length_range] at hlt
        rw [F_ref03_Room_s2, decide_eq_true (show (i : Int) < s.Width by omega)]
        simp only [if_true, p_allR s hv.small, Option.bind_some, p_In hn _ hBl, w64_nat (show i ≤ 4611686018427387904 by omega)]
        rw [List.range_succ, List.map_append, List.filter_append, List.length_append]
        simp only [List.map_cons, List.map_nil, List.filter_cons, List.filter_nil]
        cases hb : inB (s.Faults ++ s.Flaws) ⟨(r : Int), (i : Int)⟩ with
        | true =>
          exact ⟨y, rfl, by simpa using hy⟩
        | false =>
          rw [Bool.not_false, if_pos rfl, w64_id (by omega) (by omega)]
          refine ⟨y + 1, rfl, ?_⟩
          simp only [if_true, List.length_cons, List.length_nil]
          omega)) (fun y hy => ⟨y, by rw [F_ref03_Room_s2, decide_eq_false (by omega)]; rfl, hy⟩) (by omega)
    rw [show (((z : Int)), (0 : Int)) = ((z : Int), ((0 : Nat) : Int)) from rfl, hv', hp]
  obtain ⟨v, hv', hp⟩ := loop_nats (step := F_ref03_Room_s1 n s (m : Int)) m (fun i (z : Int) => (z, (i : Int))) (fun i y => i ≤ m ∧ y = (((grid i W).filter fun c => !inB (s.Faults ++ s.Flaws) c).length : Nat))
    (fun y => y = (((grid m W).filter fun c => !inB (s.Faults ++ s.Flaws) c).length : Nat)) (n := n) 0 ⟨by omega, by simp [grid]⟩ (fun i y hi hy => .inl (by
      have hlt := List.length_filter_le (fun c => !inB (s.Faults ++ s.Flaws) c) (grid i W)
      rw [grid_len] at hlt
      have hiW : i * W ≤ 12 * 8 := Nat.mul_le_mul (by omega) (by omega)
      rw [F_ref03_Room_s1, decide_eq_true (show (i : Int) < (m : Int) by omega), hy.2, row i _ (by omega)]
      simp only [if_true, Option.bind_some, w64_nat (show i ≤ 4611686018427387904 by omega)]
      refine ⟨_, rfl, by omega, ?_⟩
      rw [grid_succ, List.filter_append, List.length_append])) (fun y hy => ⟨y, by rw [F_ref03_Room_s1, decide_eq_false (by omega)]; rfl, hy.2⟩) (by omega)
  rw [F_ref03_Room, p_Check0 hn hv, p_within]
  simp only [Option.bind_some]
  rw [if_neg (by decide), decide_eq_true (show (0 : Int) ≤ m by omega), decide_eq_true hm]
  simp only [Bool.and_self, Bool.not_true, Bool.false_eq_true, if_false]
  rw [show ((0 : Int), (0 : Int)) = ((0 : Int), ((0 : Nat) : Int)) from rfl, hv', hp]
  -- the cells that are not free are the bad ones
  have hB := (are_app.1 ⟨hv.fa, hv.fl⟩).1
  have hsame : ((grid m W).filter fun c => inB (s.Faults ++ s.Flaws) c).length = inRows (s.Faults ++ s.Flaws) m := by
    have l1 := nodup_le ((grid_nodup m W).sublist (List.filter_sublist (p := fun c => inB (s.Faults ++ s.Flaws) c))) (m := (s.Faults ++ s.Flaws).filter fun c => decide (c.Row < (m : Int))) fun x hx => by
      obtain ⟨k1, k2⟩ := List.mem_filter.1 hx
      exact List.mem_filter.2 ⟨inB_t.1 k2, decide_eq_true (grid_mem.1 k1).1.2⟩
    have l2 := nodup_le (hB.2.sublist (List.filter_sublist (p := fun c : Cell => decide (c.Row < (m : Int))))) (m := (grid m W).filter fun c => inB (s.Faults ++ s.Flaws) c) fun x hx => by
      obtain ⟨k1, k2⟩ := List.mem_filter.1 hx
      have k3 := of_decide_eq_true k2
      obtain ⟨⟨a1, a2⟩, a3, a4⟩ := hB.1 x k1
      exact List.mem_filter.2 ⟨grid_mem.2 ⟨⟨a1, k3⟩, a3, by omega⟩, inB_t.2 k1⟩
    unfold inRows
    omega
  have hsp := filter_split (fun c => inB (s.Faults ++ s.Flaws) c) (grid m W)
  rw [grid_len, hsame] at hsp
  have e : s.Width * (m : Int) = ((m * W : Nat) : Int) := by rw [hWe, Int.natCast_mul, Int.mul_comm]
  rw [e]
  simp only [Option.bind_some]
  congr 2
  omega
theorem p_sameCells (hn : 1000000 ≤ n) (a : List Cell) (ha : a.length ≤ 10000) : F_law03_sameCells n a a = some true := by
  rw [F_law03_sameCells]
  simp only [bne_self_eq_false, Bool.false_eq_true, if_false]
  have h := loop_all_l (step := F_law03_sameCells_s1 n a a) a (fun _ => true) false (n := n) (by omega) (fun i x hx hi => by
    rw [F_law03_sameCells_s1, dlt, decide_eq_true hi, geti_nat, hx]
    simp [w64_nat (show i ≤ 4611686018427387904 by omega)]) (by rw [F_law03_sameCells_s1, dlt]; simp) (by omega)
  have e : a.all (fun _ => true) = true := by simp
  rw [h, e]; rfl
theorem p_same (hn : 1000000 ≤ n) (s : Lap) (hs : Small s) : F_law03_same n s s = some true := by
  rw [F_law03_same]
  have h1 := hs.fa; have h2 := hs.fl; have h3 := hs.np
  simp only [bne_self_eq_false, Bool.or_self, Bool.false_eq_true, if_false, p_sameCells hn s.Faults (by omega), p_sameCells hn s.Flaws (by omega), Option.bind_some, Bool.not_true]
  have h := loop_all_l (step := F_law03_same_s1 n s s) s.Panels (fun _ => true) false (n := n) (by omega) (fun i x hx hi => by
    have hx' := hs.p x (List.mem_of_getElem? hx)
    have h' := loop_all_l (step := F_law03_same_s2 n s s (i : Int)) x.Rows (fun _ => true) (Sum.inr (Sum.inl false) : Int ⊕ (Bool ⊕ Unit)) (n := n) (by omega) (fun k y hy hk => by
      rw [F_law03_same_s2, geti_nat, hx]
      simp only [Option.bind_some]
      rw [dlt, decide_eq_true hk, geti_nat, hy]
      simp [w64_nat (show k ≤ 4611686018427387904 by omega)]) (by rw [F_law03_same_s2, geti_nat, hx]; simp) (by omega)
    have e' : x.Rows.all (fun _ => true) = true := by simp
    rw [F_law03_same_s1, dlt, decide_eq_true hi, geti_nat, hx]
    simp only [if_true, Option.bind_some, bne_self_eq_false, Bool.false_eq_true, if_false, w64_nat (show i ≤ 4611686018427387904 by omega)]
    rw [h', e']; rfl) (by rw [F_law03_same_s1, dlt]; simp) (by omega)
  have e : s.Panels.all (fun _ => true) = true := by simp
  rw [h, e]; rfl
end
end Go.Proofs.Ytflhjlgimihmgaa
end
section
set_option maxRecDepth 100000
set_option maxHeartbeats 40000000
namespace Go.Proofs.Ytflhjlgimihmgaa
open Go Go.RowKit Go.Dec
set_option linter.unusedVariables false
-- 9 ferrule/ferrulelaw03.LaysCells
def F_law03_LaysCells (n : Nat) (s : Lap) (x_ : law03_Ask) (lay : List Place) : Option Bool :=
 (F_law03_Far n s).bind fun y3 => if (y3 || (decide (20 < (lay.length : Int)))) = true then ((F_law03_works n).bind fun y7 => some y7) else ((F_ref03_Copy n s).bind fun y8 => (F_lays_Check n y8).bind fun y14 => (F_ref03_Check n s).bind fun y15 => if (y14 != y15) = true then (some false) else ((F_lays_Cells n y8 x_.Panel x_.Place).bind fun y17 => (F_ref03_Cells n s x_.Panel x_.Place).bind fun y20 => (lim (([] : List Place) ++ lay)).bind fun l25 => (F_lays_Needs n y8 l25).bind fun y31 => (F_ref03_Needs n s lay).bind fun y46 => (F_lays_Room n y8 x_.Rows).bind fun y47 => (F_ref03_Room n s x_.Rows).bind fun y48 => (F_law03_sameCells n y17.1 y20.1).bind fun y49 => (if (((((y49 && (y17.2 == y20.2)) && (y31.1 == y46.1)) && (y31.2 == y46.2)) && (y47.1 == y48.1)) && (y47.2 == y48.2)) = true then ((F_law03_same n y8 s).bind fun y64 => some y64) else (some false) : Option Bool).bind fun p61 => (if p61 = true then ((F_law03_works n).bind fun y69 => some y69) else (some false) : Option Bool).bind fun p66 => some p66))
theorem c_law03_LaysCells (n : Nat) (H : Hp) (s : Lap) (s_v2 : Value) (hs_2 : SL H 2 R_Cell s_v2 s.Faults) (s_v3 : Value) (hs_3 : SL H 2 R_Cell s_v3 s.Flaws) (s_v4 : Value) (hs_4 : SL H 1 R_Panel s_v4 s.Panels) (x_ : law03_Ask) (lay : List Place) (lay_v0 : Value) (hlay_0 : SL H 3 R_Place lay_v0 lay) (y : Bool) (hF : F_law03_LaysCells n s x_ lay = some y) : SC Try.prog 9 [.agg [.int .i64 s.Width, .int .i64 s.Length, s_v2, s_v3, s_v4].toArray, .agg [.int .i64 x_.Panel, .int .i64 x_.Place.Row, .int .i64 x_.Place.Col, .int .i64 x_.Place.Turned, .int .i64 x_.Rows].toArray, lay_v0] (.bool y) H := by
 rw [F_law03_LaysCells] at hF
 refine SC.of (N := 117) Try.func9 rfl rfl rfl fun w => ?_
 refine JC.seq (JC.region (by rfl) ?_)
 intro hQ
 refine JL.box (cs := [.int .i64 s.Width, .int .i64 s.Length, s_v2, s_v3, s_v4]) rfl .none rfl ?_
 intro b1
 refine JL.box (cs := [.int .i64 x_.Panel, .int .i64 x_.Place.Row, .int .i64 x_.Place.Col, .int .i64 x_.Place.Turned, .int .i64 x_.Rows]) rfl .none rfl ?_
 intro b2
 refine JL.assign .none rfl ?_
 refine JL.done hQ (JQ.go (JC.seq (JC.seq (JC.region (by rfl) ?_))))
 intro hQ
 refine JL.loadOwn 1 az_25 rfl rfl rfl .none rfl ?_
 obtain ⟨y3, hy3, hF⟩ := bind_some hF
 refine JL.callS (c_law03_Far n H s s_v2 hs_2 s_v3 hs_3 s_v4 hs_4 y3 hy3) rfl en_27 .none rfl ?_
 refine JL.move .none rfl ?_
 refine JL.cut 4 (fun f => f 2 = lay_v0 ∧ f 3 = .pointer (some ⟨b1, 0, none⟩) ∧ f 4 = .pointer (some ⟨b2, 0, none⟩) ∧ f 26 = .bool (y3 || (decide (20 < (lay.length : Int))))) ?_ ?_
 ·intro hJ4
  rcases bcases y3 with hc5 | hc5
  ·skip
   refine JL.skip (.bool rfl rfl rfl hc5) rfl ?_
   refine JL.skip (.bool rfl rfl rfl hc5) rfl ?_
   refine JL.skip (.bool rfl rfl rfl hc5) rfl ?_
   refine JL.pick_t (b := y3) rfl hc5 .none rfl ?_
   exact hJ4 _ ⟨rfl, rfl, rfl, or_t hc5 rfl⟩
  ·skip
   refine JL.move (.some rfl rfl rfl hc5) rfl ?_
   refine JL.lenSL (R := R_Place) ul_54 hlay_0 (.some rfl rfl rfl hc5) rfl ?_
   refine JL.bin rfl rfl rfl (.some rfl rfl rfl hc5) rfl ?_
   refine JL.pick_f (b := y3) rfl hc5 .none rfl ?_
   exact hJ4 _ ⟨rfl, rfl, rfl, or_f hc5 rfl⟩
 ·rintro f ⟨hf2, hf3, hf4, hf26⟩
  refine (JL.norm (i := 2) hf2 (JL.norm (i := 3) hf3 (JL.norm (i := 4) hf4 (JL.norm (i := 26) hf26 ?_))))
  refine JL.done hQ (JQ.go ?_)
  rcases ite_some hF with ⟨hc6, hF⟩ | ⟨hc6, hF⟩
  ·refine JC.cond_t (b := (y3 || (decide (20 < (lay.length : Int))))) rfl hc6 ?_
   refine JC.seq (JC.region (by rfl) ?_)
   intro hQ
   obtain ⟨y7, hy7, hF⟩ := bind_some hF
   refine JL.callS (c_law03_works n H y7 hy7) rfl en_11 .none rfl ?_
   refine JL.assign .none rfl ?_
   refine JL.done hQ (JQ.go (JC.ret (JQ.ret_then ?_)))
   obtain rfl := Option.some.inj hF
   exact JQ.outS rfl (.tmp .nil) rfl
  ·refine JC.cond_f (b := (y3 || (decide (20 < (lay.length : Int))))) rfl hc6 ?_
   refine JC.skip (JQ.go (JC.seq (JC.region (by rfl) ?_)))
   intro hQ
   refine JL.loadOwn 1 az_25 rfl rfl rfl .none rfl ?_
   obtain ⟨y8, hy8, hF⟩ := bind_some hF
   refine JL.callH (c_ref03_Copy n H s s_v2 hs_2 s_v3 hs_3 s_v4 hs_4 y8 hy8) rfl en_12 .none rfl ?_
   rintro H9 vv10 hs9 ⟨y8a_v2, y8a_v3, y8a_v4, rfl, hy8a_2, hy8a_3, hy8a_4⟩
   refine JL.alloc ze_25 .none rfl ?_
   intro b11
   refine JL.storeOwn 0 (cs := [.int .i64 y8.Width, .int .i64 y8.Length, y8a_v2, y8a_v3, y8a_v4]) az_25 rfl rfl rfl (one_cons rfl (one_cons rfl (one_cons (SL.one hy8a_2) (one_cons (SL.one hy8a_3) (one_cons (SL.one hy8a_4) one_nil))))) rfl rfl .none ?_
   refine JL.done hQ (JQ.go (JC.seq (JC.seq (JC.draw (by rfl) mo_ (by kernel_rfl) ?_))))
   intro hQ
   refine JL.loadOwn 0 az_25 rfl rfl rfl .none rfl ?_
   obtain ⟨y14, hy14, hF⟩ := bind_some hF
   refine JL.callS (c_lays_Check n H9 y8 y8a_v2 hy8a_2 y8a_v3 hy8a_3 y8a_v4 hy8a_4 y14 hy14) rfl en_33 .none rfl ?_
   refine JL.loadOwn 2 az_25 rfl rfl rfl .none rfl ?_
   obtain ⟨y15, hy15, hF⟩ := bind_some hF
   refine JL.callS (c_ref03_Check n H9 s s_v2 (SL.mono R_Cell_mono hs9 hs_2) s_v3 (SL.mono R_Cell_mono hs9 hs_3) s_v4 (SL.mono R_Panel_mono hs9 hs_4) y15 hy15) rfl en_34 .none rfl ?_
   refine JL.bin rfl rfl rfl .none rfl ?_
   refine JL.doneQ hQ ?_
   refine JQ.go ?_
   rcases ite_some hF with ⟨hc16, hF⟩ | ⟨hc16, hF⟩
   ·refine JC.cond_t (b := (y14 != y15)) rfl hc16 ?_
    refine JC.seq (JC.region (by rfl) ?_)
    intro hQ
    refine JL.assign .none rfl ?_
    refine JL.done hQ (JQ.go (JC.ret (JQ.ret_then ?_)))
    obtain rfl := Option.some.inj hF
    exact JQ.outS rfl (.tmp .nil) rfl
   ·refine JC.cond_f (b := (y14 != y15)) rfl hc16 ?_
    refine JC.skip (JQ.go (JC.seq (JC.region (by rfl) ?_)))
    intro hQ
    refine JL.loadOwn 0 az_25 rfl rfl rfl .none rfl ?_
    refine JL.fieldAddr fo_70_0 rfl .none rfl ?_
    refine JL.loadOwn 1 az_3 rfl rfl rfl .none rfl ?_
    refine JL.fieldAddr fo_70_1 rfl .none rfl ?_
    refine JL.loadOwn 1 az_62 rfl rfl rfl .none rfl ?_
    obtain ⟨y17, hy17, hF⟩ := bind_some hF
    refine JL.callH (c_lays_Cells n H9 y8 y8a_v2 hy8a_2 y8a_v3 hy8a_3 y8a_v4 hy8a_4 x_.Panel x_.Place y17 hy17) rfl en_35 .none rfl ?_
    rintro H18 vv19 hs18 ⟨y17a_v0, rfl, hy17a_0⟩
    refine JL.move .none rfl ?_
    refine JL.extract rfl rfl .none rfl ?_
    refine JL.extract rfl rfl .none rfl ?_
    refine JL.assign .none rfl ?_
    refine JL.assign .none rfl ?_
    refine JL.done hQ (JQ.go (JC.fresh (fun f => f 2 = lay_v0 ∧ f 3 = .pointer (some ⟨b1, 0, none⟩) ∧ f 4 = .pointer (some ⟨b2, 0, none⟩) ∧ f 7 = .pointer (some ⟨b11, 0, none⟩) ∧ f 8 = y17a_v0 ∧ f 9 = .int .i64 y17.2) ⟨rfl, rfl, rfl, rfl, rfl, rfl⟩ ?_))
    rintro f ⟨hf2, hf3, hf4, hf7, hf8, hf9⟩
    refine (JC.norm (i := 2) hf2 (JC.norm (i := 3) hf3 (JC.norm (i := 4) hf4 (JC.norm (i := 7) hf7 (JC.norm (i := 8) hf8 (JC.norm (i := 9) hf9 ?_))))))
    refine JC.seq (JC.region (by rfl) ?_)
    intro hQ
    refine JL.loadOwn 2 az_25 rfl rfl rfl .none rfl ?_
    refine JL.fieldAddr fo_70_0 rfl .none rfl ?_
    refine JL.loadOwn 1 az_3 rfl rfl rfl .none rfl ?_
    refine JL.fieldAddr fo_70_1 rfl .none rfl ?_
    refine JL.loadOwn 1 az_62 rfl rfl rfl .none rfl ?_
    obtain ⟨y20, hy20, hF⟩ := bind_some hF
    refine JL.callH (c_ref03_Cells n H18 s s_v2 (SL.mono R_Cell_mono (HSub.trans hs9 hs18) hs_2) s_v3 (SL.mono R_Cell_mono (HSub.trans hs9 hs18) hs_3) s_v4 (SL.mono R_Panel_mono (HSub.trans hs9 hs18) hs_4) x_.Panel x_.Place y20 hy20) rfl en_36 .none rfl ?_
    rintro H21 vv22 hs21 ⟨y20a_v0, rfl, hy20a_0⟩
    refine JL.move .none rfl ?_
    refine JL.extract rfl rfl .none rfl ?_
    refine JL.extract rfl rfl .none rfl ?_
    refine JL.assign .none rfl ?_
    refine JL.assign .none rfl ?_
    refine JL.done hQ (JQ.go (JC.fresh (fun f => f 2 = lay_v0 ∧ f 3 = .pointer (some ⟨b1, 0, none⟩) ∧ f 4 = .pointer (some ⟨b2, 0, none⟩) ∧ f 7 = .pointer (some ⟨b11, 0, none⟩) ∧ f 8 = y17a_v0 ∧ f 9 = .int .i64 y17.2 ∧ f 10 = y20a_v0 ∧ f 11 = .int .i64 y20.2) ⟨rfl, rfl, rfl, rfl, rfl, rfl, rfl, rfl⟩ ?_))
    rintro f ⟨hf2, hf3, hf4, hf7, hf8, hf9, hf10, hf11⟩
    refine (JC.norm (i := 2) hf2 (JC.norm (i := 3) hf3 (JC.norm (i := 4) hf4 (JC.norm (i := 7) hf7 (JC.norm (i := 8) hf8 (JC.norm (i := 9) hf9 (JC.norm (i := 10) hf10 (JC.norm (i := 11) hf11 ?_))))))))
    refine JC.seq ?_
    obtain ⟨l25, hl25, hF⟩ := bind_some hF
    obtain ⟨y31, hy31, hF⟩ := bind_some hF
    refine JC.mixed 10 10 #[false, false, false, false, false, false, false, false, false, false] [(b11, .cells [.int .i64 y8.Width, .int .i64 y8.Length, y8a_v2, y8a_v3, y8a_v4].toArray 25), (b2, .cells [.int .i64 x_.Panel, .int .i64 x_.Place.Row, .int .i64 x_.Place.Col, .int .i64 x_.Place.Turned, .int .i64 x_.Rows].toArray 70), (b1, .cells [.int .i64 s.Width, .int .i64 s.Length, s_v2, s_v3, s_v4].toArray 25)] (by rfl) mo_ (by kernel_rfl) (by kernel_rfl) ?_
    intro hQ hE
    refine JA.take 0 (listed' := #[true, false, false, false, false, false, false, false, false, false]) hQ rfl (by kernel_rfl) (by kernel_rfl) (by kernel_rfl) (by kernel_rfl) (by kernel_rfl) hE (HSub.refl _) (.cons_cons _ (.cons_cons _ (.cons_cons _ (List.nil_sublist _)))) ?_
    refine JL.loadOwn 0 az_25 rfl rfl rfl .none rfl ?_
    refine JA.cont ?_
    refine JA.take 2 (listed' := #[true, false, true, false, false, false, false, false, false, false]) hQ rfl (by kernel_rfl) (by kernel_rfl) (by kernel_rfl) (by kernel_rfl) (by kernel_rfl) hE (HSub.refl _) (.cons_cons _ (.cons_cons _ (.cons_cons _ (List.nil_sublist _)))) ?_
    refine JL.move .none rfl ?_
    refine JA.cont ?_
    refine JA.many [1] (by kernel_rfl) (by simp) (all_one ⟨_, #[true, true, true, false, false, false, false, false, false, false], rfl, (by kernel_rfl), ?_⟩)
    refine JL.emptySlice ap_54 .none rfl ?_
    intro v39
    refine JA.after hE (HSub.refl _) (.cons_cons _ (.cons_cons _ (.cons_cons _ (List.nil_sublist _)))) ?_
    refine JA.many [3] (by kernel_rfl) (by simp) (all_one ⟨_, #[true, true, true, true, false, false, false, false, false, false], rfl, (by kernel_rfl), ?_⟩)
    refine JL.appD (R := R_Place) 0 (l := ([] : List Place)) (m := lay) ap_54 rfl ⟨rfl, rfl⟩ rfl CH.nil rfl (SL.mono R_Place_mono (HSub.trans hs9 (HSub.trans hs18 hs21)) hlay_0) (R_Place_one _) hl25 .none rfl ?_
    intro v41 xs42 hch43
    refine JA.after hE (HSub.refl _) (.cons_cons _ (.cons_cons _ (.cons_cons _ (List.nil_sublist _)))) ?_
    refine JA.many [4] (by kernel_rfl) (by simp) (all_one ⟨_, #[true, true, true, true, true, false, false, false, false, false], rfl, (by kernel_rfl), ?_⟩)
    refine JL.freezeG 0 (R := R_Place) rfl R_Place_mono hch43 rfl ?_
    intro H44 hs44 hg45
    refine JL.callS (c_lays_Needs n H44 y8 y8a_v2 (SL.mono R_Cell_mono (HSub.trans hs18 (HSub.trans hs21 hs44)) hy8a_2) y8a_v3 (SL.mono R_Cell_mono (HSub.trans hs18 (HSub.trans hs21 hs44)) hy8a_3) y8a_v4 (SL.mono R_Panel_mono (HSub.trans hs18 (HSub.trans hs21 hs44)) hy8a_4) l25 v41 hg45 y31 hy31) rfl en_37 .none rfl ?_
    refine JA.after hE hs44 (.cons_cons _ (.cons_cons _ (.cons_cons _ (List.nil_sublist _)))) ?_
    refine JA.take 5 (listed' := #[true, true, true, true, true, true, false, false, false, false]) hQ rfl (by kernel_rfl) (by kernel_rfl) (by kernel_rfl) (by kernel_rfl) (by kernel_rfl) hE hs44 (.cons_cons _ (.cons_cons _ (.cons_cons _ (List.nil_sublist _)))) ?_
    refine JL.move .none rfl ?_
    refine JA.cont ?_
    refine JA.take 6 (listed' := #[true, true, true, true, true, true, true, false, false, false]) hQ rfl (by kernel_rfl) (by kernel_rfl) (by kernel_rfl) (by kernel_rfl) (by kernel_rfl) hE hs44 (.cons_cons _ (.cons_cons _ (.cons_cons _ (List.nil_sublist _)))) ?_
    refine JL.extract rfl rfl .none rfl ?_
    refine JA.cont ?_
    refine JA.take 7 (listed' := #[true, true, true, true, true, true, true, true, false, false]) hQ rfl (by kernel_rfl) (by kernel_rfl) (by kernel_rfl) (by kernel_rfl) (by kernel_rfl) hE hs44 (.cons_cons _ (.cons_cons _ (.cons_cons _ (List.nil_sublist _)))) ?_
    refine JL.extract rfl rfl .none rfl ?_
    refine JA.cont ?_
    refine JA.take 8 (listed' := #[true, true, true, true, true, true, true, true, true, false]) hQ rfl (by kernel_rfl) (by kernel_rfl) (by kernel_rfl) (by kernel_rfl) (by kernel_rfl) hE hs44 (.cons_cons _ (.cons_cons _ (.cons_cons _ (List.nil_sublist _)))) ?_
    refine JL.assign .none rfl ?_
    refine JA.cont ?_
    refine JA.take 9 (listed' := #[true, true, true, true, true, true, true, true, true, true]) hQ rfl (by kernel_rfl) (by kernel_rfl) (by kernel_rfl) (by kernel_rfl) (by kernel_rfl) hE hs44 (.cons_cons _ (.cons_cons _ (.cons_cons _ (List.nil_sublist _)))) ?_
    refine JL.assign .none rfl ?_
    refine JA.cont ?_
    refine JA.done hQ (by kernel_rfl) ?_
    refine JQ.go (JC.fresh (fun f => f 2 = lay_v0 ∧ f 3 = .pointer (some ⟨b1, 0, none⟩) ∧ f 4 = .pointer (some ⟨b2, 0, none⟩) ∧ f 7 = .pointer (some ⟨b11, 0, none⟩) ∧ f 8 = y17a_v0 ∧ f 9 = .int .i64 y17.2 ∧ f 10 = y20a_v0 ∧ f 11 = .int .i64 y20.2 ∧ f 12 = .int .i64 y31.1 ∧ f 13 = .int .i64 y31.2) ⟨rfl, rfl, rfl, rfl, rfl, rfl, rfl, rfl, rfl, rfl⟩ ?_)
    rintro f ⟨hf2, hf3, hf4, hf7, hf8, hf9, hf10, hf11, hf12, hf13⟩
    refine (JC.norm (i := 2) hf2 (JC.norm (i := 3) hf3 (JC.norm (i := 4) hf4 (JC.norm (i := 7) hf7 (JC.norm (i := 8) hf8 (JC.norm (i := 9) hf9 (JC.norm (i := 10) hf10 (JC.norm (i := 11) hf11 (JC.norm (i := 12) hf12 (JC.norm (i := 13) hf13 ?_))))))))))
    refine JC.seq (JC.region (by rfl) ?_)
    intro hQ
    refine JL.loadOwn 2 az_25 rfl rfl rfl .none rfl ?_
    refine JL.move .none rfl ?_
    obtain ⟨y46, hy46, hF⟩ := bind_some hF
    refine JL.callS (c_ref03_Needs n H44 s s_v2 (SL.mono R_Cell_mono (HSub.trans hs9 (HSub.trans hs18 (HSub.trans hs21 hs44))) hs_2) s_v3 (SL.mono R_Cell_mono (HSub.trans hs9 (HSub.trans hs18 (HSub.trans hs21 hs44))) hs_3) s_v4 (SL.mono R_Panel_mono (HSub.trans hs9 (HSub.trans hs18 (HSub.trans hs21 hs44))) hs_4) lay lay_v0 (SL.mono R_Place_mono (HSub.trans hs9 (HSub.trans hs18 (HSub.trans hs21 hs44))) hlay_0) y46 hy46) rfl en_38 .none rfl ?_
    refine JL.move .none rfl ?_
    refine JL.extract rfl rfl .none rfl ?_
    refine JL.extract rfl rfl .none rfl ?_
    refine JL.assign .none rfl ?_
    refine JL.assign .none rfl ?_
    refine JL.done hQ (JQ.go (JC.seq (JC.region (by rfl) ?_)))
    intro hQ
    refine JL.loadOwn 0 az_25 rfl rfl rfl .none rfl ?_
    refine JL.fieldAddr fo_70_2 rfl .none rfl ?_
    refine JL.loadOwn 1 az_3 rfl rfl rfl .none rfl ?_
    obtain ⟨y47, hy47, hF⟩ := bind_some hF
    refine JL.callS (c_lays_Room n H44 y8 y8a_v2 (SL.mono R_Cell_mono (HSub.trans hs18 (HSub.trans hs21 hs44)) hy8a_2) y8a_v3 (SL.mono R_Cell_mono (HSub.trans hs18 (HSub.trans hs21 hs44)) hy8a_3) y8a_v4 (SL.mono R_Panel_mono (HSub.trans hs18 (HSub.trans hs21 hs44)) hy8a_4) x_.Rows y47 hy47) rfl en_22 .none rfl ?_
    refine JL.move .none rfl ?_
    refine JL.extract rfl rfl .none rfl ?_
    refine JL.extract rfl rfl .none rfl ?_
    refine JL.assign .none rfl ?_
    refine JL.assign .none rfl ?_
    refine JL.done hQ (JQ.go (JC.fresh (fun f => f 3 = .pointer (some ⟨b1, 0, none⟩) ∧ f 4 = .pointer (some ⟨b2, 0, none⟩) ∧ f 7 = .pointer (some ⟨b11, 0, none⟩) ∧ f 8 = y17a_v0 ∧ f 9 = .int .i64 y17.2 ∧ f 10 = y20a_v0 ∧ f 11 = .int .i64 y20.2 ∧ f 12 = .int .i64 y31.1 ∧ f 13 = .int .i64 y31.2 ∧ f 14 = .int .i64 y46.1 ∧ f 15 = .int .i64 y46.2 ∧ f 16 = .int .i64 y47.1 ∧ f 17 = .int .i64 y47.2) ⟨rfl, rfl, rfl, rfl, rfl, rfl, rfl, rfl, rfl, rfl, rfl, rfl, rfl⟩ ?_))
    rintro f ⟨hf3, hf4, hf7, hf8, hf9, hf10, hf11, hf12, hf13, hf14, hf15, hf16, hf17⟩
    refine (JC.norm (i := 3) hf3 (JC.norm (i := 4) hf4 (JC.norm (i := 7) hf7 (JC.norm (i := 8) hf8 (JC.norm (i := 9) hf9 (JC.norm (i := 10) hf10 (JC.norm (i := 11) hf11 (JC.norm (i := 12) hf12 (JC.norm (i := 13) hf13 (JC.norm (i := 14) hf14 (JC.norm (i := 15) hf15 (JC.norm (i := 16) hf16 (JC.norm (i := 17) hf17 ?_)))))))))))))
    refine JC.seq (JC.region (by rfl) ?_)
    intro hQ
    refine JL.loadOwn 2 az_25 rfl rfl rfl .none rfl ?_
    refine JL.fieldAddr fo_70_2 rfl .none rfl ?_
    refine JL.loadOwn 1 az_3 rfl rfl rfl .none rfl ?_
    obtain ⟨y48, hy48, hF⟩ := bind_some hF
    refine JL.callS (c_ref03_Room n H44 s s_v2 (SL.mono R_Cell_mono (HSub.trans hs9 (HSub.trans hs18 (HSub.trans hs21 hs44))) hs_2) s_v3 (SL.mono R_Cell_mono (HSub.trans hs9 (HSub.trans hs18 (HSub.trans hs21 hs44))) hs_3) s_v4 (SL.mono R_Panel_mono (HSub.trans hs9 (HSub.trans hs18 (HSub.trans hs21 hs44))) hs_4) x_.Rows y48 hy48) rfl en_39 .none rfl ?_
    refine JL.move .none rfl ?_
    refine JL.extract rfl rfl .none rfl ?_
    refine JL.extract rfl rfl .none rfl ?_
    refine JL.assign .none rfl ?_
    refine JL.assign .none rfl ?_
    refine JL.done hQ (JQ.go (JC.fresh (fun f => f 3 = .pointer (some ⟨b1, 0, none⟩) ∧ f 7 = .pointer (some ⟨b11, 0, none⟩) ∧ f 8 = y17a_v0 ∧ f 9 = .int .i64 y17.2 ∧ f 10 = y20a_v0 ∧ f 11 = .int .i64 y20.2 ∧ f 12 = .int .i64 y31.1 ∧ f 13 = .int .i64 y31.2 ∧ f 14 = .int .i64 y46.1 ∧ f 15 = .int .i64 y46.2 ∧ f 16 = .int .i64 y47.1 ∧ f 17 = .int .i64 y47.2 ∧ f 18 = .int .i64 y48.1 ∧ f 19 = .int .i64 y48.2) ⟨rfl, rfl, rfl, rfl, rfl, rfl, rfl, rfl, rfl, rfl, rfl, rfl, rfl, rfl⟩ ?_))
    rintro f ⟨hf3, hf7, hf8, hf9, hf10, hf11, hf12, hf13, hf14, hf15, hf16, hf17, hf18, hf19⟩
    refine (JC.norm (i := 3) hf3 (JC.norm (i := 7) hf7 (JC.norm (i := 8) hf8 (JC.norm (i := 9) hf9 (JC.norm (i := 10) hf10 (JC.norm (i := 11) hf11 (JC.norm (i := 12) hf12 (JC.norm (i := 13) hf13 (JC.norm (i := 14) hf14 (JC.norm (i := 15) hf15 (JC.norm (i := 16) hf16 (JC.norm (i := 17) hf17 (JC.norm (i := 18) hf18 (JC.norm (i := 19) hf19 ?_))))))))))))))
    refine JC.seq (JC.region (by rfl) ?_)
    intro hQ
    refine JL.move .none rfl ?_
    refine JL.move .none rfl ?_
    obtain ⟨y49, hy49, hF⟩ := bind_some hF
    refine JL.callS (c_law03_sameCells n H44 y17.1 y17a_v0 (SL.mono R_Cell_mono (HSub.trans hs21 hs44) hy17a_0) y20.1 y20a_v0 (SL.mono R_Cell_mono hs44 hy20a_0) y49 hy49) rfl en_40 .none rfl ?_
    refine JL.move .none rfl ?_
    refine JL.cut 4 (fun f => f 3 = .pointer (some ⟨b1, 0, none⟩) ∧ f 7 = .pointer (some ⟨b11, 0, none⟩) ∧ f 12 = .int .i64 y31.1 ∧ f 13 = .int .i64 y31.2 ∧ f 14 = .int .i64 y46.1 ∧ f 15 = .int .i64 y46.2 ∧ f 16 = .int .i64 y47.1 ∧ f 17 = .int .i64 y47.2 ∧ f 18 = .int .i64 y48.1 ∧ f 19 = .int .i64 y48.2 ∧ f 88 = .bool (y49 && (y17.2 == y20.2))) ?_ ?_
    ·intro hJ50
     rcases bcases y49 with hc51 | hc51
     ·skip
      refine JL.move (.some rfl rfl rfl hc51) rfl ?_
      refine JL.move (.some rfl rfl rfl hc51) rfl ?_
      refine JL.bin rfl rfl rfl (.some rfl rfl rfl hc51) rfl ?_
      refine JL.pick_t (b := y49) rfl hc51 .none rfl ?_
      exact hJ50 _ ⟨rfl, rfl, rfl, rfl, rfl, rfl, rfl, rfl, rfl, rfl, and_t hc51 rfl⟩
     ·skip
      refine JL.skip (.bool rfl rfl rfl hc51) rfl ?_
      refine JL.skip (.bool rfl rfl rfl hc51) rfl ?_
      refine JL.skip (.bool rfl rfl rfl hc51) rfl ?_
      refine JL.pick_f (b := y49) rfl hc51 .none rfl ?_
      exact hJ50 _ ⟨rfl, rfl, rfl, rfl, rfl, rfl, rfl, rfl, rfl, rfl, and_f hc51 rfl⟩
    ·rintro f ⟨hf3, hf7, hf12, hf13, hf14, hf15, hf16, hf17, hf18, hf19, hf88⟩
     refine (JL.norm (i := 3) hf3 (JL.norm (i := 7) hf7 (JL.norm (i := 12) hf12 (JL.norm (i := 13) hf13 (JL.norm (i := 14) hf14 (JL.norm (i := 15) hf15 (JL.norm (i := 16) hf16 (JL.norm (i := 17) hf17 (JL.norm (i := 18) hf18 (JL.norm (i := 19) hf19 (JL.norm (i := 88) hf88 ?_)))))))))))
     refine JL.move .none rfl ?_
     refine JL.cut 4 (fun f => f 3 = .pointer (some ⟨b1, 0, none⟩) ∧ f 7 = .pointer (some ⟨b11, 0, none⟩) ∧ f 13 = .int .i64 y31.2 ∧ f 15 = .int .i64 y46.2 ∧ f 16 = .int .i64 y47.1 ∧ f 17 = .int .i64 y47.2 ∧ f 18 = .int .i64 y48.1 ∧ f 19 = .int .i64 y48.2 ∧ f 93 = .bool ((y49 && (y17.2 == y20.2)) && (y31.1 == y46.1))) ?_ ?_
     ·intro hJ52
      rcases bcases (y49 && (y17.2 == y20.2)) with hc53 | hc53
      ·skip
       refine JL.move (.some rfl rfl rfl hc53) rfl ?_
       refine JL.move (.some rfl rfl rfl hc53) rfl ?_
       refine JL.bin rfl rfl rfl (.some rfl rfl rfl hc53) rfl ?_
       refine JL.pick_t (b := (y49 && (y17.2 == y20.2))) rfl hc53 .none rfl ?_
       exact hJ52 _ ⟨rfl, rfl, rfl, rfl, rfl, rfl, rfl, rfl, and_t hc53 rfl⟩
      ·skip
       refine JL.skip (.bool rfl rfl rfl hc53) rfl ?_
       refine JL.skip (.bool rfl rfl rfl hc53) rfl ?_
       refine JL.skip (.bool rfl rfl rfl hc53) rfl ?_
       refine JL.pick_f (b := (y49 && (y17.2 == y20.2))) rfl hc53 .none rfl ?_
       exact hJ52 _ ⟨rfl, rfl, rfl, rfl, rfl, rfl, rfl, rfl, and_f hc53 rfl⟩
     ·rintro f ⟨hf3, hf7, hf13, hf15, hf16, hf17, hf18, hf19, hf93⟩
      refine (JL.norm (i := 3) hf3 (JL.norm (i := 7) hf7 (JL.norm (i := 13) hf13 (JL.norm (i := 15) hf15 (JL.norm (i := 16) hf16 (JL.norm (i := 17) hf17 (JL.norm (i := 18) hf18 (JL.norm (i := 19) hf19 (JL.norm (i := 93) hf93 ?_)))))))))
      refine JL.move .none rfl ?_
      refine JL.cut 4 (fun f => f 3 = .pointer (some ⟨b1, 0, none⟩) ∧ f 7 = .pointer (some ⟨b11, 0, none⟩) ∧ f 16 = .int .i64 y47.1 ∧ f 17 = .int .i64 y47.2 ∧ f 18 = .int .i64 y48.1 ∧ f 19 = .int .i64 y48.2 ∧ f 98 = .bool (((y49 && (y17.2 == y20.2)) && (y31.1 == y46.1)) && (y31.2 == y46.2))) ?_ ?_
      ·intro hJ54
       rcases bcases ((y49 && (y17.2 == y20.2)) && (y31.1 == y46.1)) with hc55 | hc55
       ·skip
        refine JL.move (.some rfl rfl rfl hc55) rfl ?_
        refine JL.move (.some rfl rfl rfl hc55) rfl ?_
        refine JL.bin rfl rfl rfl (.some rfl rfl rfl hc55) rfl ?_
        refine JL.pick_t (b := ((y49 && (y17.2 == y20.2)) && (y31.1 == y46.1))) rfl hc55 .none rfl ?_
        exact hJ54 _ ⟨rfl, rfl, rfl, rfl, rfl, rfl, and_t hc55 rfl⟩
       ·skip
        refine JL.skip (.bool rfl rfl rfl hc55) rfl ?_
        refine JL.skip (.bool rfl rfl rfl hc55) rfl ?_
        refine JL.skip (.bool rfl rfl rfl hc55) rfl ?_
        refine JL.pick_f (b := ((y49 && (y17.2 == y20.2)) && (y31.1 == y46.1))) rfl hc55 .none rfl ?_
        exact hJ54 _ ⟨rfl, rfl, rfl, rfl, rfl, rfl, and_f hc55 rfl⟩
      ·rintro f ⟨hf3, hf7, hf16, hf17, hf18, hf19, hf98⟩
       refine (JL.norm (i := 3) hf3 (JL.norm (i := 7) hf7 (JL.norm (i := 16) hf16 (JL.norm (i := 17) hf17 (JL.norm (i := 18) hf18 (JL.norm (i := 19) hf19 (JL.norm (i := 98) hf98 ?_)))))))
       refine JL.move .none rfl ?_
       refine JL.cut 4 (fun f => f 3 = .pointer (some ⟨b1, 0, none⟩) ∧ f 7 = .pointer (some ⟨b11, 0, none⟩) ∧ f 17 = .int .i64 y47.2 ∧ f 19 = .int .i64 y48.2 ∧ f 103 = .bool ((((y49 && (y17.2 == y20.2)) && (y31.1 == y46.1)) && (y31.2 == y46.2)) && (y47.1 == y48.1))) ?_ ?_
       ·intro hJ56
        rcases bcases (((y49 && (y17.2 == y20.2)) && (y31.1 == y46.1)) && (y31.2 == y46.2)) with hc57 | hc57
        ·skip
         refine JL.move (.some rfl rfl rfl hc57) rfl ?_
         refine JL.move (.some rfl rfl rfl hc57) rfl ?_
         refine JL.bin rfl rfl rfl (.some rfl rfl rfl hc57) rfl ?_
         refine JL.pick_t (b := (((y49 && (y17.2 == y20.2)) && (y31.1 == y46.1)) && (y31.2 == y46.2))) rfl hc57 .none rfl ?_
         exact hJ56 _ ⟨rfl, rfl, rfl, rfl, and_t hc57 rfl⟩
        ·skip
         refine JL.skip (.bool rfl rfl rfl hc57) rfl ?_
         refine JL.skip (.bool rfl rfl rfl hc57) rfl ?_
         refine JL.skip (.bool rfl rfl rfl hc57) rfl ?_
         refine JL.pick_f (b := (((y49 && (y17.2 == y20.2)) && (y31.1 == y46.1)) && (y31.2 == y46.2))) rfl hc57 .none rfl ?_
         exact hJ56 _ ⟨rfl, rfl, rfl, rfl, and_f hc57 rfl⟩
       ·rintro f ⟨hf3, hf7, hf17, hf19, hf103⟩
        refine (JL.norm (i := 3) hf3 (JL.norm (i := 7) hf7 (JL.norm (i := 17) hf17 (JL.norm (i := 19) hf19 (JL.norm (i := 103) hf103 ?_)))))
        refine JL.move .none rfl ?_
        refine JL.cut 4 (fun f => f 3 = .pointer (some ⟨b1, 0, none⟩) ∧ f 7 = .pointer (some ⟨b11, 0, none⟩) ∧ f 108 = .bool (((((y49 && (y17.2 == y20.2)) && (y31.1 == y46.1)) && (y31.2 == y46.2)) && (y47.1 == y48.1)) && (y47.2 == y48.2))) ?_ ?_
        ·intro hJ58
         rcases bcases ((((y49 && (y17.2 == y20.2)) && (y31.1 == y46.1)) && (y31.2 == y46.2)) && (y47.1 == y48.1)) with hc59 | hc59
         ·skip
          refine JL.move (.some rfl rfl rfl hc59) rfl ?_
          refine JL.move (.some rfl rfl rfl hc59) rfl ?_
          refine JL.bin rfl rfl rfl (.some rfl rfl rfl hc59) rfl ?_
          refine JL.pick_t (b := ((((y49 && (y17.2 == y20.2)) && (y31.1 == y46.1)) && (y31.2 == y46.2)) && (y47.1 == y48.1))) rfl hc59 .none rfl ?_
          exact hJ58 _ ⟨rfl, rfl, and_t hc59 rfl⟩
         ·skip
          refine JL.skip (.bool rfl rfl rfl hc59) rfl ?_
          refine JL.skip (.bool rfl rfl rfl hc59) rfl ?_
          refine JL.skip (.bool rfl rfl rfl hc59) rfl ?_
          refine JL.pick_f (b := ((((y49 && (y17.2 == y20.2)) && (y31.1 == y46.1)) && (y31.2 == y46.2)) && (y47.1 == y48.1))) rfl hc59 .none rfl ?_
          exact hJ58 _ ⟨rfl, rfl, and_f hc59 rfl⟩
        ·rintro f ⟨hf3, hf7, hf108⟩
         refine (JL.norm (i := 3) hf3 (JL.norm (i := 7) hf7 (JL.norm (i := 108) hf108 ?_)))
         refine JL.move .none rfl ?_
         obtain ⟨p61, hp61, hF⟩ := bind_some hF
         refine JL.cut 4 (fun f => f 113 = .bool p61) ?_ ?_
         ·intro hJ62
          rcases ite_some hp61 with ⟨hc63, hF⟩ | ⟨hc63, hF⟩
          ·skip
           refine JL.loadOwn 0 az_25 rfl rfl rfl (.some rfl rfl rfl hc63) rfl ?_
           refine JL.loadOwn 2 az_25 rfl rfl rfl (.some rfl rfl rfl hc63) rfl ?_
           obtain ⟨y64, hy64, hF⟩ := bind_some hF
           refine JL.callS (c_law03_same n H44 y8 y8a_v2 (SL.mono R_Cell_mono (HSub.trans hs18 (HSub.trans hs21 hs44)) hy8a_2) y8a_v3 (SL.mono R_Cell_mono (HSub.trans hs18 (HSub.trans hs21 hs44)) hy8a_3) y8a_v4 (SL.mono R_Panel_mono (HSub.trans hs18 (HSub.trans hs21 hs44)) hy8a_4) s s_v2 (SL.mono R_Cell_mono (HSub.trans hs9 (HSub.trans hs18 (HSub.trans hs21 hs44))) hs_2) s_v3 (SL.mono R_Cell_mono (HSub.trans hs9 (HSub.trans hs18 (HSub.trans hs21 hs44))) hs_3) s_v4 (SL.mono R_Panel_mono (HSub.trans hs9 (HSub.trans hs18 (HSub.trans hs21 hs44))) hs_4) y64 hy64) rfl en_41 (.some rfl rfl rfl hc63) rfl ?_
           refine JL.pick_t (b := (((((y49 && (y17.2 == y20.2)) && (y31.1 == y46.1)) && (y31.2 == y46.2)) && (y47.1 == y48.1)) && (y47.2 == y48.2))) rfl hc63 .none rfl ?_
           obtain rfl := Option.some.inj hF
           exact hJ62 _ (rfl)
          ·skip
           refine JL.skip (.bool rfl rfl rfl hc63) rfl ?_
           refine JL.skip (.bool rfl rfl rfl hc63) rfl ?_
           refine JL.skip (.bool rfl rfl rfl hc63) rfl ?_
           refine JL.pick_f (b := (((((y49 && (y17.2 == y20.2)) && (y31.1 == y46.1)) && (y31.2 == y46.2)) && (y47.1 == y48.1)) && (y47.2 == y48.2))) rfl hc63 .none rfl ?_
           obtain rfl := Option.some.inj hF
           exact hJ62 _ (rfl)
         ·rintro f hf113
          refine (JL.norm (i := 113) hf113 ?_)
          refine JL.move .none rfl ?_
          obtain ⟨p66, hp66, hF⟩ := bind_some hF
          refine JL.cut 2 (fun f => f 116 = .bool p66) ?_ ?_
          ·intro hJ67
           rcases ite_some hp66 with ⟨hc68, hF⟩ | ⟨hc68, hF⟩
           ·skip
            obtain ⟨y69, hy69, hF⟩ := bind_some hF
            refine JL.callS (c_law03_works n H44 y69 hy69) rfl en_11 (.some rfl rfl rfl hc68) rfl ?_
            refine JL.pick_t (b := p61) rfl hc68 .none rfl ?_
            obtain rfl := Option.some.inj hF
            exact hJ67 _ (rfl)
           ·skip
            refine JL.skip (.bool rfl rfl rfl hc68) rfl ?_
            refine JL.pick_f (b := p61) rfl hc68 .none rfl ?_
            obtain rfl := Option.some.inj hF
            exact hJ67 _ (rfl)
          ·rintro f hf116
           refine (JL.norm (i := 116) hf116 ?_)
           refine JL.assign .none rfl ?_
           refine JL.done hQ (JQ.go (JC.ret ?_))
           obtain rfl := Option.some.inj hF
           exact JQ.outS rfl (.tmp .nil) rfl
end Go.Proofs.Ytflhjlgimihmgaa
end
