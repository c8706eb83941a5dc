/-
  A part of the proof of RiRib: the texts RiGTopRib.
-/
import Derived.Test.YteihdclpiekmaaaJRiRib8
section
set_option maxRecDepth 100000
set_option maxHeartbeats 40000000
namespace Go.Proofs.Yteihdclpiekmaaa
open Go Go.RowKit Go.Dec
set_option linter.unusedVariables false
-- 4 ferrule/ferruletop.TopRib
def F_top_TopRib (n : Nat) (w_ : Workshop) (f_ : Frame) (x_ : top_Fitting) : Option Bool :=
 (F_law07_Far n w_).bind fun y4 => (if (y4 || (decide (9 < (w_.Table.length : Int)))) = true then (some true) else ((F_ref07_Known n w_).bind fun y11 => some (y11 != 0)) : Option Bool).bind fun p8 => (if p8 = true then (some true) else ((F_law01_Far n f_).bind fun y16 => some y16) : Option Bool).bind fun p13 => (if p13 = true then (some true) else ((F_ref01_Check n f_).bind fun y21 => some (y21 != 0)) : Option Bool).bind fun p18 => (if p18 = true then (some true) else ((F_ref07_IsSpare n w_ x_.Spare).bind fun y26 => some (!y26)) : Option Bool).bind fun p23 => (if p23 = true then (some true) else ((F_ref01_IsSection n f_ x_.Section).bind fun y31 => some (!y31)) : Option Bool).bind fun p28 => if p28 = true then ((F_top_fitted n).bind fun y33 => some y33) else ((F_ref07_Copy n w_).bind fun y34 => (lim (y34.Table ++ [x_.Trial])).bind fun l47 => (F_ref07_Known n (Workshop.mk y34.Spares y34.Makes y34.Cut l47)).bind fun y54 => if (y54 != 0) = true then ((F_top_fitted n).bind fun y56 => some y56) else ((F_parts_Length n w_ x_.Spare).bind fun y57 => (F_parts_Length n (Workshop.mk y34.Spares y34.Makes y34.Cut l47) x_.Spare).bind fun y61 => if (((((y57.2 != 0) || (y61.2 != 0)) || (decide (y61.1.Low < y57.1.Low))) || (decide (y57.1.High < y61.1.High))) || (decide (y61.1.High < y61.1.Low))) = true then (some false) else ((F_ref01_Copy n f_).bind fun y73 => (F_ref01_Copy n f_).bind fun y77 => (geti y73.Sections x_.Section).bind fun y131 => (geti y77.Sections x_.Section).bind fun y136 => (F_ref01_Check n (Frame.mk (setx y73.Sections x_.Section (Section.mk y57.1 y131.Stretch y131.Base y131.Gear)) y73.Low y73.High y73.Ease y73.Rod y73.Case)).bind fun y235 => (if (y235 != 0) = true then (some true) else ((F_ref01_Check n (Frame.mk (setx y77.Sections x_.Section (Section.mk y61.1 y136.Stretch y136.Base y136.Gear)) y77.Low y77.High y77.Ease y77.Rod y77.Case)).bind fun y244 => some (y244 != 0)) : Option Bool).bind fun p239 => if p239 = true then ((F_top_fitted n).bind fun y246 => some y246) else ((F_frames_Cosine n (Frame.mk (setx y73.Sections x_.Section (Section.mk y57.1 y131.Stretch y131.Base y131.Gear)) y73.Low y73.High y73.Ease y73.Rod y73.Case) x_.Section y73.Low).bind fun y249 => (F_frames_Cosine n (Frame.mk (setx y77.Sections x_.Section (Section.mk y61.1 y136.Stretch y136.Base y136.Gear)) y77.Low y77.High y77.Ease y77.Rod y77.Case) x_.Section y77.Low).bind fun y254 => if ((y249.2.2 != y254.2.2) || ((y249.2.2 != 0) && (y249.2.2 != 3))) = true then (some false) else ((if (y249.2.2 == 0) = true then ((if ((((decide ((min (min (min y249.1.Den y249.2.1.Den) y254.1.Den) y254.2.1.Den) < 1)) || (decide (1073741824 < (max (max (max y249.1.Den y249.2.1.Den) y254.1.Den) y254.2.1.Den)))) || (decide (1073741824 < (max (max (max y249.1.Num y249.2.1.Num) y254.1.Num) y254.2.1.Num)))) || (decide ((min (min (min y249.1.Num y249.2.1.Num) y254.1.Num) y254.2.1.Num) < (-1073741824)))) = true then (some true) else ((F_ref01_Less n y254.1 y249.1).bind fun y293 => some y293) : Option Bool).bind fun p290 => (if p290 = true then (some true) else ((F_ref01_Less n y249.2.1 y254.2.1).bind fun y298 => some y298) : Option Bool).bind fun p295 => some p295) else (some false) : Option Bool).bind fun p280 => if p280 = true then (some false) else ((F_frames_Opens n (Frame.mk (setx y73.Sections x_.Section (Section.mk y57.1 y131.Stretch y131.Base y131.Gear)) y73.Low y73.High y73.Ease y73.Rod y73.Case)).bind fun y302 => (F_frames_Opens n (Frame.mk (setx y77.Sections x_.Section (Section.mk y61.1 y136.Stretch y136.Base y136.Gear)) y77.Low y77.High y77.Ease y77.Rod y77.Case)).bind fun y305 => (F_frames_Binds n (Frame.mk (setx y73.Sections x_.Section (Section.mk y57.1 y131.Stretch y131.Base y131.Gear)) y73.Low y73.High y73.Ease y73.Rod y73.Case) x_.Section y73.High).bind fun y308 => (F_frames_Binds n (Frame.mk (setx y77.Sections x_.Section (Section.mk y61.1 y136.Stretch y136.Base y136.Gear)) y77.Low y77.High y77.Ease y77.Rod y77.Case) x_.Section y77.High).bind fun y311 => (if ((((((y302.2 == 0) && (y305.2 == 0)) && (y308.2 == 0)) && (y311.2 == 0)) && ((y302.1 == 3) || (y302.1 == y305.1))) && ((y308.1 == 3) || (y308.1 == y311.1))) = true then ((F_top_fitted n).bind fun y334 => some y334) else (some false) : Option Bool).bind fun p331 => some p331))))))
theorem c_top_TopRib (n : Nat) (H : Hp) (w_ : Workshop) (w__v0 : Value) (hw__0 : SL H 4 R_Spare w__v0 w_.Spares) (w__v1 : Value) (hw__1 : SL H 1 R_Make w__v1 w_.Makes) (w__v3 : Value) (hw__3 : SL H 4 R_Trial w__v3 w_.Table) (f_ : Frame) (f__v0 : Value) (hf__0 : SL H 7 R_Section f__v0 f_.Sections) (x_ : top_Fitting) (y : Bool) (hF : F_top_TopRib n w_ f_ x_ = some y) : SC Try.prog 4 [.agg [w__v0, w__v1, .int .i64 w_.Cut, w__v3].toArray, .agg [f__v0, .int .i64 f_.Low, .int .i64 f_.High, .int .i64 f_.Ease.Num, .int .i64 f_.Ease.Den, .int .i64 f_.Rod, .int .i64 f_.Case].toArray, .agg [.int .i64 x_.Spare, .int .i64 x_.Section, .int .i64 x_.Trial.Spare, .int .i64 x_.Trial.Make, .int .i64 x_.Trial.Slot, .int .i64 x_.Trial.Fits].toArray] (.bool y) H := by
 rw [F_top_TopRib] at hF
 refine SC.of (N := 300) Try.func4 rfl rfl rfl fun w => ?_
 refine JC.seq (JC.region (by rfl) ?_)
 intro hQ
 refine JL.box (cs := [w__v0, w__v1, .int .i64 w_.Cut, w__v3]) rfl .none rfl ?_
 intro b1
 refine JL.box (cs := [f__v0, .int .i64 f_.Low, .int .i64 f_.High, .int .i64 f_.Ease.Num, .int .i64 f_.Ease.Den, .int .i64 f_.Rod, .int .i64 f_.Case]) rfl .none rfl ?_
 intro b2
 refine JL.box (cs := [.int .i64 x_.Spare, .int .i64 x_.Section, .int .i64 x_.Trial.Spare, .int .i64 x_.Trial.Make, .int .i64 x_.Trial.Slot, .int .i64 x_.Trial.Fits]) rfl .none rfl ?_
 intro b3
 refine JL.assign .none rfl ?_
 refine JL.done hQ (JQ.go (JC.seq (JC.seq (JC.region (by rfl) ?_))))
 intro hQ
 refine JL.loadOwn 2 az_48 rfl rfl rfl .none rfl ?_
 obtain ⟨y4, hy4, hF⟩ := bind_some hF
 refine JL.callS (c_law07_Far n H w_ w__v0 hw__0 w__v1 hw__1 w__v3 hw__3 y4 hy4) rfl en_18 .none rfl ?_
 refine JL.move .none rfl ?_
 refine JL.cut 5 (fun f => f 3 = .pointer (some ⟨b1, 0, none⟩) ∧ f 4 = .pointer (some ⟨b2, 0, none⟩) ∧ f 5 = .pointer (some ⟨b3, 0, none⟩) ∧ f 35 = .bool (y4 || (decide (9 < (w_.Table.length : Int))))) ?_ ?_
 ·intro hJ5
  rcases bcases y4 with hc6 | hc6
  ·skip
   refine JL.skip (.bool rfl rfl rfl hc6) rfl ?_
   refine JL.skip (.bool rfl rfl rfl hc6) rfl ?_
   refine JL.skip (.bool rfl rfl rfl hc6) rfl ?_
   refine JL.skip (.bool rfl rfl rfl hc6) rfl ?_
   refine JL.pick_t (b := y4) rfl hc6 .none rfl ?_
   exact hJ5 _ ⟨rfl, rfl, rfl, or_t hc6 rfl⟩
  ·skip
   refine JL.fieldAddr fo_48_3 rfl (.some rfl rfl rfl hc6) rfl ?_
   refine JL.loadOwn 2 az_46 rfl rfl rfl (.some rfl rfl rfl hc6) rfl ?_
   refine JL.lenSL (R := R_Trial) ul_46 hw__3 (.some rfl rfl rfl hc6) rfl ?_
   refine JL.bin rfl rfl rfl (.some rfl rfl rfl hc6) rfl ?_
   refine JL.pick_f (b := y4) rfl hc6 .none rfl ?_
   exact hJ5 _ ⟨rfl, rfl, rfl, or_f hc6 rfl⟩
 ·rintro f ⟨hf3, hf4, hf5, hf35⟩
  refine (JL.norm (i := 3) hf3 (JL.norm (i := 4) hf4 (JL.norm (i := 5) hf5 (JL.norm (i := 35) hf35 ?_))))
  refine JL.move .none rfl ?_
  obtain ⟨p8, hp8, hF⟩ := bind_some hF
  refine JL.cut 4 (fun f => f 3 = .pointer (some ⟨b1, 0, none⟩) ∧ f 4 = .pointer (some ⟨b2, 0, none⟩) ∧ f 5 = .pointer (some ⟨b3, 0, none⟩) ∧ f 40 = .bool p8) ?_ ?_
  ·intro hJ9
   rcases ite_some hp8 with ⟨hc10, hF⟩ | ⟨hc10, hF⟩
   ·skip
    refine JL.skip (.bool rfl rfl rfl hc10) rfl ?_
    refine JL.skip (.bool rfl rfl rfl hc10) rfl ?_
    refine JL.skip (.bool rfl rfl rfl hc10) rfl ?_
    refine JL.pick_t (b := (y4 || (decide (9 < (w_.Table.length : Int))))) rfl hc10 .none rfl ?_
    obtain rfl := Option.some.inj hF
    exact hJ9 _ ⟨rfl, rfl, rfl, rfl⟩
   ·skip
    refine JL.loadOwn 2 az_48 rfl rfl rfl (.some rfl rfl rfl hc10) rfl ?_
    obtain ⟨y11, hy11, hF⟩ := bind_some hF
    refine JL.callS (c_ref07_Known n H w_ w__v0 hw__0 w__v1 hw__1 w__v3 hw__3 y11 hy11) rfl en_19 (.some rfl rfl rfl hc10) rfl ?_
    refine JL.bin rfl rfl rfl (.some rfl rfl rfl hc10) rfl ?_
    refine JL.pick_f (b := (y4 || (decide (9 < (w_.Table.length : Int))))) rfl hc10 .none rfl ?_
    obtain rfl := Option.some.inj hF
    exact hJ9 _ ⟨rfl, rfl, rfl, rfl⟩
  ·rintro f ⟨hf3, hf4, hf5, hf40⟩
   refine (JL.norm (i := 3) hf3 (JL.norm (i := 4) hf4 (JL.norm (i := 5) hf5 (JL.norm (i := 40) hf40 ?_))))
   refine JL.move .none rfl ?_
   obtain ⟨p13, hp13, hF⟩ := bind_some hF
   refine JL.cut 3 (fun f => f 3 = .pointer (some ⟨b1, 0, none⟩) ∧ f 4 = .pointer (some ⟨b2, 0, none⟩) ∧ f 5 = .pointer (some ⟨b3, 0, none⟩) ∧ f 44 = .bool p13) ?_ ?_
   ·intro hJ14
    rcases ite_some hp13 with ⟨hc15, hF⟩ | ⟨hc15, hF⟩
    ·skip
     refine JL.skip (.bool rfl rfl rfl hc15) rfl ?_
     refine JL.skip (.bool rfl rfl rfl hc15) rfl ?_
     refine JL.pick_t (b := p8) rfl hc15 .none rfl ?_
     obtain rfl := Option.some.inj hF
     exact hJ14 _ ⟨rfl, rfl, rfl, rfl⟩
    ·skip
     refine JL.loadOwn 1 az_53 rfl rfl rfl (.some rfl rfl rfl hc15) rfl ?_
     obtain ⟨y16, hy16, hF⟩ := bind_some hF
     refine JL.callS (c_law01_Far n H f_ f__v0 hf__0 y16 hy16) rfl en_20 (.some rfl rfl rfl hc15) rfl ?_
     refine JL.pick_f (b := p8) rfl hc15 .none rfl ?_
     obtain rfl := Option.some.inj hF
     exact hJ14 _ ⟨rfl, rfl, rfl, rfl⟩
   ·rintro f ⟨hf3, hf4, hf5, hf44⟩
    refine (JL.norm (i := 3) hf3 (JL.norm (i := 4) hf4 (JL.norm (i := 5) hf5 (JL.norm (i := 44) hf44 ?_))))
    refine JL.move .none rfl ?_
    obtain ⟨p18, hp18, hF⟩ := bind_some hF
    refine JL.cut 4 (fun f => f 3 = .pointer (some ⟨b1, 0, none⟩) ∧ f 4 = .pointer (some ⟨b2, 0, none⟩) ∧ f 5 = .pointer (some ⟨b3, 0, none⟩) ∧ f 49 = .bool p18) ?_ ?_
    ·intro hJ19
     rcases ite_some hp18 with ⟨hc20, hF⟩ | ⟨hc20, hF⟩
     ·skip
      refine JL.skip (.bool rfl rfl rfl hc20) rfl ?_
      refine JL.skip (.bool rfl rfl rfl hc20) rfl ?_
      refine JL.skip (.bool rfl rfl rfl hc20) rfl ?_
      refine JL.pick_t (b := p13) rfl hc20 .none rfl ?_
      obtain rfl := Option.some.inj hF
      exact hJ19 _ ⟨rfl, rfl, rfl, rfl⟩
     ·skip
      refine JL.loadOwn 1 az_53 rfl rfl rfl (.some rfl rfl rfl hc20) rfl ?_
      obtain ⟨y21, hy21, hF⟩ := bind_some hF
      refine JL.callS (c_ref01_Check n H f_ f__v0 hf__0 y21 hy21) rfl en_21 (.some rfl rfl rfl hc20) rfl ?_
      refine JL.bin rfl rfl rfl (.some rfl rfl rfl hc20) rfl ?_
      refine JL.pick_f (b := p13) rfl hc20 .none rfl ?_
      obtain rfl := Option.some.inj hF
      exact hJ19 _ ⟨rfl, rfl, rfl, rfl⟩
    ·rintro f ⟨hf3, hf4, hf5, hf49⟩
     refine (JL.norm (i := 3) hf3 (JL.norm (i := 4) hf4 (JL.norm (i := 5) hf5 (JL.norm (i := 49) hf49 ?_))))
     refine JL.move .none rfl ?_
     obtain ⟨p23, hp23, hF⟩ := bind_some hF
     refine JL.cut 6 (fun f => f 3 = .pointer (some ⟨b1, 0, none⟩) ∧ f 4 = .pointer (some ⟨b2, 0, none⟩) ∧ f 5 = .pointer (some ⟨b3, 0, none⟩) ∧ f 56 = .bool p23) ?_ ?_
     ·intro hJ24
      rcases ite_some hp23 with ⟨hc25, hF⟩ | ⟨hc25, hF⟩
      ·skip
       refine JL.skip (.bool rfl rfl rfl hc25) rfl ?_
       refine JL.skip (.bool rfl rfl rfl hc25) rfl ?_
       refine JL.skip (.bool rfl rfl rfl hc25) rfl ?_
       refine JL.skip (.bool rfl rfl rfl hc25) rfl ?_
       refine JL.skip (.bool rfl rfl rfl hc25) rfl ?_
       refine JL.pick_t (b := p18) rfl hc25 .none rfl ?_
       obtain rfl := Option.some.inj hF
       exact hJ24 _ ⟨rfl, rfl, rfl, rfl⟩
      ·skip
       refine JL.loadOwn 2 az_48 rfl rfl rfl (.some rfl rfl rfl hc25) rfl ?_
       refine JL.fieldAddr fo_57_0 rfl (.some rfl rfl rfl hc25) rfl ?_
       refine JL.loadOwn 0 az_3 rfl rfl rfl (.some rfl rfl rfl hc25) rfl ?_
       obtain ⟨y26, hy26, hF⟩ := bind_some hF
       refine JL.callS (c_ref07_IsSpare n H w_ w__v0 hw__0 w__v1 hw__1 w__v3 hw__3 x_.Spare y26 hy26) rfl en_22 (.some rfl rfl rfl hc25) rfl ?_
       refine JL.not rfl (.some rfl rfl rfl hc25) rfl ?_
       refine JL.pick_f (b := p18) rfl hc25 .none rfl ?_
       obtain rfl := Option.some.inj hF
       exact hJ24 _ ⟨rfl, rfl, rfl, rfl⟩
     ·rintro f ⟨hf3, hf4, hf5, hf56⟩
      refine (JL.norm (i := 3) hf3 (JL.norm (i := 4) hf4 (JL.norm (i := 5) hf5 (JL.norm (i := 56) hf56 ?_))))
      refine JL.move .none rfl ?_
      obtain ⟨p28, hp28, hF⟩ := bind_some hF
      refine JL.cut 6 (fun f => f 3 = .pointer (some ⟨b1, 0, none⟩) ∧ f 4 = .pointer (some ⟨b2, 0, none⟩) ∧ f 5 = .pointer (some ⟨b3, 0, none⟩) ∧ f 63 = .bool p28) ?_ ?_
      ·intro hJ29
       rcases ite_some hp28 with ⟨hc30, hF⟩ | ⟨hc30, hF⟩
       ·skip
        refine JL.skip (.bool rfl rfl rfl hc30) rfl ?_
        refine JL.skip (.bool rfl rfl rfl hc30) rfl ?_
        refine JL.skip (.bool rfl rfl rfl hc30) rfl ?_
        refine JL.skip (.bool rfl rfl rfl hc30) rfl ?_
        refine JL.skip (.bool rfl rfl rfl hc30) rfl ?_
        refine JL.pick_t (b := p23) rfl hc30 .none rfl ?_
        obtain rfl := Option.some.inj hF
        exact hJ29 _ ⟨rfl, rfl, rfl, rfl⟩
       ·skip
        refine JL.loadOwn 1 az_53 rfl rfl rfl (.some rfl rfl rfl hc30) rfl ?_
        refine JL.fieldAddr fo_57_1 rfl (.some rfl rfl rfl hc30) rfl ?_
        refine JL.loadOwn 0 az_3 rfl rfl rfl (.some rfl rfl rfl hc30) rfl ?_
        obtain ⟨y31, hy31, hF⟩ := bind_some hF
        refine JL.callS (c_ref01_IsSection n H f_ f__v0 hf__0 x_.Section y31 hy31) rfl en_23 (.some rfl rfl rfl hc30) rfl ?_
        refine JL.not rfl (.some rfl rfl rfl hc30) rfl ?_
        refine JL.pick_f (b := p23) rfl hc30 .none rfl ?_
        obtain rfl := Option.some.inj hF
        exact hJ29 _ ⟨rfl, rfl, rfl, rfl⟩
      ·rintro f ⟨hf3, hf4, hf5, hf63⟩
       refine (JL.norm (i := 3) hf3 (JL.norm (i := 4) hf4 (JL.norm (i := 5) hf5 (JL.norm (i := 63) hf63 ?_))))
       refine JL.done hQ (JQ.go ?_)
       rcases ite_some hF with ⟨hc32, hF⟩ | ⟨hc32, hF⟩
       ·refine JC.cond_t (b := p28) rfl hc32 ?_
        refine JC.seq (JC.region (by rfl) ?_)
        intro hQ
        obtain ⟨y33, hy33, hF⟩ := bind_some hF
        refine JL.callS (c_top_fitted n H y33 hy33) rfl en_24 .none rfl ?_
        refine JL.assign .none rfl ?_
        refine JL.done hQ (JQ.go (JC.ret (JQ.ret_then ?_)))
        obtain rfl := Option.some.inj hF
        exact JQ.outS rfl (.tmp .nil) rfl
       ·refine JC.cond_f (b := p28) rfl hc32 ?_
        refine JC.skip (JQ.go (JC.seq (JC.region (by rfl) ?_)))
        intro hQ
        refine JL.loadOwn 2 az_48 rfl rfl rfl .none rfl ?_
        obtain ⟨y34, hy34, hF⟩ := bind_some hF
        refine JL.callXC (x_ref07_Copy n H w_ w__v0 hw__0 w__v1 hw__1 w__v3 hw__3 y34 hy34) rfl en_25 .none rfl ?_
        rintro H35 vv36 _ hs35 ⟨y34_v0, y34_xs0, y34_v1, y34_xs1, y34_v2, y34_xs2, rfl, rfl, hy34_0, hy34_1, hy34_2⟩
        refine JL.freezeG 2 (R := R_Spare) rfl R_Spare_mono hy34_0 rfl ?_
        intro H40 hs40 hg41
        refine JL.freezeG 0 (R := R_Make) rfl R_Make_mono (CH.mono R_Make_mono hs40 hy34_1) rfl ?_
        intro H42 hs42 hg43
        refine JL.alloc ze_48 .none rfl ?_
        intro b44
        refine JL.oneG 0 rfl (fun ho45 => ?_)
        refine JL.storeOwn 0 (cs := [y34_v0, y34_v1, .int .i64 y34.Cut, y34_v2]) az_48 rfl rfl rfl (one_cons (SL.one (SL.mono R_Spare_mono hs42 hg41)) (one_cons (SL.one hg43) (one_cons rfl (one_cons ho45.1 one_nil)))) rfl rfl .none ?_
        refine JL.done hQ (JQ.go (JC.seq (JC.region (by rfl) ?_)))
        intro hQ
        refine JL.fieldAddr fo_48_3 rfl .none rfl ?_
        refine JL.loadOwn 0 az_46 rfl rfl rfl .none rfl ?_
        refine JL.fieldAddr fo_57_2 rfl .none rfl ?_
        refine JL.loadOwn 1 az_55 rfl rfl rfl .none rfl ?_
        refine JL.buildSlice (e := 55) (l := [.int .i64 x_.Trial.Spare, .int .i64 x_.Trial.Make, .int .i64 x_.Trial.Slot, .int .i64 x_.Trial.Fits]) (by kernel_rfl) .none rfl ?_
        intro b46
        obtain ⟨l47, hl47, hF⟩ := bind_some hF
        refine JL.appO (R := R_Trial) 0 0 (l := y34.Table) (m := [x_.Trial]) ap_46 rfl ⟨rfl, rfl⟩ rfl (CH.mono R_Trial_mono (HSub.trans hs40 hs42) hy34_2) rfl rfl rfl (CH.cons (cs := [.int .i64 x_.Trial.Spare, .int .i64 x_.Trial.Make, .int .i64 x_.Trial.Slot, .int .i64 x_.Trial.Fits]) rfl rfl CH.nil) rfl (one_cons rfl (one_cons rfl (one_cons rfl (one_cons rfl one_nil)))) hl47 .none rfl ?_
        intro v48 xs49 hch50
        refine JL.fieldAddr fo_48_3 rfl .none rfl ?_
        refine JL.oneG 0 rfl (fun ho51 => ?_)
        refine JL.storeOwn 1 (cs := [v48]) az_46 rfl ho51.2 rfl (one_cons ho51.1 one_nil) rfl rfl .none ?_
        refine JL.done hQ (JQ.go (JC.fresh (fun f => f 3 = .pointer (some ⟨b1, 0, none⟩) ∧ f 4 = .pointer (some ⟨b2, 0, none⟩) ∧ f 5 = .pointer (some ⟨b3, 0, none⟩) ∧ f 7 = .pointer (some ⟨b44, 0, none⟩)) ⟨rfl, rfl, rfl, rfl⟩ ?_))
        rintro f ⟨hf3, hf4, hf5, hf7⟩
        refine (JC.norm (i := 3) hf3 (JC.norm (i := 4) hf4 (JC.norm (i := 5) hf5 (JC.norm (i := 7) hf7 ?_))))
        refine JC.seq (JC.seq (JC.region (by rfl) ?_))
        intro hQ
        refine JL.loadOwn 1 az_48 rfl rfl rfl .none rfl ?_
        obtain ⟨y54, hy54, hF⟩ := bind_some hF
        refine JL.callLG1 (R := R_Trial) 0 rfl R_Trial_mono hch50 rfl (fun H52 hs52 hg53 => c_ref07_Known n H52 (Workshop.mk y34.Spares y34.Makes y34.Cut l47) y34_v0 (SL.mono R_Spare_mono (HSub.trans hs42 hs52) hg41) y34_v1 (SL.mono R_Make_mono hs52 hg43) v48 hg53 y54 hy54) rfl en_19 .none rfl ?_
        refine JL.bin rfl rfl rfl .none rfl ?_
        refine JL.done hQ (JQ.go ?_)
        rcases ite_some hF with ⟨hc55, hF⟩ | ⟨hc55, hF⟩
        ·refine JC.cond_t (b := (y54 != 0)) rfl hc55 ?_
         refine JC.seq (JC.region (by rfl) ?_)
         intro hQ
         obtain ⟨y56, hy56, hF⟩ := bind_some hF
         refine JL.callS (c_top_fitted n H42 y56 hy56) rfl en_24 .none rfl ?_
         refine JL.assign .none rfl ?_
         refine JL.done hQ (JQ.go (JC.ret (JQ.ret_then ?_)))
         obtain rfl := Option.some.inj hF
         exact JQ.outS rfl (.tmp .nil) rfl
        ·refine JC.cond_f (b := (y54 != 0)) rfl hc55 ?_
         refine JC.skip (JQ.go (JC.seq (JC.region (by rfl) ?_)))
         intro hQ
         refine JL.loadOwn 4 az_48 rfl rfl rfl .none rfl ?_
         refine JL.fieldAddr fo_57_0 rfl .none rfl ?_
         refine JL.loadOwn 2 az_3 rfl rfl rfl .none rfl ?_
         obtain ⟨y57, hy57, hF⟩ := bind_some hF
         refine JL.callS (c_parts_Length n H42 w_ w__v0 (SL.mono R_Spare_mono (HSub.trans hs35 (HSub.trans hs40 hs42)) hw__0) w__v1 (SL.mono R_Make_mono (HSub.trans hs35 (HSub.trans hs40 hs42)) hw__1) w__v3 (SL.mono R_Trial_mono (HSub.trans hs35 (HSub.trans hs40 hs42)) hw__3) x_.Spare y57 hy57) rfl en_26 .none rfl ?_
         refine JL.move .none rfl ?_
         refine JL.extract rfl rfl .none rfl ?_
         refine JL.extract rfl rfl .none rfl ?_
         refine JL.alloc ze_39 .none rfl ?_
         intro b58
         refine JL.storeOwn 0 (cs := [.int .i64 y57.1.Low, .int .i64 y57.1.High]) az_39 rfl rfl rfl (one_cons rfl (one_cons rfl one_nil)) rfl rfl .none ?_
         refine JL.assign .none rfl ?_
         refine JL.done hQ (JQ.go (JC.fresh (fun f => f 4 = .pointer (some ⟨b2, 0, none⟩) ∧ f 5 = .pointer (some ⟨b3, 0, none⟩) ∧ f 7 = .pointer (some ⟨b44, 0, none⟩) ∧ f 8 = .pointer (some ⟨b58, 0, none⟩) ∧ f 9 = .int .i64 y57.2) ⟨rfl, rfl, rfl, rfl, rfl⟩ ?_))
         rintro f ⟨hf4, hf5, hf7, hf8, hf9⟩
         refine (JC.norm (i := 4) hf4 (JC.norm (i := 5) hf5 (JC.norm (i := 7) hf7 (JC.norm (i := 8) hf8 (JC.norm (i := 9) hf9 ?_)))))
         refine JC.seq (JC.region (by rfl) ?_)
         intro hQ
         refine JL.loadOwn 2 az_48 rfl rfl rfl .none rfl ?_
         refine JL.fieldAddr fo_57_0 rfl .none rfl ?_
         refine JL.loadOwn 3 az_3 rfl rfl rfl .none rfl ?_
         obtain ⟨y61, hy61, hF⟩ := bind_some hF
         refine JL.callLG1 (R := R_Trial) 0 rfl R_Trial_mono hch50 rfl (fun H59 hs59 hg60 => c_parts_Length n H59 (Workshop.mk y34.Spares y34.Makes y34.Cut l47) y34_v0 (SL.mono R_Spare_mono (HSub.trans hs42 hs59) hg41) y34_v1 (SL.mono R_Make_mono hs59 hg43) v48 hg60 x_.Spare y61 hy61) rfl en_26 .none rfl ?_
         refine JL.move .none rfl ?_
         refine JL.extract rfl rfl .none rfl ?_
         refine JL.extract rfl rfl .none rfl ?_
         refine JL.alloc ze_39 .none rfl ?_
         intro b62
         refine JL.storeOwn 0 (cs := [.int .i64 y61.1.Low, .int .i64 y61.1.High]) az_39 rfl rfl rfl (one_cons rfl (one_cons rfl one_nil)) rfl rfl .none ?_
         refine JL.assign .none rfl ?_
         refine JL.done hQ (JQ.go (JC.fresh (fun f => f 4 = .pointer (some ⟨b2, 0, none⟩) ∧ f 5 = .pointer (some ⟨b3, 0, none⟩) ∧ f 8 = .pointer (some ⟨b58, 0, none⟩) ∧ f 9 = .int .i64 y57.2 ∧ f 10 = .pointer (some ⟨b62, 0, none⟩) ∧ f 11 = .int .i64 y61.2) ⟨rfl, rfl, rfl, rfl, rfl, rfl⟩ ?_))
         rintro f ⟨hf4, hf5, hf8, hf9, hf10, hf11⟩
         refine (JC.norm (i := 4) hf4 (JC.norm (i := 5) hf5 (JC.norm (i := 8) hf8 (JC.norm (i := 9) hf9 (JC.norm (i := 10) hf10 (JC.norm (i := 11) hf11 ?_))))))
         refine JC.seq (JC.seq (JC.region (by rfl) ?_))
         intro hQ
         refine JL.move .none rfl ?_
         refine JL.bin rfl rfl rfl .none rfl ?_
         refine JL.move .none rfl ?_
         refine JL.cut 3 (fun f => f 4 = .pointer (some ⟨b2, 0, none⟩) ∧ f 5 = .pointer (some ⟨b3, 0, none⟩) ∧ f 8 = .pointer (some ⟨b58, 0, none⟩) ∧ f 10 = .pointer (some ⟨b62, 0, none⟩) ∧ f 97 = .bool ((y57.2 != 0) || (y61.2 != 0))) ?_ ?_
         ·intro hJ63
          rcases bcases (y57.2 != 0) with hc64 | hc64
          ·skip
           refine JL.skip (.bool rfl rfl rfl hc64) rfl ?_
           refine JL.skip (.bool rfl rfl rfl hc64) rfl ?_
           refine JL.pick_t (b := (y57.2 != 0)) rfl hc64 .none rfl ?_
           exact hJ63 _ ⟨rfl, rfl, rfl, rfl, or_t hc64 rfl⟩
          ·skip
           refine JL.move (.some rfl rfl rfl hc64) rfl ?_
           refine JL.bin rfl rfl rfl (.some rfl rfl rfl hc64) rfl ?_
           refine JL.pick_f (b := (y57.2 != 0)) rfl hc64 .none rfl ?_
           exact hJ63 _ ⟨rfl, rfl, rfl, rfl, or_f hc64 rfl⟩
         ·rintro f ⟨hf4, hf5, hf8, hf10, hf97⟩
          refine (JL.norm (i := 4) hf4 (JL.norm (i := 5) hf5 (JL.norm (i := 8) hf8 (JL.norm (i := 10) hf10 (JL.norm (i := 97) hf97 ?_)))))
          refine JL.move .none rfl ?_
          refine JL.cut 6 (fun f => f 4 = .pointer (some ⟨b2, 0, none⟩) ∧ f 5 = .pointer (some ⟨b3, 0, none⟩) ∧ f 8 = .pointer (some ⟨b58, 0, none⟩) ∧ f 10 = .pointer (some ⟨b62, 0, none⟩) ∧ f 104 = .bool (((y57.2 != 0) || (y61.2 != 0)) || (decide (y61.1.Low < y57.1.Low)))) ?_ ?_
          ·intro hJ65
           rcases bcases ((y57.2 != 0) || (y61.2 != 0)) with hc66 | hc66
           ·skip
            refine JL.skip (.bool rfl rfl rfl hc66) rfl ?_
            refine JL.skip (.bool rfl rfl rfl hc66) rfl ?_
            refine JL.skip (.bool rfl rfl rfl hc66) rfl ?_
            refine JL.skip (.bool rfl rfl rfl hc66) rfl ?_
            refine JL.skip (.bool rfl rfl rfl hc66) rfl ?_
            refine JL.pick_t (b := ((y57.2 != 0) || (y61.2 != 0))) rfl hc66 .none rfl ?_
            exact hJ65 _ ⟨rfl, rfl, rfl, rfl, or_t hc66 rfl⟩
           ·skip
            refine JL.fieldAddr fo_39_0 rfl (.some rfl rfl rfl hc66) rfl ?_
            refine JL.loadOwn 0 az_3 rfl rfl rfl (.some rfl rfl rfl hc66) rfl ?_
            refine JL.fieldAddr fo_39_0 rfl (.some rfl rfl rfl hc66) rfl ?_
            refine JL.loadOwn 1 az_3 rfl rfl rfl (.some rfl rfl rfl hc66) rfl ?_
            refine JL.bin rfl rfl rfl (.some rfl rfl rfl hc66) rfl ?_
            refine JL.pick_f (b := ((y57.2 != 0) || (y61.2 != 0))) rfl hc66 .none rfl ?_
            exact hJ65 _ ⟨rfl, rfl, rfl, rfl, or_f hc66 rfl⟩
          ·rintro f ⟨hf4, hf5, hf8, hf10, hf104⟩
           refine (JL.norm (i := 4) hf4 (JL.norm (i := 5) hf5 (JL.norm (i := 8) hf8 (JL.norm (i := 10) hf10 (JL.norm (i := 104) hf104 ?_)))))
           refine JL.move .none rfl ?_
           refine JL.cut 6 (fun f => f 4 = .pointer (some ⟨b2, 0, none⟩) ∧ f 5 = .pointer (some ⟨b3, 0, none⟩) ∧ f 8 = .pointer (some ⟨b58, 0, none⟩) ∧ f 10 = .pointer (some ⟨b62, 0, none⟩) ∧ f 111 = .bool ((((y57.2 != 0) || (y61.2 != 0)) || (decide (y61.1.Low < y57.1.Low))) || (decide (y57.1.High < y61.1.High)))) ?_ ?_
           ·intro hJ67
            rcases bcases (((y57.2 != 0) || (y61.2 != 0)) || (decide (y61.1.Low < y57.1.Low))) with hc68 | hc68
            ·skip
             refine JL.skip (.bool rfl rfl rfl hc68) rfl ?_
             refine JL.skip (.bool rfl rfl rfl hc68) rfl ?_
             refine JL.skip (.bool rfl rfl rfl hc68) rfl ?_
             refine JL.skip (.bool rfl rfl rfl hc68) rfl ?_
             refine JL.skip (.bool rfl rfl rfl hc68) rfl ?_
             refine JL.pick_t (b := (((y57.2 != 0) || (y61.2 != 0)) || (decide (y61.1.Low < y57.1.Low)))) rfl hc68 .none rfl ?_
             exact hJ67 _ ⟨rfl, rfl, rfl, rfl, or_t hc68 rfl⟩
            ·skip
             refine JL.fieldAddr fo_39_1 rfl (.some rfl rfl rfl hc68) rfl ?_
             refine JL.loadOwn 0 az_3 rfl rfl rfl (.some rfl rfl rfl hc68) rfl ?_
             refine JL.fieldAddr fo_39_1 rfl (.some rfl rfl rfl hc68) rfl ?_
             refine JL.loadOwn 1 az_3 rfl rfl rfl (.some rfl rfl rfl hc68) rfl ?_
             refine JL.bin rfl rfl rfl (.some rfl rfl rfl hc68) rfl ?_
             refine JL.pick_f (b := (((y57.2 != 0) || (y61.2 != 0)) || (decide (y61.1.Low < y57.1.Low)))) rfl hc68 .none rfl ?_
             exact hJ67 _ ⟨rfl, rfl, rfl, rfl, or_f hc68 rfl⟩
           ·rintro f ⟨hf4, hf5, hf8, hf10, hf111⟩
            refine (JL.norm (i := 4) hf4 (JL.norm (i := 5) hf5 (JL.norm (i := 8) hf8 (JL.norm (i := 10) hf10 (JL.norm (i := 111) hf111 ?_)))))
            refine JL.move .none rfl ?_
            refine JL.cut 6 (fun f => f 4 = .pointer (some ⟨b2, 0, none⟩) ∧ f 5 = .pointer (some ⟨b3, 0, none⟩) ∧ f 8 = .pointer (some ⟨b58, 0, none⟩) ∧ f 10 = .pointer (some ⟨b62, 0, none⟩) ∧ f 118 = .bool (((((y57.2 != 0) || (y61.2 != 0)) || (decide (y61.1.Low < y57.1.Low))) || (decide (y57.1.High < y61.1.High))) || (decide (y61.1.High < y61.1.Low)))) ?_ ?_
            ·intro hJ69
             rcases bcases ((((y57.2 != 0) || (y61.2 != 0)) || (decide (y61.1.Low < y57.1.Low))) || (decide (y57.1.High < y61.1.High))) with hc70 | hc70
             ·skip
              refine JL.skip (.bool rfl rfl rfl hc70) rfl ?_
              refine JL.skip (.bool rfl rfl rfl hc70) rfl ?_
              refine JL.skip (.bool rfl rfl rfl hc70) rfl ?_
              refine JL.skip (.bool rfl rfl rfl hc70) rfl ?_
              refine JL.skip (.bool rfl rfl rfl hc70) rfl ?_
              refine JL.pick_t (b := ((((y57.2 != 0) || (y61.2 != 0)) || (decide (y61.1.Low < y57.1.Low))) || (decide (y57.1.High < y61.1.High)))) rfl hc70 .none rfl ?_
              exact hJ69 _ ⟨rfl, rfl, rfl, rfl, or_t hc70 rfl⟩
             ·skip
              refine JL.fieldAddr fo_39_0 rfl (.some rfl rfl rfl hc70) rfl ?_
              refine JL.loadOwn 0 az_3 rfl rfl rfl (.some rfl rfl rfl hc70) rfl ?_
              refine JL.fieldAddr fo_39_1 rfl (.some rfl rfl rfl hc70) rfl ?_
              refine JL.loadOwn 0 az_3 rfl rfl rfl (.some rfl rfl rfl hc70) rfl ?_
              refine JL.bin rfl rfl rfl (.some rfl rfl rfl hc70) rfl ?_
              refine JL.pick_f (b := ((((y57.2 != 0) || (y61.2 != 0)) || (decide (y61.1.Low < y57.1.Low))) || (decide (y57.1.High < y61.1.High)))) rfl hc70 .none rfl ?_
              exact hJ69 _ ⟨rfl, rfl, rfl, rfl, or_f hc70 rfl⟩
            ·rintro f ⟨hf4, hf5, hf8, hf10, hf118⟩
             refine (JL.norm (i := 4) hf4 (JL.norm (i := 5) hf5 (JL.norm (i := 8) hf8 (JL.norm (i := 10) hf10 (JL.norm (i := 118) hf118 ?_)))))
             refine JL.done hQ (JQ.go ?_)
             rcases ite_some hF with ⟨hc71, hF⟩ | ⟨hc71, hF⟩
             ·refine JC.cond_t (b := (((((y57.2 != 0) || (y61.2 != 0)) || (decide (y61.1.Low < y57.1.Low))) || (decide (y57.1.High < y61.1.High))) || (decide (y61.1.High < y61.1.Low)))) rfl hc71 ?_
              refine JC.seq (JC.region (by rfl) ?_)
              intro hQ
              refine JL.assign .none rfl ?_
              refine JL.done hQ (JQ.go (JC.ret (JQ.ret_then ?_)))
              obtain rfl := Option.some.inj hF
              exact JQ.outS rfl (.tmp .nil) rfl
             ·refine JC.cond_f (b := (((((y57.2 != 0) || (y61.2 != 0)) || (decide (y61.1.Low < y57.1.Low))) || (decide (y57.1.High < y61.1.High))) || (decide (y61.1.High < y61.1.Low)))) rfl hc71 ?_
              refine JC.skip (JQ.go (JC.seq ?_))
              obtain ⟨y73, hy73, hF⟩ := bind_some hF
              obtain ⟨y77, hy77, hF⟩ := bind_some hF
              refine JC.mixed 8 8 #[false, false, false, false, false, false, false, false] [(b62, .cells [.int .i64 y61.1.Low, .int .i64 y61.1.High].toArray 39), (b58, .cells [.int .i64 y57.1.Low, .int .i64 y57.1.High].toArray 39), (b46, .cells [.int .i64 x_.Trial.Spare, .int .i64 x_.Trial.Make, .int .i64 x_.Trial.Slot, .int .i64 x_.Trial.Fits].toArray 55), (b44, .cells [y34_v0, y34_v1, .int .i64 y34.Cut, v48].toArray 48), (b3, .cells [.int .i64 x_.Spare, .int .i64 x_.Section, .int .i64 x_.Trial.Spare, .int .i64 x_.Trial.Make, .int .i64 x_.Trial.Slot, .int .i64 x_.Trial.Fits].toArray 57), (b2, .cells [f__v0, .int .i64 f_.Low, .int .i64 f_.High, .int .i64 f_.Ease.Num, .int .i64 f_.Ease.Den, .int .i64 f_.Rod, .int .i64 f_.Case].toArray 53), (b1, .cells [w__v0, w__v1, .int .i64 w_.Cut, w__v3].toArray 48)] (by rfl) mo_ (by kernel_rfl) (by kernel_rfl) ?_
              intro hQ hE
              refine JA.cut 2 #[true, true, true, true, true, true, false, false] (fun H123 f bs gs => ∃ (b116 : Nat) (b103 : Nat) (y77_v0 : Value) (y77_xs0 : List Value) (y73_v0 : Value) (y73_xs0 : List Value), f 5 = .pointer (some ⟨b3, 0, none⟩) ∧ f 8 = .pointer (some ⟨b58, 0, none⟩) ∧ f 10 = .pointer (some ⟨b62, 0, none⟩) ∧ f 12 = .pointer (some ⟨b103, 0, none⟩) ∧ f 13 = .pointer (some ⟨b116, 0, none⟩) ∧ f 120 = .agg [y73_v0, .int .i64 y73.Low, .int .i64 y73.High, .int .i64 y73.Ease.Num, .int .i64 y73.Ease.Den, .int .i64 y73.Rod, .int .i64 y73.Case].toArray ∧ f 122 = .agg [y77_v0, .int .i64 y77.Low, .int .i64 y77.High, .int .i64 y77.Ease.Num, .int .i64 y77.Ease.Den, .int .i64 y77.Rod, .int .i64 y77.Case].toArray ∧ bs = [(b116, .cells [.slice none 0 0, .int .i64 0, .int .i64 0, .int .i64 0, .int .i64 0, .int .i64 0, .int .i64 0].toArray 53), (b103, .cells [.slice none 0 0, .int .i64 0, .int .i64 0, .int .i64 0, .int .i64 0, .int .i64 0, .int .i64 0].toArray 53), (b62, .cells [.int .i64 y61.1.Low, .int .i64 y61.1.High].toArray 39), (b58, .cells [.int .i64 y57.1.Low, .int .i64 y57.1.High].toArray 39), (b46, .cells [.int .i64 x_.Trial.Spare, .int .i64 x_.Trial.Make, .int .i64 x_.Trial.Slot, .int .i64 x_.Trial.Fits].toArray 55), (b44, .cells [y34_v0, y34_v1, .int .i64 y34.Cut, v48].toArray 48), (b3, .cells [.int .i64 x_.Spare, .int .i64 x_.Section, .int .i64 x_.Trial.Spare, .int .i64 x_.Trial.Make, .int .i64 x_.Trial.Slot, .int .i64 x_.Trial.Fits].toArray 57), (b2, .cells [f__v0, .int .i64 f_.Low, .int .i64 f_.High, .int .i64 f_.Ease.Num, .int .i64 f_.Ease.Den, .int .i64 f_.Rod, .int .i64 f_.Case].toArray 53), (b1, .cells [w__v0, w__v1, .int .i64 w_.Cut, w__v3].toArray 48)] ∧ gs = [⟨y77_v0, 68, 7, y77.Sections.length, y77_xs0⟩, ⟨y73_v0, 68, 7, y73.Sections.length, y73_xs0⟩, ⟨v48, 55, 4, l47.length, xs49⟩] ∧ CH H123 7 R_Section y77_xs0 y77.Sections ∧ CH H123 7 R_Section y73_xs0 y73.Sections ∧ HSub H42 H123) ?_ ?_
              ·rintro H123 f bs gs ⟨b116, b103, y77_v0, y77_xs0, y73_v0, y73_xs0, hf5, hf8, hf10, hf12, hf13, hf120, hf122, rfl, rfl, hm124, hm125, hs123⟩
               refine (JA.norm (i := 5) hf5 (JA.norm (i := 8) hf8 (JA.norm (i := 10) hf10 (JA.norm (i := 12) hf12 (JA.norm (i := 13) hf13 (JA.norm (i := 120) hf120 (JA.norm (i := 122) hf122 ?_)))))))
               refine JA.many [6] (by kernel_rfl) (by simp) (all_one ⟨_, #[true, true, true, true, true, true, true, false], rfl, (by kernel_rfl), ?_⟩)
               refine JL.oneG 1 rfl (fun ho126 => ?_)
               refine JL.storeOwn 1 (cs := [y73_v0, .int .i64 y73.Low, .int .i64 y73.High, .int .i64 y73.Ease.Num, .int .i64 y73.Ease.Den, .int .i64 y73.Rod, .int .i64 y73.Case]) az_53 rfl rfl rfl (one_cons ho126.1 (one_cons rfl (one_cons rfl (one_cons rfl (one_cons rfl (one_cons rfl (one_cons rfl one_nil))))))) rfl rfl .none ?_
               refine JA.after hE hs123 (.cons _ (.cons _ (.cons_cons _ (.cons_cons _ (.cons_cons _ (.cons_cons _ (.cons_cons _ (.cons_cons _ (.cons_cons _ (List.nil_sublist _)))))))))) ?_
               refine JA.many [7] (by kernel_rfl) (by simp) (all_one ⟨_, #[true, true, true, true, true, true, true, true], rfl, (by kernel_rfl), ?_⟩)
               refine JL.oneG 0 rfl (fun ho127 => ?_)
               refine JL.storeOwn 0 (cs := [y77_v0, .int .i64 y77.Low, .int .i64 y77.High, .int .i64 y77.Ease.Num, .int .i64 y77.Ease.Den, .int .i64 y77.Rod, .int .i64 y77.Case]) az_53 rfl rfl rfl (one_cons ho127.1 (one_cons rfl (one_cons rfl (one_cons rfl (one_cons rfl (one_cons rfl (one_cons rfl one_nil))))))) rfl rfl .none ?_
               refine JA.after hE hs123 (.cons _ (.cons _ (.cons_cons _ (.cons_cons _ (.cons_cons _ (.cons_cons _ (.cons_cons _ (.cons_cons _ (.cons_cons _ (List.nil_sublist _)))))))))) ?_
               refine JA.done hQ (by kernel_rfl) ?_
               refine JQ.go (JC.seq ?_)
               obtain ⟨y131, hy131, hF⟩ := bind_some hF
               obtain ⟨y136, hy136, hF⟩ := bind_some hF
               refine JC.mixed 16 16 #[false, false, false, false, false, false, false, false, false, false, false, false, false, false, false, false] [(b116, .cells [y77_v0, .int .i64 y77.Low, .int .i64 y77.High, .int .i64 y77.Ease.Num, .int .i64 y77.Ease.Den, .int .i64 y77.Rod, .int .i64 y77.Case].toArray 53), (b103, .cells [y73_v0, .int .i64 y73.Low, .int .i64 y73.High, .int .i64 y73.Ease.Num, .int .i64 y73.Ease.Den, .int .i64 y73.Rod, .int .i64 y73.Case].toArray 53), (b62, .cells [.int .i64 y61.1.Low, .int .i64 y61.1.High].toArray 39), (b58, .cells [.int .i64 y57.1.Low, .int .i64 y57.1.High].toArray 39), (b46, .cells [.int .i64 x_.Trial.Spare, .int .i64 x_.Trial.Make, .int .i64 x_.Trial.Slot, .int .i64 x_.Trial.Fits].toArray 55), (b44, .cells [y34_v0, y34_v1, .int .i64 y34.Cut, v48].toArray 48), (b3, .cells [.int .i64 x_.Spare, .int .i64 x_.Section, .int .i64 x_.Trial.Spare, .int .i64 x_.Trial.Make, .int .i64 x_.Trial.Slot, .int .i64 x_.Trial.Fits].toArray 57), (b2, .cells [f__v0, .int .i64 f_.Low, .int .i64 f_.High, .int .i64 f_.Ease.Num, .int .i64 f_.Ease.Den, .int .i64 f_.Rod, .int .i64 f_.Case].toArray 53), (b1, .cells [w__v0, w__v1, .int .i64 w_.Cut, w__v3].toArray 48)] (by rfl) mo_ (by kernel_rfl) (by kernel_rfl) ?_
               intro hQ hE
               refine JA.take 0 (listed' := #[true, false, false, false, false, false, false, false, false, false, false, false, false, false, false, false]) hQ rfl (by kernel_rfl) (by kernel_rfl) (by kernel_rfl) (by kernel_rfl) (by kernel_rfl) hE (HSub.refl _) (.cons_cons _ (.cons_cons _ (.cons_cons _ (.cons_cons _ (.cons_cons _ (.cons_cons _ (.cons_cons _ (.cons_cons _ (.cons_cons _ (List.nil_sublist _)))))))))) ?_
               refine JL.fieldAddr fo_53_0 rfl .none rfl ?_
               refine JA.cont ?_
               refine JA.take 1 (listed' := #[true, true, false, false, false, false, false, false, false, false, false, false, false, false, false, false]) hQ rfl (by kernel_rfl) (by kernel_rfl) (by kernel_rfl) (by kernel_rfl) (by kernel_rfl) hE (HSub.refl _) (.cons_cons _ (.cons_cons _ (.cons_cons _ (.cons_cons _ (.cons_cons _ (.cons_cons _ (.cons_cons _ (.cons_cons _ (.cons_cons _ (List.nil_sublist _)))))))))) ?_
               refine JL.loadOwn 1 az_49 rfl rfl rfl .none rfl ?_
               refine JA.cont ?_
               refine JA.take 2 (listed' := #[true, true, true, false, false, false, false, false, false, false, false, false, false, false, false, false]) hQ rfl (by kernel_rfl) (by kernel_rfl) (by kernel_rfl) (by kernel_rfl) (by kernel_rfl) hE (HSub.refl _) (.cons_cons _ (.cons_cons _ (.cons_cons _ (.cons_cons _ (.cons_cons _ (.cons_cons _ (.cons_cons _ (.cons_cons _ (.cons_cons _ (List.nil_sublist _)))))))))) ?_
               refine JL.fieldAddr fo_57_1 rfl .none rfl ?_
               refine JA.cont ?_
               refine JA.take 3 (listed' := #[true, true, true, true, false, false, false, false, false, false, false, false, false, false, false, false]) hQ rfl (by kernel_rfl) (by kernel_rfl) (by kernel_rfl) (by kernel_rfl) (by kernel_rfl) hE (HSub.refl _) (.cons_cons _ (.cons_cons _ (.cons_cons _ (.cons_cons _ (.cons_cons _ (.cons_cons _ (.cons_cons _ (.cons_cons _ (.cons_cons _ (List.nil_sublist _)))))))))) ?_
               refine JL.loadOwn 6 az_3 rfl rfl rfl .none rfl ?_
               refine JA.cont ?_
               refine JA.take 4 (listed' := #[true, true, true, true, true, false, false, false, false, false, false, false, false, false, false, false]) hQ rfl (by kernel_rfl) (by kernel_rfl) (by kernel_rfl) (by kernel_rfl) (by kernel_rfl) hE (HSub.refl _) (.cons_cons _ (.cons_cons _ (.cons_cons _ (.cons_cons _ (.cons_cons _ (.cons_cons _ (.cons_cons _ (.cons_cons _ (.cons_cons _ (List.nil_sublist _)))))))))) ?_
               refine JL.fieldAddr fo_53_0 rfl .none rfl ?_
               refine JA.cont ?_
               refine JA.take 5 (listed' := #[true, true, true, true, true, true, false, false, false, false, false, false, false, false, false, false]) hQ rfl (by kernel_rfl) (by kernel_rfl) (by kernel_rfl) (by kernel_rfl) (by kernel_rfl) hE (HSub.refl _) (.cons_cons _ (.cons_cons _ (.cons_cons _ (.cons_cons _ (.cons_cons _ (.cons_cons _ (.cons_cons _ (.cons_cons _ (.cons_cons _ (List.nil_sublist _)))))))))) ?_
               refine JL.loadOwn 0 az_49 rfl rfl rfl .none rfl ?_
               refine JA.cont ?_
               refine JA.take 6 (listed' := #[true, true, true, true, true, true, true, false, false, false, false, false, false, false, false, false]) hQ rfl (by kernel_rfl) (by kernel_rfl) (by kernel_rfl) (by kernel_rfl) (by kernel_rfl) hE (HSub.refl _) (.cons_cons _ (.cons_cons _ (.cons_cons _ (.cons_cons _ (.cons_cons _ (.cons_cons _ (.cons_cons _ (.cons_cons _ (.cons_cons _ (List.nil_sublist _)))))))))) ?_
               refine JL.fieldAddr fo_57_1 rfl .none rfl ?_
               refine JA.cont ?_
               refine JA.take 7 (listed' := #[true, true, true, true, true, true, true, true, false, false, false, false, false, false, false, false]) hQ rfl (by kernel_rfl) (by kernel_rfl) (by kernel_rfl) (by kernel_rfl) (by kernel_rfl) hE (HSub.refl _) (.cons_cons _ (.cons_cons _ (.cons_cons _ (.cons_cons _ (.cons_cons _ (.cons_cons _ (.cons_cons _ (.cons_cons _ (.cons_cons _ (List.nil_sublist _)))))))))) ?_
               refine JL.loadOwn 6 az_3 rfl rfl rfl .none rfl ?_
               refine JA.cont ?_
               refine JA.take 8 (listed' := #[true, true, true, true, true, true, true, true, true, false, false, false, false, false, false, false]) hQ rfl (by kernel_rfl) (by kernel_rfl) (by kernel_rfl) (by kernel_rfl) (by kernel_rfl) hE (HSub.refl _) (.cons_cons _ (.cons_cons _ (.cons_cons _ (.cons_cons _ (.cons_cons _ (.cons_cons _ (.cons_cons _ (.cons_cons _ (.cons_cons _ (List.nil_sublist _)))))))))) ?_
               refine JL.loadOwn 3 az_39 rfl rfl rfl .none rfl ?_
               refine JA.cont ?_
               refine JA.take 9 (listed' := #[true, true, true, true, true, true, true, true, true, true, false, false, false, false, false, false]) hQ rfl (by kernel_rfl) (by kernel_rfl) (by kernel_rfl) (by kernel_rfl) (by kernel_rfl) hE (HSub.refl _) (.cons_cons _ (.cons_cons _ (.cons_cons _ (.cons_cons _ (.cons_cons _ (.cons_cons _ (.cons_cons _ (.cons_cons _ (.cons_cons _ (List.nil_sublist _)))))))))) ?_
               refine JL.loadOwn 2 az_39 rfl rfl rfl .none rfl ?_
               refine JA.cont ?_
               refine JA.many [10] (by kernel_rfl) (by simp) (all_one ⟨_, #[true, true, true, true, true, true, true, true, true, true, true, false, false, false, false, false], rfl, (by kernel_rfl), ?_⟩)
               refine JL.indexG 1 (l := y73.Sections) sl_49 rfl rfl rfl rfl hy131 .none rfl ?_
               intro b225 hb226
               refine JA.after hE (HSub.refl _) (.cons_cons _ (.cons_cons _ (.cons_cons _ (.cons_cons _ (.cons_cons _ (.cons_cons _ (.cons_cons _ (.cons_cons _ (.cons_cons _ (List.nil_sublist _)))))))))) ?_
               refine JA.take 11 (listed' := #[true, true, true, true, true, true, true, true, true, true, true, true, false, false, false, false]) hQ rfl (by kernel_rfl) (by kernel_rfl) (by kernel_rfl) (by kernel_rfl) (by kernel_rfl) hE (HSub.refl _) (.cons_cons _ (.cons_cons _ (.cons_cons _ (.cons_cons _ (.cons_cons _ (.cons_cons _ (.cons_cons _ (.cons_cons _ (.cons_cons _ (List.nil_sublist _)))))))))) ?_
               refine JL.fieldAddr fo_68_0 rfl .none rfl ?_
               refine JA.cont ?_
               refine JA.many [12] (by kernel_rfl) (by simp) (all_one ⟨_, #[true, true, true, true, true, true, true, true, true, true, true, true, true, false, false, false], rfl, (by kernel_rfl), ?_⟩)
               refine JL.storeG (R := R_Section) 1 (i := x_.Section) (l := y73.Sections) (y := y131) (y' := (Section.mk y57.1 y131.Stretch y131.Base y131.Gear)) (off := 0) az_39 rfl rfl rfl rfl (one_cons rfl (one_cons rfl one_nil)) rfl hb226 hm125 rfl hy131 rfl (by rintro cs rfl; rfl) .none ?_
               intro xs227 hch228
               refine JA.after hE (HSub.refl _) (.cons_cons _ (.cons_cons _ (.cons_cons _ (.cons_cons _ (.cons_cons _ (.cons_cons _ (.cons_cons _ (.cons_cons _ (.cons_cons _ (List.nil_sublist _)))))))))) ?_
               refine JA.many [13] (by kernel_rfl) (by simp) (all_one ⟨_, #[true, true, true, true, true, true, true, true, true, true, true, true, true, true, false, false], rfl, (by kernel_rfl), ?_⟩)
               refine JL.indexG 0 (l := y77.Sections) sl_49 rfl rfl rfl rfl hy136 .none rfl ?_
               intro b229 hb230
               refine JA.after hE (HSub.refl _) (.cons_cons _ (.cons_cons _ (.cons_cons _ (.cons_cons _ (.cons_cons _ (.cons_cons _ (.cons_cons _ (.cons_cons _ (.cons_cons _ (List.nil_sublist _)))))))))) ?_
               refine JA.take 14 (listed' := #[true, true, true, true, true, true, true, true, true, true, true, true, true, true, true, false]) hQ rfl (by kernel_rfl) (by kernel_rfl) (by kernel_rfl) (by kernel_rfl) (by kernel_rfl) hE (HSub.refl _) (.cons_cons _ (.cons_cons _ (.cons_cons _ (.cons_cons _ (.cons_cons _ (.cons_cons _ (.cons_cons _ (.cons_cons _ (.cons_cons _ (List.nil_sublist _)))))))))) ?_
               refine JL.fieldAddr fo_68_0 rfl .none rfl ?_
               refine JA.cont ?_
               refine JA.many [15] (by kernel_rfl) (by simp) (all_one ⟨_, #[true, true, true, true, true, true, true, true, true, true, true, true, true, true, true, true], rfl, (by kernel_rfl), ?_⟩)
               refine JL.storeG (R := R_Section) 0 (i := x_.Section) (l := y77.Sections) (y := y136) (y' := (Section.mk y61.1 y136.Stretch y136.Base y136.Gear)) (off := 0) az_39 rfl rfl rfl rfl (one_cons rfl (one_cons rfl one_nil)) rfl hb230 hm124 rfl hy136 rfl (by rintro cs rfl; rfl) .none ?_
               intro xs231 hch232
               refine JA.after hE (HSub.refl _) (.cons_cons _ (.cons_cons _ (.cons_cons _ (.cons_cons _ (.cons_cons _ (.cons_cons _ (.cons_cons _ (.cons_cons _ (.cons_cons _ (List.nil_sublist _)))))))))) ?_
               refine JA.done hQ (by kernel_rfl) ?_
               refine JQ.go (JC.fresh (fun f => f 5 = .pointer (some ⟨b3, 0, none⟩) ∧ f 12 = .pointer (some ⟨b103, 0, none⟩) ∧ f 13 = .pointer (some ⟨b116, 0, none⟩)) ⟨rfl, rfl, rfl⟩ ?_)
               rintro f ⟨hf5, hf12, hf13⟩
               refine (JC.norm (i := 5) hf5 (JC.norm (i := 12) hf12 (JC.norm (i := 13) hf13 ?_)))
               refine JC.seq (JC.seq (JC.region (by rfl) ?_))
               intro hQ
               refine JL.loadOwn 1 az_53 rfl rfl rfl .none rfl ?_
               obtain ⟨y235, hy235, hF⟩ := bind_some hF
               refine JL.callLG1 (R := R_Section) 1 rfl R_Section_mono hch228 rfl (fun H233 hs233 hg234 => c_ref01_Check n H233 (Frame.mk (setx y73.Sections x_.Section (Section.mk y57.1 y131.Stretch y131.Base y131.Gear)) y73.Low y73.High y73.Ease y73.Rod y73.Case) y73_v0 hg234 y235 hy235) rfl en_21 .none rfl ?_
               refine JL.bin rfl rfl rfl .none rfl ?_
               refine JL.move .none rfl ?_
               obtain ⟨p239, hp239, hF⟩ := bind_some hF
               refine JL.cut 4 (fun f => f 5 = .pointer (some ⟨b3, 0, none⟩) ∧ f 12 = .pointer (some ⟨b103, 0, none⟩) ∧ f 13 = .pointer (some ⟨b116, 0, none⟩) ∧ f 144 = .bool p239) ?_ ?_
               ·intro hJ240
                rcases ite_some hp239 with ⟨hc241, hF⟩ | ⟨hc241, hF⟩
                ·skip
                 refine JL.skip (.bool rfl rfl rfl hc241) rfl ?_
                 refine JL.skip (.bool rfl rfl rfl hc241) rfl ?_
                 refine JL.skip (.bool rfl rfl rfl hc241) rfl ?_
                 refine JL.pick_t (b := (y235 != 0)) rfl hc241 .none rfl ?_
                 obtain rfl := Option.some.inj hF
                 exact hJ240 _ ⟨rfl, rfl, rfl, rfl⟩
                ·skip
                 refine JL.loadOwn 0 az_53 rfl rfl rfl (.some rfl rfl rfl hc241) rfl ?_
                 obtain ⟨y244, hy244, hF⟩ := bind_some hF
                 refine JL.callLG1 (R := R_Section) 0 rfl R_Section_mono hch232 rfl (fun H242 hs242 hg243 => c_ref01_Check n H242 (Frame.mk (setx y77.Sections x_.Section (Section.mk y61.1 y136.Stretch y136.Base y136.Gear)) y77.Low y77.High y77.Ease y77.Rod y77.Case) y77_v0 hg243 y244 hy244) rfl en_21 (.some rfl rfl rfl hc241) rfl ?_
                 refine JL.bin rfl rfl rfl (.some rfl rfl rfl hc241) rfl ?_
                 refine JL.pick_f (b := (y235 != 0)) rfl hc241 .none rfl ?_
                 obtain rfl := Option.some.inj hF
                 exact hJ240 _ ⟨rfl, rfl, rfl, rfl⟩
               ·rintro f ⟨hf5, hf12, hf13, hf144⟩
                refine (JL.norm (i := 5) hf5 (JL.norm (i := 12) hf12 (JL.norm (i := 13) hf13 (JL.norm (i := 144) hf144 ?_))))
                refine JL.done hQ (JQ.go ?_)
                rcases ite_some hF with ⟨hc245, hF⟩ | ⟨hc245, hF⟩
                ·refine JC.cond_t (b := p239) rfl hc245 ?_
                 refine JC.seq (JC.region (by rfl) ?_)
                 intro hQ
                 obtain ⟨y246, hy246, hF⟩ := bind_some hF
                 refine JL.callS (c_top_fitted n H123 y246 hy246) rfl en_24 .none rfl ?_
                 refine JL.assign .none rfl ?_
                 refine JL.done hQ (JQ.go (JC.ret (JQ.ret_then ?_)))
                 obtain rfl := Option.some.inj hF
                 exact JQ.outS rfl (.tmp .nil) rfl
                ·refine JC.cond_f (b := p239) rfl hc245 ?_
                 refine JC.skip (JQ.go (JC.seq (JC.region (by rfl) ?_)))
                 intro hQ
                 refine JL.loadOwn 1 az_53 rfl rfl rfl .none rfl ?_
                 refine JL.fieldAddr fo_57_1 rfl .none rfl ?_
                 refine JL.loadOwn 6 az_3 rfl rfl rfl .none rfl ?_
                 refine JL.fieldAddr fo_53_1 rfl .none rfl ?_
                 refine JL.loadOwn 1 az_3 rfl rfl rfl .none rfl ?_
                 obtain ⟨y249, hy249, hF⟩ := bind_some hF
                 refine JL.callLG1 (R := R_Section) 1 rfl R_Section_mono hch228 rfl (fun H247 hs247 hg248 => c_frames_Cosine n H247 (Frame.mk (setx y73.Sections x_.Section (Section.mk y57.1 y131.Stretch y131.Base y131.Gear)) y73.Low y73.High y73.Ease y73.Rod y73.Case) y73_v0 hg248 x_.Section y73.Low y249 hy249) rfl en_28 .none rfl ?_
                 refine JL.move .none rfl ?_
                 refine JL.extract rfl rfl .none rfl ?_
                 refine JL.extract rfl rfl .none rfl ?_
                 refine JL.extract rfl rfl .none rfl ?_
                 refine JL.alloc ze_51 .none rfl ?_
                 intro b250
                 refine JL.alloc ze_51 .none rfl ?_
                 intro b251
                 refine JL.storeOwn 1 (cs := [.int .i64 y249.1.Num, .int .i64 y249.1.Den]) az_51 rfl rfl rfl (one_cons rfl (one_cons rfl one_nil)) rfl rfl .none ?_
                 refine JL.storeOwn 0 (cs := [.int .i64 y249.2.1.Num, .int .i64 y249.2.1.Den]) az_51 rfl rfl rfl (one_cons rfl (one_cons rfl one_nil)) rfl rfl .none ?_
                 refine JL.assign .none rfl ?_
                 refine JL.done hQ (JQ.go (JC.fresh (fun f => f 5 = .pointer (some ⟨b3, 0, none⟩) ∧ f 12 = .pointer (some ⟨b103, 0, none⟩) ∧ f 13 = .pointer (some ⟨b116, 0, none⟩) ∧ f 14 = .pointer (some ⟨b250, 0, none⟩) ∧ f 15 = .pointer (some ⟨b251, 0, none⟩) ∧ f 16 = .int .i64 y249.2.2) ⟨rfl, rfl, rfl, rfl, rfl, rfl⟩ ?_))
                 rintro f ⟨hf5, hf12, hf13, hf14, hf15, hf16⟩
                 refine (JC.norm (i := 5) hf5 (JC.norm (i := 12) hf12 (JC.norm (i := 13) hf13 (JC.norm (i := 14) hf14 (JC.norm (i := 15) hf15 (JC.norm (i := 16) hf16 ?_))))))
                 refine JC.seq (JC.region (by rfl) ?_)
                 intro hQ
                 refine JL.loadOwn 2 az_53 rfl rfl rfl .none rfl ?_
                 refine JL.fieldAddr fo_57_1 rfl .none rfl ?_
                 refine JL.loadOwn 8 az_3 rfl rfl rfl .none rfl ?_
                 refine JL.fieldAddr fo_53_1 rfl .none rfl ?_
                 refine JL.loadOwn 2 az_3 rfl rfl rfl .none rfl ?_
                 obtain ⟨y254, hy254, hF⟩ := bind_some hF
                 refine JL.callLG1 (R := R_Section) 0 rfl R_Section_mono hch232 rfl (fun H252 hs252 hg253 => c_frames_Cosine n H252 (Frame.mk (setx y77.Sections x_.Section (Section.mk y61.1 y136.Stretch y136.Base y136.Gear)) y77.Low y77.High y77.Ease y77.Rod y77.Case) y77_v0 hg253 x_.Section y77.Low y254 hy254) rfl en_28 .none rfl ?_
                 refine JL.move .none rfl ?_
                 refine JL.extract rfl rfl .none rfl ?_
                 refine JL.extract rfl rfl .none rfl ?_
                 refine JL.extract rfl rfl .none rfl ?_
                 refine JL.alloc ze_51 .none rfl ?_
                 intro b255
                 refine JL.alloc ze_51 .none rfl ?_
                 intro b256
                 refine JL.storeOwn 1 (cs := [.int .i64 y254.1.Num, .int .i64 y254.1.Den]) az_51 rfl rfl rfl (one_cons rfl (one_cons rfl one_nil)) rfl rfl .none ?_
                 refine JL.storeOwn 0 (cs := [.int .i64 y254.2.1.Num, .int .i64 y254.2.1.Den]) az_51 rfl rfl rfl (one_cons rfl (one_cons rfl one_nil)) rfl rfl .none ?_
                 refine JL.assign .none rfl ?_
                 refine JL.done hQ (JQ.go (JC.fresh (fun f => f 5 = .pointer (some ⟨b3, 0, none⟩) ∧ f 12 = .pointer (some ⟨b103, 0, none⟩) ∧ f 13 = .pointer (some ⟨b116, 0, none⟩) ∧ f 14 = .pointer (some ⟨b250, 0, none⟩) ∧ f 15 = .pointer (some ⟨b251, 0, none⟩) ∧ f 16 = .int .i64 y249.2.2 ∧ f 17 = .pointer (some ⟨b255, 0, none⟩) ∧ f 18 = .pointer (some ⟨b256, 0, none⟩) ∧ f 19 = .int .i64 y254.2.2) ⟨rfl, rfl, rfl, rfl, rfl, rfl, rfl, rfl, rfl⟩ ?_))
                 rintro f ⟨hf5, hf12, hf13, hf14, hf15, hf16, hf17, hf18, hf19⟩
                 refine (JC.norm (i := 5) hf5 (JC.norm (i := 12) hf12 (JC.norm (i := 13) hf13 (JC.norm (i := 14) hf14 (JC.norm (i := 15) hf15 (JC.norm (i := 16) hf16 (JC.norm (i := 17) hf17 (JC.norm (i := 18) hf18 (JC.norm (i := 19) hf19 ?_)))))))))
                 refine JC.seq (JC.seq (JC.region (by rfl) ?_))
                 intro hQ
                 refine JL.move .none rfl ?_
                 refine JL.move .none rfl ?_
                 refine JL.bin rfl rfl rfl .none rfl ?_
                 refine JL.move .none rfl ?_
                 refine JL.cut 7 (fun f => f 5 = .pointer (some ⟨b3, 0, none⟩) ∧ f 12 = .pointer (some ⟨b103, 0, none⟩) ∧ f 13 = .pointer (some ⟨b116, 0, none⟩) ∧ f 14 = .pointer (some ⟨b250, 0, none⟩) ∧ f 15 = .pointer (some ⟨b251, 0, none⟩) ∧ f 16 = .int .i64 y249.2.2 ∧ f 17 = .pointer (some ⟨b255, 0, none⟩) ∧ f 18 = .pointer (some ⟨b256, 0, none⟩) ∧ f 176 = .bool ((y249.2.2 != y254.2.2) || ((y249.2.2 != 0) && (y249.2.2 != 3)))) ?_ ?_
                 ·intro hJ259
                  rcases bcases (y249.2.2 != y254.2.2) with hc260 | hc260
                  ·skip
                   refine JL.skip (.bool rfl rfl rfl hc260) rfl ?_
                   refine JL.skip (.bool rfl rfl rfl hc260) rfl ?_
                   refine JL.skip (.bool rfl rfl rfl hc260) rfl ?_
                   refine JL.skip (.no rfl rfl rfl) rfl ?_
                   refine JL.skip (.no rfl rfl rfl) rfl ?_
                   refine JL.skip (.bool rfl rfl rfl hc260) rfl ?_
                   refine JL.pick_t (b := (y249.2.2 != y254.2.2)) rfl hc260 .none rfl ?_
                   exact hJ259 _ ⟨rfl, rfl, rfl, rfl, rfl, rfl, rfl, rfl, or_t hc260 rfl⟩
                  ·skip
                   refine JL.move (.some rfl rfl rfl hc260) rfl ?_
                   refine JL.bin rfl rfl rfl (.some rfl rfl rfl hc260) rfl ?_
                   refine JL.move (.some rfl rfl rfl hc260) rfl ?_
                   refine JL.cut 3 (fun f => f 5 = .pointer (some ⟨b3, 0, none⟩) ∧ f 12 = .pointer (some ⟨b103, 0, none⟩) ∧ f 13 = .pointer (some ⟨b116, 0, none⟩) ∧ f 14 = .pointer (some ⟨b250, 0, none⟩) ∧ f 15 = .pointer (some ⟨b251, 0, none⟩) ∧ f 16 = .int .i64 y249.2.2 ∧ f 17 = .pointer (some ⟨b255, 0, none⟩) ∧ f 18 = .pointer (some ⟨b256, 0, none⟩) ∧ f 169 = .bool (y249.2.2 != y254.2.2) ∧ f 175 = .bool ((y249.2.2 != 0) && (y249.2.2 != 3))) ?_ ?_
                   ·intro hJ261
                    rcases bcases (y249.2.2 != 0) with hc262 | hc262
                    ·skip
                     refine JL.move (.some rfl rfl rfl hc262) rfl ?_
                     refine JL.bin rfl rfl rfl (.some rfl rfl rfl hc262) rfl ?_
                     refine JL.pick_t (b := (y249.2.2 != 0)) rfl hc262 (.some rfl rfl rfl hc260) rfl ?_
                     exact hJ261 _ ⟨rfl, rfl, rfl, rfl, rfl, rfl, rfl, rfl, rfl, and_t hc262 rfl⟩
                    ·skip
                     refine JL.skip (.bool rfl rfl rfl hc262) rfl ?_
                     refine JL.skip (.bool rfl rfl rfl hc262) rfl ?_
                     refine JL.pick_f (b := (y249.2.2 != 0)) rfl hc262 (.some rfl rfl rfl hc260) rfl ?_
                     exact hJ261 _ ⟨rfl, rfl, rfl, rfl, rfl, rfl, rfl, rfl, rfl, and_f hc262 rfl⟩
                   ·rintro f ⟨hf5, hf12, hf13, hf14, hf15, hf16, hf17, hf18, hf169, hf175⟩
                    refine (JL.norm (i := 5) hf5 (JL.norm (i := 12) hf12 (JL.norm (i := 13) hf13 (JL.norm (i := 14) hf14 (JL.norm (i := 15) hf15 (JL.norm (i := 16) hf16 (JL.norm (i := 17) hf17 (JL.norm (i := 18) hf18 (JL.norm (i := 169) hf169 (JL.norm (i := 175) hf175 ?_))))))))))
                    refine JL.pick_f (b := (y249.2.2 != y254.2.2)) rfl hc260 .none rfl ?_
                    exact hJ259 _ ⟨rfl, rfl, rfl, rfl, rfl, rfl, rfl, rfl, or_f hc260 rfl⟩
                 ·rintro f ⟨hf5, hf12, hf13, hf14, hf15, hf16, hf17, hf18, hf176⟩
                  refine (JL.norm (i := 5) hf5 (JL.norm (i := 12) hf12 (JL.norm (i := 13) hf13 (JL.norm (i := 14) hf14 (JL.norm (i := 15) hf15 (JL.norm (i := 16) hf16 (JL.norm (i := 17) hf17 (JL.norm (i := 18) hf18 (JL.norm (i := 176) hf176 ?_)))))))))
                  refine JL.done hQ (JQ.go ?_)
                  rcases ite_some hF with ⟨hc263, hF⟩ | ⟨hc263, hF⟩
                  ·refine JC.cond_t (b := ((y249.2.2 != y254.2.2) || ((y249.2.2 != 0) && (y249.2.2 != 3)))) rfl hc263 ?_
                   refine JC.seq (JC.region (by rfl) ?_)
                   intro hQ
                   refine JL.assign .none rfl ?_
                   refine JL.done hQ (JQ.go (JC.ret (JQ.ret_then ?_)))
                   obtain rfl := Option.some.inj hF
                   exact JQ.outS rfl (.tmp .nil) rfl
                  ·refine JC.cond_f (b := ((y249.2.2 != y254.2.2) || ((y249.2.2 != 0) && (y249.2.2 != 3)))) rfl hc263 ?_
                   refine JC.skip (JQ.go (JC.seq (JC.seq (JC.region (by rfl) ?_))))
                   intro hQ
                   refine JL.move .none rfl ?_
                   refine JL.bin rfl rfl rfl .none rfl ?_
                   refine JL.move .none rfl ?_
                   obtain ⟨p280, hp280, hF⟩ := bind_some hF
                   refine JL.cut 57 (fun f => f 5 = .pointer (some ⟨b3, 0, none⟩) ∧ f 12 = .pointer (some ⟨b103, 0, none⟩) ∧ f 13 = .pointer (some ⟨b116, 0, none⟩) ∧ f 236 = .bool p280) ?_ ?_
                   ·intro hJ281
                    rcases ite_some hp280 with ⟨hc282, hF⟩ | ⟨hc282, hF⟩
                    ·skip
                     refine JL.fieldAddr fo_51_1 rfl (.some rfl rfl rfl hc282) rfl ?_
                     refine JL.loadOwn 3 az_3 rfl rfl rfl (.some rfl rfl rfl hc282) rfl ?_
                     refine JL.fieldAddr fo_51_1 rfl (.some rfl rfl rfl hc282) rfl ?_
                     refine JL.loadOwn 2 az_3 rfl rfl rfl (.some rfl rfl rfl hc282) rfl ?_
                     refine JL.fieldAddr fo_51_1 rfl (.some rfl rfl rfl hc282) rfl ?_
                     refine JL.loadOwn 1 az_3 rfl rfl rfl (.some rfl rfl rfl hc282) rfl ?_
                     refine JL.fieldAddr fo_51_1 rfl (.some rfl rfl rfl hc282) rfl ?_
                     refine JL.loadOwn 0 az_3 rfl rfl rfl (.some rfl rfl rfl hc282) rfl ?_
                     refine JL.min4 rfl rfl rfl rfl (.some rfl rfl rfl hc282) rfl ?_
                     refine JL.bin rfl rfl rfl (.some rfl rfl rfl hc282) rfl ?_
                     refine JL.move (.some rfl rfl rfl hc282) rfl ?_
                     refine JL.cut 11 (fun f => f 5 = .pointer (some ⟨b3, 0, none⟩) ∧ f 12 = .pointer (some ⟨b103, 0, none⟩) ∧ f 13 = .pointer (some ⟨b116, 0, none⟩) ∧ f 14 = .pointer (some ⟨b250, 0, none⟩) ∧ f 15 = .pointer (some ⟨b251, 0, none⟩) ∧ f 17 = .pointer (some ⟨b255, 0, none⟩) ∧ f 18 = .pointer (some ⟨b256, 0, none⟩) ∧ f 179 = .bool (y249.2.2 == 0) ∧ f 201 = .bool ((decide ((min (min (min y249.1.Den y249.2.1.Den) y254.1.Den) y254.2.1.Den) < 1)) || (decide (1073741824 < (max (max (max y249.1.Den y249.2.1.Den) y254.1.Den) y254.2.1.Den))))) ?_ ?_
                     ·intro hJ283
                      rcases bcases (decide ((min (min (min y249.1.Den y249.2.1.Den) y254.1.Den) y254.2.1.Den) < 1)) with hc284 | hc284
                      ·skip
                       refine JL.skip (.bool rfl rfl rfl hc284) rfl ?_
                       refine JL.skip (.bool rfl rfl rfl hc284) rfl ?_
                       refine JL.skip (.bool rfl rfl rfl hc284) rfl ?_
                       refine JL.skip (.bool rfl rfl rfl hc284) rfl ?_
                       refine JL.skip (.bool rfl rfl rfl hc284) rfl ?_
                       refine JL.skip (.bool rfl rfl rfl hc284) rfl ?_
                       refine JL.skip (.bool rfl rfl rfl hc284) rfl ?_
                       refine JL.skip (.bool rfl rfl rfl hc284) rfl ?_
                       refine JL.skip (.bool rfl rfl rfl hc284) rfl ?_
                       refine JL.skip (.bool rfl rfl rfl hc284) rfl ?_
                       refine JL.pick_t (b := decide ((min (min (min y249.1.Den y249.2.1.Den) y254.1.Den) y254.2.1.Den) < 1)) rfl hc284 (.some rfl rfl rfl hc282) rfl ?_
                       exact hJ283 _ ⟨rfl, rfl, rfl, rfl, rfl, rfl, rfl, rfl, or_t hc284 rfl⟩
                      ·skip
                       refine JL.fieldAddr fo_51_1 rfl (.some rfl rfl rfl hc284) rfl ?_
                       refine JL.loadOwn 3 az_3 rfl rfl rfl (.some rfl rfl rfl hc284) rfl ?_
                       refine JL.fieldAddr fo_51_1 rfl (.some rfl rfl rfl hc284) rfl ?_
                       refine JL.loadOwn 2 az_3 rfl rfl rfl (.some rfl rfl rfl hc284) rfl ?_
                       refine JL.fieldAddr fo_51_1 rfl (.some rfl rfl rfl hc284) rfl ?_
                       refine JL.loadOwn 1 az_3 rfl rfl rfl (.some rfl rfl rfl hc284) rfl ?_
                       refine JL.fieldAddr fo_51_1 rfl (.some rfl rfl rfl hc284) rfl ?_
                       refine JL.loadOwn 0 az_3 rfl rfl rfl (.some rfl rfl rfl hc284) rfl ?_
                       refine JL.max4 rfl rfl rfl rfl (.some rfl rfl rfl hc284) rfl ?_
                       refine JL.bin rfl rfl rfl (.some rfl rfl rfl hc284) rfl ?_
                       refine JL.pick_f (b := decide ((min (min (min y249.1.Den y249.2.1.Den) y254.1.Den) y254.2.1.Den) < 1)) rfl hc284 (.some rfl rfl rfl hc282) rfl ?_
                       exact hJ283 _ ⟨rfl, rfl, rfl, rfl, rfl, rfl, rfl, rfl, or_f hc284 rfl⟩
                     ·rintro f ⟨hf5, hf12, hf13, hf14, hf15, hf17, hf18, hf179, hf201⟩
                      refine (JL.norm (i := 5) hf5 (JL.norm (i := 12) hf12 (JL.norm (i := 13) hf13 (JL.norm (i := 14) hf14 (JL.norm (i := 15) hf15 (JL.norm (i := 17) hf17 (JL.norm (i := 18) hf18 (JL.norm (i := 179) hf179 (JL.norm (i := 201) hf201 ?_)))))))))
                      refine JL.move (.some rfl rfl rfl hc282) rfl ?_
                      refine JL.cut 11 (fun f => f 5 = .pointer (some ⟨b3, 0, none⟩) ∧ f 12 = .pointer (some ⟨b103, 0, none⟩) ∧ f 13 = .pointer (some ⟨b116, 0, none⟩) ∧ f 14 = .pointer (some ⟨b250, 0, none⟩) ∧ f 15 = .pointer (some ⟨b251, 0, none⟩) ∧ f 17 = .pointer (some ⟨b255, 0, none⟩) ∧ f 18 = .pointer (some ⟨b256, 0, none⟩) ∧ f 179 = .bool (y249.2.2 == 0) ∧ f 213 = .bool (((decide ((min (min (min y249.1.Den y249.2.1.Den) y254.1.Den) y254.2.1.Den) < 1)) || (decide (1073741824 < (max (max (max y249.1.Den y249.2.1.Den) y254.1.Den) y254.2.1.Den)))) || (decide (1073741824 < (max (max (max y249.1.Num y249.2.1.Num) y254.1.Num) y254.2.1.Num))))) ?_ ?_
                      ·intro hJ285
                       rcases bcases ((decide ((min (min (min y249.1.Den y249.2.1.Den) y254.1.Den) y254.2.1.Den) < 1)) || (decide (1073741824 < (max (max (max y249.1.Den y249.2.1.Den) y254.1.Den) y254.2.1.Den)))) with hc286 | hc286
                       ·skip
                        refine JL.skip (.bool rfl rfl rfl hc286) rfl ?_
                        refine JL.skip (.bool rfl rfl rfl hc286) rfl ?_
                        refine JL.skip (.bool rfl rfl rfl hc286) rfl ?_
                        refine JL.skip (.bool rfl rfl rfl hc286) rfl ?_
                        refine JL.skip (.bool rfl rfl rfl hc286) rfl ?_
                        refine JL.skip (.bool rfl rfl rfl hc286) rfl ?_
                        refine JL.skip (.bool rfl rfl rfl hc286) rfl ?_
                        refine JL.skip (.bool rfl rfl rfl hc286) rfl ?_
                        refine JL.skip (.bool rfl rfl rfl hc286) rfl ?_
                        refine JL.skip (.bool rfl rfl rfl hc286) rfl ?_
                        refine JL.pick_t (b := ((decide ((min (min (min y249.1.Den y249.2.1.Den) y254.1.Den) y254.2.1.Den) < 1)) || (decide (1073741824 < (max (max (max y249.1.Den y249.2.1.Den) y254.1.Den) y254.2.1.Den))))) rfl hc286 (.some rfl rfl rfl hc282) rfl ?_
                        exact hJ285 _ ⟨rfl, rfl, rfl, rfl, rfl, rfl, rfl, rfl, or_t hc286 rfl⟩
                       ·skip
                        refine JL.fieldAddr fo_51_0 rfl (.some rfl rfl rfl hc286) rfl ?_
                        refine JL.loadOwn 3 az_3 rfl rfl rfl (.some rfl rfl rfl hc286) rfl ?_
                        refine JL.fieldAddr fo_51_0 rfl (.some rfl rfl rfl hc286) rfl ?_
                        refine JL.loadOwn 2 az_3 rfl rfl rfl (.some rfl rfl rfl hc286) rfl ?_
                        refine JL.fieldAddr fo_51_0 rfl (.some rfl rfl rfl hc286) rfl ?_
                        refine JL.loadOwn 1 az_3 rfl rfl rfl (.some rfl rfl rfl hc286) rfl ?_
                        refine JL.fieldAddr fo_51_0 rfl (.some rfl rfl rfl hc286) rfl ?_
                        refine JL.loadOwn 0 az_3 rfl rfl rfl (.some rfl rfl rfl hc286) rfl ?_
                        refine JL.max4 rfl rfl rfl rfl (.some rfl rfl rfl hc286) rfl ?_
                        refine JL.bin rfl rfl rfl (.some rfl rfl rfl hc286) rfl ?_
                        refine JL.pick_f (b := ((decide ((min (min (min y249.1.Den y249.2.1.Den) y254.1.Den) y254.2.1.Den) < 1)) || (decide (1073741824 < (max (max (max y249.1.Den y249.2.1.Den) y254.1.Den) y254.2.1.Den))))) rfl hc286 (.some rfl rfl rfl hc282) rfl ?_
                        exact hJ285 _ ⟨rfl, rfl, rfl, rfl, rfl, rfl, rfl, rfl, or_f hc286 rfl⟩
                      ·rintro f ⟨hf5, hf12, hf13, hf14, hf15, hf17, hf18, hf179, hf213⟩
                       refine (JL.norm (i := 5) hf5 (JL.norm (i := 12) hf12 (JL.norm (i := 13) hf13 (JL.norm (i := 14) hf14 (JL.norm (i := 15) hf15 (JL.norm (i := 17) hf17 (JL.norm (i := 18) hf18 (JL.norm (i := 179) hf179 (JL.norm (i := 213) hf213 ?_)))))))))
                       refine JL.move (.some rfl rfl rfl hc282) rfl ?_
                       refine JL.cut 11 (fun f => f 5 = .pointer (some ⟨b3, 0, none⟩) ∧ f 12 = .pointer (some ⟨b103, 0, none⟩) ∧ f 13 = .pointer (some ⟨b116, 0, none⟩) ∧ f 14 = .pointer (some ⟨b250, 0, none⟩) ∧ f 15 = .pointer (some ⟨b251, 0, none⟩) ∧ f 17 = .pointer (some ⟨b255, 0, none⟩) ∧ f 18 = .pointer (some ⟨b256, 0, none⟩) ∧ f 179 = .bool (y249.2.2 == 0) ∧ f 225 = .bool ((((decide ((min (min (min y249.1.Den y249.2.1.Den) y254.1.Den) y254.2.1.Den) < 1)) || (decide (1073741824 < (max (max (max y249.1.Den y249.2.1.Den) y254.1.Den) y254.2.1.Den)))) || (decide (1073741824 < (max (max (max y249.1.Num y249.2.1.Num) y254.1.Num) y254.2.1.Num)))) || (decide ((min (min (min y249.1.Num y249.2.1.Num) y254.1.Num) y254.2.1.Num) < (-1073741824))))) ?_ ?_
                       ·intro hJ287
                        rcases bcases (((decide ((min (min (min y249.1.Den y249.2.1.Den) y254.1.Den) y254.2.1.Den) < 1)) || (decide (1073741824 < (max (max (max y249.1.Den y249.2.1.Den) y254.1.Den) y254.2.1.Den)))) || (decide (1073741824 < (max (max (max y249.1.Num y249.2.1.Num) y254.1.Num) y254.2.1.Num)))) with hc288 | hc288
                        ·skip
                         refine JL.skip (.bool rfl rfl rfl hc288) rfl ?_
                         refine JL.skip (.bool rfl rfl rfl hc288) rfl ?_
                         refine JL.skip (.bool rfl rfl rfl hc288) rfl ?_
                         refine JL.skip (.bool rfl rfl rfl hc288) rfl ?_
                         refine JL.skip (.bool rfl rfl rfl hc288) rfl ?_
                         refine JL.skip (.bool rfl rfl rfl hc288) rfl ?_
                         refine JL.skip (.bool rfl rfl rfl hc288) rfl ?_
                         refine JL.skip (.bool rfl rfl rfl hc288) rfl ?_
                         refine JL.skip (.bool rfl rfl rfl hc288) rfl ?_
                         refine JL.skip (.bool rfl rfl rfl hc288) rfl ?_
                         refine JL.pick_t (b := (((decide ((min (min (min y249.1.Den y249.2.1.Den) y254.1.Den) y254.2.1.Den) < 1)) || (decide (1073741824 < (max (max (max y249.1.Den y249.2.1.Den) y254.1.Den) y254.2.1.Den)))) || (decide (1073741824 < (max (max (max y249.1.Num y249.2.1.Num) y254.1.Num) y254.2.1.Num))))) rfl hc288 (.some rfl rfl rfl hc282) rfl ?_
                         exact hJ287 _ ⟨rfl, rfl, rfl, rfl, rfl, rfl, rfl, rfl, or_t hc288 rfl⟩
                        ·skip
                         refine JL.fieldAddr fo_51_0 rfl (.some rfl rfl rfl hc288) rfl ?_
                         refine JL.loadOwn 3 az_3 rfl rfl rfl (.some rfl rfl rfl hc288) rfl ?_
                         refine JL.fieldAddr fo_51_0 rfl (.some rfl rfl rfl hc288) rfl ?_
                         refine JL.loadOwn 2 az_3 rfl rfl rfl (.some rfl rfl rfl hc288) rfl ?_
                         refine JL.fieldAddr fo_51_0 rfl (.some rfl rfl rfl hc288) rfl ?_
                         refine JL.loadOwn 1 az_3 rfl rfl rfl (.some rfl rfl rfl hc288) rfl ?_
                         refine JL.fieldAddr fo_51_0 rfl (.some rfl rfl rfl hc288) rfl ?_
                         refine JL.loadOwn 0 az_3 rfl rfl rfl (.some rfl rfl rfl hc288) rfl ?_
                         refine JL.min4 rfl rfl rfl rfl (.some rfl rfl rfl hc288) rfl ?_
                         refine JL.bin rfl rfl rfl (.some rfl rfl rfl hc288) rfl ?_
                         refine JL.pick_f (b := (((decide ((min (min (min y249.1.Den y249.2.1.Den) y254.1.Den) y254.2.1.Den) < 1)) || (decide (1073741824 < (max (max (max y249.1.Den y249.2.1.Den) y254.1.Den) y254.2.1.Den)))) || (decide (1073741824 < (max (max (max y249.1.Num y249.2.1.Num) y254.1.Num) y254.2.1.Num))))) rfl hc288 (.some rfl rfl rfl hc282) rfl ?_
                         exact hJ287 _ ⟨rfl, rfl, rfl, rfl, rfl, rfl, rfl, rfl, or_f hc288 rfl⟩
                       ·rintro f ⟨hf5, hf12, hf13, hf14, hf15, hf17, hf18, hf179, hf225⟩
                        refine (JL.norm (i := 5) hf5 (JL.norm (i := 12) hf12 (JL.norm (i := 13) hf13 (JL.norm (i := 14) hf14 (JL.norm (i := 15) hf15 (JL.norm (i := 17) hf17 (JL.norm (i := 18) hf18 (JL.norm (i := 179) hf179 (JL.norm (i := 225) hf225 ?_)))))))))
                        refine JL.move (.some rfl rfl rfl hc282) rfl ?_
                        obtain ⟨p290, hp290, hF⟩ := bind_some hF
                        refine JL.cut 4 (fun f => f 5 = .pointer (some ⟨b3, 0, none⟩) ∧ f 12 = .pointer (some ⟨b103, 0, none⟩) ∧ f 13 = .pointer (some ⟨b116, 0, none⟩) ∧ f 15 = .pointer (some ⟨b251, 0, none⟩) ∧ f 18 = .pointer (some ⟨b256, 0, none⟩) ∧ f 179 = .bool (y249.2.2 == 0) ∧ f 230 = .bool p290) ?_ ?_
                        ·intro hJ291
                         rcases ite_some hp290 with ⟨hc292, hF⟩ | ⟨hc292, hF⟩
                         ·skip
                          refine JL.skip (.bool rfl rfl rfl hc292) rfl ?_
                          refine JL.skip (.bool rfl rfl rfl hc292) rfl ?_
                          refine JL.skip (.bool rfl rfl rfl hc292) rfl ?_
                          refine JL.pick_t (b := ((((decide ((min (min (min y249.1.Den y249.2.1.Den) y254.1.Den) y254.2.1.Den) < 1)) || (decide (1073741824 < (max (max (max y249.1.Den y249.2.1.Den) y254.1.Den) y254.2.1.Den)))) || (decide (1073741824 < (max (max (max y249.1.Num y249.2.1.Num) y254.1.Num) y254.2.1.Num)))) || (decide ((min (min (min y249.1.Num y249.2.1.Num) y254.1.Num) y254.2.1.Num) < (-1073741824))))) rfl hc292 (.some rfl rfl rfl hc282) rfl ?_
                          obtain rfl := Option.some.inj hF
                          exact hJ291 _ ⟨rfl, rfl, rfl, rfl, rfl, rfl, rfl⟩
                         ·skip
                          refine JL.loadOwn 1 az_51 rfl rfl rfl (.some rfl rfl rfl hc292) rfl ?_
                          refine JL.loadOwn 3 az_51 rfl rfl rfl (.some rfl rfl rfl hc292) rfl ?_
                          obtain ⟨y293, hy293, hF⟩ := bind_some hF
                          refine JL.callS (c_ref01_Less n H123 y254.1 y249.1 y293 hy293) rfl en_29 (.some rfl rfl rfl hc292) rfl ?_
                          refine JL.pick_f (b := ((((decide ((min (min (min y249.1.Den y249.2.1.Den) y254.1.Den) y254.2.1.Den) < 1)) || (decide (1073741824 < (max (max (max y249.1.Den y249.2.1.Den) y254.1.Den) y254.2.1.Den)))) || (decide (1073741824 < (max (max (max y249.1.Num y249.2.1.Num) y254.1.Num) y254.2.1.Num)))) || (decide ((min (min (min y249.1.Num y249.2.1.Num) y254.1.Num) y254.2.1.Num) < (-1073741824))))) rfl hc292 (.some rfl rfl rfl hc282) rfl ?_
                          obtain rfl := Option.some.inj hF
                          exact hJ291 _ ⟨rfl, rfl, rfl, rfl, rfl, rfl, rfl⟩
                        ·rintro f ⟨hf5, hf12, hf13, hf15, hf18, hf179, hf230⟩
                         refine (JL.norm (i := 5) hf5 (JL.norm (i := 12) hf12 (JL.norm (i := 13) hf13 (JL.norm (i := 15) hf15 (JL.norm (i := 18) hf18 (JL.norm (i := 179) hf179 (JL.norm (i := 230) hf230 ?_)))))))
                         refine JL.move (.some rfl rfl rfl hc282) rfl ?_
                         obtain ⟨p295, hp295, hF⟩ := bind_some hF
                         refine JL.cut 4 (fun f => f 5 = .pointer (some ⟨b3, 0, none⟩) ∧ f 12 = .pointer (some ⟨b103, 0, none⟩) ∧ f 13 = .pointer (some ⟨b116, 0, none⟩) ∧ f 179 = .bool (y249.2.2 == 0) ∧ f 235 = .bool p295) ?_ ?_
                         ·intro hJ296
                          rcases ite_some hp295 with ⟨hc297, hF⟩ | ⟨hc297, hF⟩
                          ·skip
                           refine JL.skip (.bool rfl rfl rfl hc297) rfl ?_
                           refine JL.skip (.bool rfl rfl rfl hc297) rfl ?_
                           refine JL.skip (.bool rfl rfl rfl hc297) rfl ?_
                           refine JL.pick_t (b := p290) rfl hc297 (.some rfl rfl rfl hc282) rfl ?_
                           obtain rfl := Option.some.inj hF
                           exact hJ296 _ ⟨rfl, rfl, rfl, rfl, rfl⟩
                          ·skip
                           refine JL.loadOwn 2 az_51 rfl rfl rfl (.some rfl rfl rfl hc297) rfl ?_
                           refine JL.loadOwn 0 az_51 rfl rfl rfl (.some rfl rfl rfl hc297) rfl ?_
                           obtain ⟨y298, hy298, hF⟩ := bind_some hF
                           refine JL.callS (c_ref01_Less n H123 y249.2.1 y254.2.1 y298 hy298) rfl en_29 (.some rfl rfl rfl hc297) rfl ?_
                           refine JL.pick_f (b := p290) rfl hc297 (.some rfl rfl rfl hc282) rfl ?_
                           obtain rfl := Option.some.inj hF
                           exact hJ296 _ ⟨rfl, rfl, rfl, rfl, rfl⟩
                         ·rintro f ⟨hf5, hf12, hf13, hf179, hf235⟩
                          refine (JL.norm (i := 5) hf5 (JL.norm (i := 12) hf12 (JL.norm (i := 13) hf13 (JL.norm (i := 179) hf179 (JL.norm (i := 235) hf235 ?_)))))
                          refine JL.pick_t (b := (y249.2.2 == 0)) rfl hc282 .none rfl ?_
                          obtain rfl := Option.some.inj hF
                          exact hJ281 _ ⟨rfl, rfl, rfl, rfl⟩
                    ·skip
                     refine JL.skip (.bool rfl rfl rfl hc282) rfl ?_
                     refine JL.skip (.bool rfl rfl rfl hc282) rfl ?_
                     refine JL.skip (.bool rfl rfl rfl hc282) rfl ?_
                     refine JL.skip (.bool rfl rfl rfl hc282) rfl ?_
                     refine JL.skip (.bool rfl rfl rfl hc282) rfl ?_
                     refine JL.skip (.bool rfl rfl rfl hc282) rfl ?_
                     refine JL.skip (.bool rfl rfl rfl hc282) rfl ?_
                     refine JL.skip (.bool rfl rfl rfl hc282) rfl ?_
                     refine JL.skip (.bool rfl rfl rfl hc282) rfl ?_
                     refine JL.skip (.bool rfl rfl rfl hc282) rfl ?_
                     refine JL.skip (.bool rfl rfl rfl hc282) rfl ?_
                     refine JL.skip (.no rfl rfl rfl) rfl ?_
                     refine JL.skip (.no rfl rfl rfl) rfl ?_
                     refine JL.skip (.no rfl rfl rfl) rfl ?_
                     refine JL.skip (.no rfl rfl rfl) rfl ?_
                     refine JL.skip (.no rfl rfl rfl) rfl ?_
                     refine JL.skip (.no rfl rfl rfl) rfl ?_
                     refine JL.skip (.no rfl rfl rfl) rfl ?_
                     refine JL.skip (.no rfl rfl rfl) rfl ?_
                     refine JL.skip (.no rfl rfl rfl) rfl ?_
                     refine JL.skip (.no rfl rfl rfl) rfl ?_
                     refine JL.skip (.bool rfl rfl rfl hc282) rfl ?_
                     refine JL.skip (.bool rfl rfl rfl hc282) rfl ?_
                     refine JL.skip (.no rfl rfl rfl) rfl ?_
                     refine JL.skip (.no rfl rfl rfl) rfl ?_
                     refine JL.skip (.no rfl rfl rfl) rfl ?_
                     refine JL.skip (.no rfl rfl rfl) rfl ?_
                     refine JL.skip (.no rfl rfl rfl) rfl ?_
                     refine JL.skip (.no rfl rfl rfl) rfl ?_
                     refine JL.skip (.no rfl rfl rfl) rfl ?_
                     refine JL.skip (.no rfl rfl rfl) rfl ?_
                     refine JL.skip (.no rfl rfl rfl) rfl ?_
                     refine JL.skip (.no rfl rfl rfl) rfl ?_
                     refine JL.skip (.bool rfl rfl rfl hc282) rfl ?_
                     refine JL.skip (.bool rfl rfl rfl hc282) rfl ?_
                     refine JL.skip (.no rfl rfl rfl) rfl ?_
                     refine JL.skip (.no rfl rfl rfl) rfl ?_
                     refine JL.skip (.no rfl rfl rfl) rfl ?_
                     refine JL.skip (.no rfl rfl rfl) rfl ?_
                     refine JL.skip (.no rfl rfl rfl) rfl ?_
                     refine JL.skip (.no rfl rfl rfl) rfl ?_
                     refine JL.skip (.no rfl rfl rfl) rfl ?_
                     refine JL.skip (.no rfl rfl rfl) rfl ?_
                     refine JL.skip (.no rfl rfl rfl) rfl ?_
                     refine JL.skip (.no rfl rfl rfl) rfl ?_
                     refine JL.skip (.bool rfl rfl rfl hc282) rfl ?_
                     refine JL.skip (.bool rfl rfl rfl hc282) rfl ?_
                     refine JL.skip (.no rfl rfl rfl) rfl ?_
                     refine JL.skip (.no rfl rfl rfl) rfl ?_
                     refine JL.skip (.no rfl rfl rfl) rfl ?_
                     refine JL.skip (.bool rfl rfl rfl hc282) rfl ?_
                     refine JL.skip (.bool rfl rfl rfl hc282) rfl ?_
                     refine JL.skip (.no rfl rfl rfl) rfl ?_
                     refine JL.skip (.no rfl rfl rfl) rfl ?_
                     refine JL.skip (.no rfl rfl rfl) rfl ?_
                     refine JL.skip (.bool rfl rfl rfl hc282) rfl ?_
                     refine JL.pick_f (b := (y249.2.2 == 0)) rfl hc282 .none rfl ?_
                     obtain rfl := Option.some.inj hF
                     exact hJ281 _ ⟨rfl, rfl, rfl, rfl⟩
                   ·rintro f ⟨hf5, hf12, hf13, hf236⟩
                    refine (JL.norm (i := 5) hf5 (JL.norm (i := 12) hf12 (JL.norm (i := 13) hf13 (JL.norm (i := 236) hf236 ?_))))
                    refine JL.done hQ (JQ.go ?_)
                    rcases ite_some hF with ⟨hc299, hF⟩ | ⟨hc299, hF⟩
                    ·refine JC.cond_t (b := p280) rfl hc299 ?_
                     refine JC.seq (JC.region (by rfl) ?_)
                     intro hQ
                     refine JL.assign .none rfl ?_
                     refine JL.done hQ (JQ.go (JC.ret (JQ.ret_then ?_)))
                     obtain rfl := Option.some.inj hF
                     exact JQ.outS rfl (.tmp .nil) rfl
                    ·refine JC.cond_f (b := p280) rfl hc299 ?_
                     refine JC.skip (JQ.go (JC.seq (JC.region (by rfl) ?_)))
                     intro hQ
                     refine JL.loadOwn 5 az_53 rfl rfl rfl .none rfl ?_
                     obtain ⟨y302, hy302, hF⟩ := bind_some hF
                     refine JL.callLG1 (R := R_Section) 1 rfl R_Section_mono hch228 rfl (fun H300 hs300 hg301 => c_frames_Opens n H300 (Frame.mk (setx y73.Sections x_.Section (Section.mk y57.1 y131.Stretch y131.Base y131.Gear)) y73.Low y73.High y73.Ease y73.Rod y73.Case) y73_v0 hg301 y302 hy302) rfl en_30 .none rfl ?_
                     refine JL.move .none rfl ?_
                     refine JL.extract rfl rfl .none rfl ?_
                     refine JL.extract rfl rfl .none rfl ?_
                     refine JL.assign .none rfl ?_
                     refine JL.assign .none rfl ?_
                     refine JL.done hQ (JQ.go (JC.seq (JC.region (by rfl) ?_)))
                     intro hQ
                     refine JL.loadOwn 4 az_53 rfl rfl rfl .none rfl ?_
                     obtain ⟨y305, hy305, hF⟩ := bind_some hF
                     refine JL.callLG1 (R := R_Section) 0 rfl R_Section_mono hch232 rfl (fun H303 hs303 hg304 => c_frames_Opens n H303 (Frame.mk (setx y77.Sections x_.Section (Section.mk y61.1 y136.Stretch y136.Base y136.Gear)) y77.Low y77.High y77.Ease y77.Rod y77.Case) y77_v0 hg304 y305 hy305) rfl en_30 .none rfl ?_
                     refine JL.move .none rfl ?_
                     refine JL.extract rfl rfl .none rfl ?_
                     refine JL.extract rfl rfl .none rfl ?_
                     refine JL.assign .none rfl ?_
                     refine JL.assign .none rfl ?_
                     refine JL.done hQ (JQ.go (JC.fresh (fun f => f 5 = .pointer (some ⟨b3, 0, none⟩) ∧ f 12 = .pointer (some ⟨b103, 0, none⟩) ∧ f 13 = .pointer (some ⟨b116, 0, none⟩) ∧ f 20 = .int .i64 y302.1 ∧ f 21 = .int .i64 y302.2 ∧ f 22 = .int .i64 y305.1 ∧ f 23 = .int .i64 y305.2) ⟨rfl, rfl, rfl, rfl, rfl, rfl, rfl⟩ ?_))
                     rintro f ⟨hf5, hf12, hf13, hf20, hf21, hf22, hf23⟩
                     refine (JC.norm (i := 5) hf5 (JC.norm (i := 12) hf12 (JC.norm (i := 13) hf13 (JC.norm (i := 20) hf20 (JC.norm (i := 21) hf21 (JC.norm (i := 22) hf22 (JC.norm (i := 23) hf23 ?_)))))))
                     refine JC.seq (JC.region (by rfl) ?_)
                     intro hQ
                     refine JL.loadOwn 5 az_53 rfl rfl rfl .none rfl ?_
                     refine JL.fieldAddr fo_57_1 rfl .none rfl ?_
                     refine JL.loadOwn 10 az_3 rfl rfl rfl .none rfl ?_
                     refine JL.fieldAddr fo_53_2 rfl .none rfl ?_
                     refine JL.loadOwn 5 az_3 rfl rfl rfl .none rfl ?_
                     obtain ⟨y308, hy308, hF⟩ := bind_some hF
                     refine JL.callLG1 (R := R_Section) 1 rfl R_Section_mono hch228 rfl (fun H306 hs306 hg307 => c_frames_Binds n H306 (Frame.mk (setx y73.Sections x_.Section (Section.mk y57.1 y131.Stretch y131.Base y131.Gear)) y73.Low y73.High y73.Ease y73.Rod y73.Case) y73_v0 hg307 x_.Section y73.High y308 hy308) rfl en_31 .none rfl ?_
                     refine JL.move .none rfl ?_
                     refine JL.extract rfl rfl .none rfl ?_
                     refine JL.extract rfl rfl .none rfl ?_
                     refine JL.assign .none rfl ?_
                     refine JL.assign .none rfl ?_
                     refine JL.done hQ (JQ.go (JC.fresh (fun f => f 5 = .pointer (some ⟨b3, 0, none⟩) ∧ f 13 = .pointer (some ⟨b116, 0, none⟩) ∧ f 20 = .int .i64 y302.1 ∧ f 21 = .int .i64 y302.2 ∧ f 22 = .int .i64 y305.1 ∧ f 23 = .int .i64 y305.2 ∧ f 24 = .int .i64 y308.1 ∧ f 25 = .int .i64 y308.2) ⟨rfl, rfl, rfl, rfl, rfl, rfl, rfl, rfl⟩ ?_))
                     rintro f ⟨hf5, hf13, hf20, hf21, hf22, hf23, hf24, hf25⟩
                     refine (JC.norm (i := 5) hf5 (JC.norm (i := 13) hf13 (JC.norm (i := 20) hf20 (JC.norm (i := 21) hf21 (JC.norm (i := 22) hf22 (JC.norm (i := 23) hf23 (JC.norm (i := 24) hf24 (JC.norm (i := 25) hf25 ?_))))))))
                     refine JC.seq (JC.region (by rfl) ?_)
                     intro hQ
                     refine JL.loadOwn 4 az_53 rfl rfl rfl .none rfl ?_
                     refine JL.fieldAddr fo_57_1 rfl .none rfl ?_
                     refine JL.loadOwn 10 az_3 rfl rfl rfl .none rfl ?_
                     refine JL.fieldAddr fo_53_2 rfl .none rfl ?_
                     refine JL.loadOwn 4 az_3 rfl rfl rfl .none rfl ?_
                     obtain ⟨y311, hy311, hF⟩ := bind_some hF
                     refine JL.callLG1 (R := R_Section) 0 rfl R_Section_mono hch232 rfl (fun H309 hs309 hg310 => c_frames_Binds n H309 (Frame.mk (setx y77.Sections x_.Section (Section.mk y61.1 y136.Stretch y136.Base y136.Gear)) y77.Low y77.High y77.Ease y77.Rod y77.Case) y77_v0 hg310 x_.Section y77.High y311 hy311) rfl en_31 .none rfl ?_
                     refine JL.move .none rfl ?_
                     refine JL.extract rfl rfl .none rfl ?_
                     refine JL.extract rfl rfl .none rfl ?_
                     refine JL.assign .none rfl ?_
                     refine JL.assign .none rfl ?_
                     refine JL.done hQ (JQ.go (JC.fresh (fun f => f 20 = .int .i64 y302.1 ∧ f 21 = .int .i64 y302.2 ∧ f 22 = .int .i64 y305.1 ∧ f 23 = .int .i64 y305.2 ∧ f 24 = .int .i64 y308.1 ∧ f 25 = .int .i64 y308.2 ∧ f 26 = .int .i64 y311.1 ∧ f 27 = .int .i64 y311.2) ⟨rfl, rfl, rfl, rfl, rfl, rfl, rfl, rfl⟩ ?_))
                     rintro f ⟨hf20, hf21, hf22, hf23, hf24, hf25, hf26, hf27⟩
                     refine (JC.norm (i := 20) hf20 (JC.norm (i := 21) hf21 (JC.norm (i := 22) hf22 (JC.norm (i := 23) hf23 (JC.norm (i := 24) hf24 (JC.norm (i := 25) hf25 (JC.norm (i := 26) hf26 (JC.norm (i := 27) hf27 ?_))))))))
                     refine JC.seq (JC.region (by rfl) ?_)
                     intro hQ
                     refine JL.move .none rfl ?_
                     refine JL.bin rfl rfl rfl .none rfl ?_
                     refine JL.move .none rfl ?_
                     refine JL.cut 3 (fun f => f 20 = .int .i64 y302.1 ∧ f 22 = .int .i64 y305.1 ∧ f 24 = .int .i64 y308.1 ∧ f 25 = .int .i64 y308.2 ∧ f 26 = .int .i64 y311.1 ∧ f 27 = .int .i64 y311.2 ∧ f 270 = .bool ((y302.2 == 0) && (y305.2 == 0))) ?_ ?_
                     ·intro hJ312
                      rcases bcases (y302.2 == 0) with hc313 | hc313
                      ·skip
                       refine JL.move (.some rfl rfl rfl hc313) rfl ?_
                       refine JL.bin rfl rfl rfl (.some rfl rfl rfl hc313) rfl ?_
                       refine JL.pick_t (b := (y302.2 == 0)) rfl hc313 .none rfl ?_
                       exact hJ312 _ ⟨rfl, rfl, rfl, rfl, rfl, rfl, and_t hc313 rfl⟩
                      ·skip
                       refine JL.skip (.bool rfl rfl rfl hc313) rfl ?_
                       refine JL.skip (.bool rfl rfl rfl hc313) rfl ?_
                       refine JL.pick_f (b := (y302.2 == 0)) rfl hc313 .none rfl ?_
                       exact hJ312 _ ⟨rfl, rfl, rfl, rfl, rfl, rfl, and_f hc313 rfl⟩
                     ·rintro f ⟨hf20, hf22, hf24, hf25, hf26, hf27, hf270⟩
                      refine (JL.norm (i := 20) hf20 (JL.norm (i := 22) hf22 (JL.norm (i := 24) hf24 (JL.norm (i := 25) hf25 (JL.norm (i := 26) hf26 (JL.norm (i := 27) hf27 (JL.norm (i := 270) hf270 ?_)))))))
                      refine JL.move .none rfl ?_
                      refine JL.cut 3 (fun f => f 20 = .int .i64 y302.1 ∧ f 22 = .int .i64 y305.1 ∧ f 24 = .int .i64 y308.1 ∧ f 26 = .int .i64 y311.1 ∧ f 27 = .int .i64 y311.2 ∧ f 274 = .bool (((y302.2 == 0) && (y305.2 == 0)) && (y308.2 == 0))) ?_ ?_
                      ·intro hJ314
                       rcases bcases ((y302.2 == 0) && (y305.2 == 0)) with hc315 | hc315
                       ·skip
                        refine JL.move (.some rfl rfl rfl hc315) rfl ?_
                        refine JL.bin rfl rfl rfl (.some rfl rfl rfl hc315) rfl ?_
                        refine JL.pick_t (b := ((y302.2 == 0) && (y305.2 == 0))) rfl hc315 .none rfl ?_
                        exact hJ314 _ ⟨rfl, rfl, rfl, rfl, rfl, and_t hc315 rfl⟩
                       ·skip
                        refine JL.skip (.bool rfl rfl rfl hc315) rfl ?_
                        refine JL.skip (.bool rfl rfl rfl hc315) rfl ?_
                        refine JL.pick_f (b := ((y302.2 == 0) && (y305.2 == 0))) rfl hc315 .none rfl ?_
                        exact hJ314 _ ⟨rfl, rfl, rfl, rfl, rfl, and_f hc315 rfl⟩
                      ·rintro f ⟨hf20, hf22, hf24, hf26, hf27, hf274⟩
                       refine (JL.norm (i := 20) hf20 (JL.norm (i := 22) hf22 (JL.norm (i := 24) hf24 (JL.norm (i := 26) hf26 (JL.norm (i := 27) hf27 (JL.norm (i := 274) hf274 ?_))))))
                       refine JL.move .none rfl ?_
                       refine JL.cut 3 (fun f => f 20 = .int .i64 y302.1 ∧ f 22 = .int .i64 y305.1 ∧ f 24 = .int .i64 y308.1 ∧ f 26 = .int .i64 y311.1 ∧ f 278 = .bool ((((y302.2 == 0) && (y305.2 == 0)) && (y308.2 == 0)) && (y311.2 == 0))) ?_ ?_
                       ·intro hJ316
                        rcases bcases (((y302.2 == 0) && (y305.2 == 0)) && (y308.2 == 0)) with hc317 | hc317
                        ·skip
                         refine JL.move (.some rfl rfl rfl hc317) rfl ?_
                         refine JL.bin rfl rfl rfl (.some rfl rfl rfl hc317) rfl ?_
                         refine JL.pick_t (b := (((y302.2 == 0) && (y305.2 == 0)) && (y308.2 == 0))) rfl hc317 .none rfl ?_
                         exact hJ316 _ ⟨rfl, rfl, rfl, rfl, and_t hc317 rfl⟩
                        ·skip
                         refine JL.skip (.bool rfl rfl rfl hc317) rfl ?_
                         refine JL.skip (.bool rfl rfl rfl hc317) rfl ?_
                         refine JL.pick_f (b := (((y302.2 == 0) && (y305.2 == 0)) && (y308.2 == 0))) rfl hc317 .none rfl ?_
                         exact hJ316 _ ⟨rfl, rfl, rfl, rfl, and_f hc317 rfl⟩
                       ·rintro f ⟨hf20, hf22, hf24, hf26, hf278⟩
                        refine (JL.norm (i := 20) hf20 (JL.norm (i := 22) hf22 (JL.norm (i := 24) hf24 (JL.norm (i := 26) hf26 (JL.norm (i := 278) hf278 ?_)))))
                        refine JL.move .none rfl ?_
                        refine JL.cut 8 (fun f => f 24 = .int .i64 y308.1 ∧ f 26 = .int .i64 y311.1 ∧ f 287 = .bool (((((y302.2 == 0) && (y305.2 == 0)) && (y308.2 == 0)) && (y311.2 == 0)) && ((y302.1 == 3) || (y302.1 == y305.1)))) ?_ ?_
                        ·intro hJ320
                         rcases bcases ((((y302.2 == 0) && (y305.2 == 0)) && (y308.2 == 0)) && (y311.2 == 0)) with hc321 | hc321
                         ·skip
                          refine JL.move (.some rfl rfl rfl hc321) rfl ?_
                          refine JL.bin rfl rfl rfl (.some rfl rfl rfl hc321) rfl ?_
                          refine JL.move (.some rfl rfl rfl hc321) rfl ?_
                          refine JL.cut 4 (fun f => f 24 = .int .i64 y308.1 ∧ f 26 = .int .i64 y311.1 ∧ f 279 = .bool ((((y302.2 == 0) && (y305.2 == 0)) && (y308.2 == 0)) && (y311.2 == 0)) ∧ f 286 = .bool ((y302.1 == 3) || (y302.1 == y305.1))) ?_ ?_
                          ·intro hJ322
                           rcases bcases (y302.1 == 3) with hc323 | hc323
                           ·skip
                            refine JL.skip (.bool rfl rfl rfl hc323) rfl ?_
                            refine JL.skip (.bool rfl rfl rfl hc323) rfl ?_
                            refine JL.skip (.bool rfl rfl rfl hc323) rfl ?_
                            refine JL.pick_t (b := (y302.1 == 3)) rfl hc323 (.some rfl rfl rfl hc321) rfl ?_
                            exact hJ322 _ ⟨rfl, rfl, rfl, or_t hc323 rfl⟩
                           ·skip
                            refine JL.move (.some rfl rfl rfl hc323) rfl ?_
                            refine JL.move (.some rfl rfl rfl hc323) rfl ?_
                            refine JL.bin rfl rfl rfl (.some rfl rfl rfl hc323) rfl ?_
                            refine JL.pick_f (b := (y302.1 == 3)) rfl hc323 (.some rfl rfl rfl hc321) rfl ?_
                            exact hJ322 _ ⟨rfl, rfl, rfl, or_f hc323 rfl⟩
                          ·rintro f ⟨hf24, hf26, hf279, hf286⟩
                           refine (JL.norm (i := 24) hf24 (JL.norm (i := 26) hf26 (JL.norm (i := 279) hf279 (JL.norm (i := 286) hf286 ?_))))
                           refine JL.pick_t (b := ((((y302.2 == 0) && (y305.2 == 0)) && (y308.2 == 0)) && (y311.2 == 0))) rfl hc321 .none rfl ?_
                           exact hJ320 _ ⟨rfl, rfl, and_t hc321 rfl⟩
                         ·skip
                          refine JL.skip (.bool rfl rfl rfl hc321) rfl ?_
                          refine JL.skip (.bool rfl rfl rfl hc321) rfl ?_
                          refine JL.skip (.bool rfl rfl rfl hc321) rfl ?_
                          refine JL.skip (.no rfl rfl rfl) rfl ?_
                          refine JL.skip (.no rfl rfl rfl) rfl ?_
                          refine JL.skip (.no rfl rfl rfl) rfl ?_
                          refine JL.skip (.bool rfl rfl rfl hc321) rfl ?_
                          refine JL.pick_f (b := ((((y302.2 == 0) && (y305.2 == 0)) && (y308.2 == 0)) && (y311.2 == 0))) rfl hc321 .none rfl ?_
                          exact hJ320 _ ⟨rfl, rfl, and_f hc321 rfl⟩
                        ·rintro f ⟨hf24, hf26, hf287⟩
                         refine (JL.norm (i := 24) hf24 (JL.norm (i := 26) hf26 (JL.norm (i := 287) hf287 ?_)))
                         refine JL.move .none rfl ?_
                         refine JL.cut 8 (fun f => f 296 = .bool ((((((y302.2 == 0) && (y305.2 == 0)) && (y308.2 == 0)) && (y311.2 == 0)) && ((y302.1 == 3) || (y302.1 == y305.1))) && ((y308.1 == 3) || (y308.1 == y311.1)))) ?_ ?_
                         ·intro hJ326
                          rcases bcases (((((y302.2 == 0) && (y305.2 == 0)) && (y308.2 == 0)) && (y311.2 == 0)) && ((y302.1 == 3) || (y302.1 == y305.1))) with hc327 | hc327
                          ·skip
                           refine JL.move (.some rfl rfl rfl hc327) rfl ?_
                           refine JL.bin rfl rfl rfl (.some rfl rfl rfl hc327) rfl ?_
                           refine JL.move (.some rfl rfl rfl hc327) rfl ?_
                           refine JL.cut 4 (fun f => f 288 = .bool (((((y302.2 == 0) && (y305.2 == 0)) && (y308.2 == 0)) && (y311.2 == 0)) && ((y302.1 == 3) || (y302.1 == y305.1))) ∧ f 295 = .bool ((y308.1 == 3) || (y308.1 == y311.1))) ?_ ?_
                           ·intro hJ328
                            rcases bcases (y308.1 == 3) with hc329 | hc329
                            ·skip
                             refine JL.skip (.bool rfl rfl rfl hc329) rfl ?_
                             refine JL.skip (.bool rfl rfl rfl hc329) rfl ?_
                             refine JL.skip (.bool rfl rfl rfl hc329) rfl ?_
                             refine JL.pick_t (b := (y308.1 == 3)) rfl hc329 (.some rfl rfl rfl hc327) rfl ?_
                             exact hJ328 _ ⟨rfl, or_t hc329 rfl⟩
                            ·skip
                             refine JL.move (.some rfl rfl rfl hc329) rfl ?_
                             refine JL.move (.some rfl rfl rfl hc329) rfl ?_
                             refine JL.bin rfl rfl rfl (.some rfl rfl rfl hc329) rfl ?_
                             refine JL.pick_f (b := (y308.1 == 3)) rfl hc329 (.some rfl rfl rfl hc327) rfl ?_
                             exact hJ328 _ ⟨rfl, or_f hc329 rfl⟩
                           ·rintro f ⟨hf288, hf295⟩
                            refine (JL.norm (i := 288) hf288 (JL.norm (i := 295) hf295 ?_))
                            refine JL.pick_t (b := (((((y302.2 == 0) && (y305.2 == 0)) && (y308.2 == 0)) && (y311.2 == 0)) && ((y302.1 == 3) || (y302.1 == y305.1)))) rfl hc327 .none rfl ?_
                            exact hJ326 _ (and_t hc327 rfl)
                          ·skip
                           refine JL.skip (.bool rfl rfl rfl hc327) rfl ?_
                           refine JL.skip (.bool rfl rfl rfl hc327) rfl ?_
                           refine JL.skip (.bool rfl rfl rfl hc327) rfl ?_
                           refine JL.skip (.no rfl rfl rfl) rfl ?_
                           refine JL.skip (.no rfl rfl rfl) rfl ?_
                           refine JL.skip (.no rfl rfl rfl) rfl ?_
                           refine JL.skip (.bool rfl rfl rfl hc327) rfl ?_
                           refine JL.pick_f (b := (((((y302.2 == 0) && (y305.2 == 0)) && (y308.2 == 0)) && (y311.2 == 0)) && ((y302.1 == 3) || (y302.1 == y305.1)))) rfl hc327 .none rfl ?_
                           exact hJ326 _ (and_f hc327 rfl)
                         ·rintro f hf296
                          refine (JL.norm (i := 296) hf296 ?_)
                          refine JL.move .none rfl ?_
                          obtain ⟨p331, hp331, hF⟩ := bind_some hF
                          refine JL.cut 2 (fun f => f 299 = .bool p331) ?_ ?_
                          ·intro hJ332
                           rcases ite_some hp331 with ⟨hc333, hF⟩ | ⟨hc333, hF⟩
                           ·skip
                            obtain ⟨y334, hy334, hF⟩ := bind_some hF
                            refine JL.callS (c_top_fitted n H123 y334 hy334) rfl en_24 (.some rfl rfl rfl hc333) rfl ?_
                            refine JL.pick_t (b := ((((((y302.2 == 0) && (y305.2 == 0)) && (y308.2 == 0)) && (y311.2 == 0)) && ((y302.1 == 3) || (y302.1 == y305.1))) && ((y308.1 == 3) || (y308.1 == y311.1)))) rfl hc333 .none rfl ?_
                            obtain rfl := Option.some.inj hF
                            exact hJ332 _ (rfl)
                           ·skip
                            refine JL.skip (.bool rfl rfl rfl hc333) rfl ?_
                            refine JL.pick_f (b := ((((((y302.2 == 0) && (y305.2 == 0)) && (y308.2 == 0)) && (y311.2 == 0)) && ((y302.1 == 3) || (y302.1 == y305.1))) && ((y308.1 == 3) || (y308.1 == y311.1)))) rfl hc333 .none rfl ?_
                            obtain rfl := Option.some.inj hF
                            exact hJ332 _ (rfl)
                          ·rintro f hf299
                           refine (JL.norm (i := 299) hf299 ?_)
                           refine JL.assign .none rfl ?_
                           refine JL.done hQ (JQ.go (JC.ret ?_))
                           obtain rfl := Option.some.inj hF
                           exact JQ.outS rfl (.tmp .nil) rfl
              intro nd122_0
              refine JA.cut 3 #[true, true, true, true, true, false, false, false] (fun H335 f bs gs => ∃ (b103 : Nat) (y77_v0 : Value) (y77_xs0 : List Value) (y73_v0 : Value) (y73_xs0 : List Value), f 5 = .pointer (some ⟨b3, 0, none⟩) ∧ f 8 = .pointer (some ⟨b58, 0, none⟩) ∧ f 10 = .pointer (some ⟨b62, 0, none⟩) ∧ f 12 = .pointer (some ⟨b103, 0, none⟩) ∧ f 120 = .agg [y73_v0, .int .i64 y73.Low, .int .i64 y73.High, .int .i64 y73.Ease.Num, .int .i64 y73.Ease.Den, .int .i64 y73.Rod, .int .i64 y73.Case].toArray ∧ f 122 = .agg [y77_v0, .int .i64 y77.Low, .int .i64 y77.High, .int .i64 y77.Ease.Num, .int .i64 y77.Ease.Den, .int .i64 y77.Rod, .int .i64 y77.Case].toArray ∧ bs = [(b103, .cells [.slice none 0 0, .int .i64 0, .int .i64 0, .int .i64 0, .int .i64 0, .int .i64 0, .int .i64 0].toArray 53), (b62, .cells [.int .i64 y61.1.Low, .int .i64 y61.1.High].toArray 39), (b58, .cells [.int .i64 y57.1.Low, .int .i64 y57.1.High].toArray 39), (b46, .cells [.int .i64 x_.Trial.Spare, .int .i64 x_.Trial.Make, .int .i64 x_.Trial.Slot, .int .i64 x_.Trial.Fits].toArray 55), (b44, .cells [y34_v0, y34_v1, .int .i64 y34.Cut, v48].toArray 48), (b3, .cells [.int .i64 x_.Spare, .int .i64 x_.Section, .int .i64 x_.Trial.Spare, .int .i64 x_.Trial.Make, .int .i64 x_.Trial.Slot, .int .i64 x_.Trial.Fits].toArray 57), (b2, .cells [f__v0, .int .i64 f_.Low, .int .i64 f_.High, .int .i64 f_.Ease.Num, .int .i64 f_.Ease.Den, .int .i64 f_.Rod, .int .i64 f_.Case].toArray 53), (b1, .cells [w__v0, w__v1, .int .i64 w_.Cut, w__v3].toArray 48)] ∧ gs = [⟨y77_v0, 68, 7, y77.Sections.length, y77_xs0⟩, ⟨y73_v0, 68, 7, y73.Sections.length, y73_xs0⟩, ⟨v48, 55, 4, l47.length, xs49⟩] ∧ CH H335 7 R_Section y77_xs0 y77.Sections ∧ CH H335 7 R_Section y73_xs0 y73.Sections ∧ HSub H42 H335) ?_ ?_
              ·rintro H335 f bs gs ⟨b103, y77_v0, y77_xs0, y73_v0, y73_xs0, hf5, hf8, hf10, hf12, hf120, hf122, rfl, rfl, hm336, hm337, hs335⟩
               refine (JA.norm (i := 5) hf5 (JA.norm (i := 8) hf8 (JA.norm (i := 10) hf10 (JA.norm (i := 12) hf12 (JA.norm (i := 120) hf120 (JA.norm (i := 122) hf122 ?_))))))
               refine JA.many [5] (by kernel_rfl) (by simp) (all_one ⟨_, #[true, true, true, true, true, true, false, false], rfl, (by kernel_rfl), ?_⟩)
               refine JL.alloc ze_53 .none rfl ?_
               intro b338
               refine JA.after hE hs335 (.cons _ (.cons _ (.cons_cons _ (.cons_cons _ (.cons_cons _ (.cons_cons _ (.cons_cons _ (.cons_cons _ (.cons_cons _ (List.nil_sublist _)))))))))) ?_
               exact nd122_0 _ _ _ _ ⟨b338, b103, y77_v0, y77_xs0, y73_v0, y73_xs0, rfl, rfl, rfl, rfl, rfl, rfl, rfl, rfl, rfl, hm336, hm337, hs335⟩
              intro nd122_1
              refine JA.cut 3 #[true, true, true, true, false, true, false, false] (fun H339 f bs gs => ∃ (b104 : Nat) (y77_v0 : Value) (y77_xs0 : List Value) (y73_v0 : Value) (y73_xs0 : List Value), f 5 = .pointer (some ⟨b3, 0, none⟩) ∧ f 8 = .pointer (some ⟨b58, 0, none⟩) ∧ f 10 = .pointer (some ⟨b62, 0, none⟩) ∧ f 13 = .pointer (some ⟨b104, 0, none⟩) ∧ f 120 = .agg [y73_v0, .int .i64 y73.Low, .int .i64 y73.High, .int .i64 y73.Ease.Num, .int .i64 y73.Ease.Den, .int .i64 y73.Rod, .int .i64 y73.Case].toArray ∧ f 122 = .agg [y77_v0, .int .i64 y77.Low, .int .i64 y77.High, .int .i64 y77.Ease.Num, .int .i64 y77.Ease.Den, .int .i64 y77.Rod, .int .i64 y77.Case].toArray ∧ bs = [(b104, .cells [.slice none 0 0, .int .i64 0, .int .i64 0, .int .i64 0, .int .i64 0, .int .i64 0, .int .i64 0].toArray 53), (b62, .cells [.int .i64 y61.1.Low, .int .i64 y61.1.High].toArray 39), (b58, .cells [.int .i64 y57.1.Low, .int .i64 y57.1.High].toArray 39), (b46, .cells [.int .i64 x_.Trial.Spare, .int .i64 x_.Trial.Make, .int .i64 x_.Trial.Slot, .int .i64 x_.Trial.Fits].toArray 55), (b44, .cells [y34_v0, y34_v1, .int .i64 y34.Cut, v48].toArray 48), (b3, .cells [.int .i64 x_.Spare, .int .i64 x_.Section, .int .i64 x_.Trial.Spare, .int .i64 x_.Trial.Make, .int .i64 x_.Trial.Slot, .int .i64 x_.Trial.Fits].toArray 57), (b2, .cells [f__v0, .int .i64 f_.Low, .int .i64 f_.High, .int .i64 f_.Ease.Num, .int .i64 f_.Ease.Den, .int .i64 f_.Rod, .int .i64 f_.Case].toArray 53), (b1, .cells [w__v0, w__v1, .int .i64 w_.Cut, w__v3].toArray 48)] ∧ gs = [⟨y77_v0, 68, 7, y77.Sections.length, y77_xs0⟩, ⟨y73_v0, 68, 7, y73.Sections.length, y73_xs0⟩, ⟨v48, 55, 4, l47.length, xs49⟩] ∧ CH H339 7 R_Section y77_xs0 y77.Sections ∧ CH H339 7 R_Section y73_xs0 y73.Sections ∧ HSub H42 H339) ?_ ?_
              ·rintro H339 f bs gs ⟨b104, y77_v0, y77_xs0, y73_v0, y73_xs0, hf5, hf8, hf10, hf13, hf120, hf122, rfl, rfl, hm340, hm341, hs339⟩
               refine (JA.norm (i := 5) hf5 (JA.norm (i := 8) hf8 (JA.norm (i := 10) hf10 (JA.norm (i := 13) hf13 (JA.norm (i := 120) hf120 (JA.norm (i := 122) hf122 ?_))))))
               refine JA.many [4] (by kernel_rfl) (by simp) (all_one ⟨_, #[true, true, true, true, true, true, false, false], rfl, (by kernel_rfl), ?_⟩)
               refine JL.alloc ze_53 .none rfl ?_
               intro b342
               refine JA.after hE hs339 (.cons _ (.cons _ (.cons_cons _ (.cons_cons _ (.cons_cons _ (.cons_cons _ (.cons_cons _ (.cons_cons _ (.cons_cons _ (List.nil_sublist _)))))))))) ?_
               refine JA.perm (swapAt_perm 0 _) ?_
               exact nd122_0 _ _ _ _ ⟨b104, b342, y77_v0, y77_xs0, y73_v0, y73_xs0, rfl, rfl, rfl, rfl, rfl, rfl, rfl, rfl, rfl, hm340, hm341, hs339⟩
              intro nd122_2
              refine JA.cut 3 #[true, true, true, false, true, true, false, false] (fun H343 f bs gs => ∃ (b108 : Nat) (b93 : Nat) (y73_v0 : Value) (y73_xs0 : List Value), f 5 = .pointer (some ⟨b3, 0, none⟩) ∧ f 8 = .pointer (some ⟨b58, 0, none⟩) ∧ f 10 = .pointer (some ⟨b62, 0, none⟩) ∧ f 12 = .pointer (some ⟨b93, 0, none⟩) ∧ f 13 = .pointer (some ⟨b108, 0, none⟩) ∧ f 120 = .agg [y73_v0, .int .i64 y73.Low, .int .i64 y73.High, .int .i64 y73.Ease.Num, .int .i64 y73.Ease.Den, .int .i64 y73.Rod, .int .i64 y73.Case].toArray ∧ f 121 = .agg [f__v0, .int .i64 f_.Low, .int .i64 f_.High, .int .i64 f_.Ease.Num, .int .i64 f_.Ease.Den, .int .i64 f_.Rod, .int .i64 f_.Case].toArray ∧ bs = [(b108, .cells [.slice none 0 0, .int .i64 0, .int .i64 0, .int .i64 0, .int .i64 0, .int .i64 0, .int .i64 0].toArray 53), (b93, .cells [.slice none 0 0, .int .i64 0, .int .i64 0, .int .i64 0, .int .i64 0, .int .i64 0, .int .i64 0].toArray 53), (b62, .cells [.int .i64 y61.1.Low, .int .i64 y61.1.High].toArray 39), (b58, .cells [.int .i64 y57.1.Low, .int .i64 y57.1.High].toArray 39), (b46, .cells [.int .i64 x_.Trial.Spare, .int .i64 x_.Trial.Make, .int .i64 x_.Trial.Slot, .int .i64 x_.Trial.Fits].toArray 55), (b44, .cells [y34_v0, y34_v1, .int .i64 y34.Cut, v48].toArray 48), (b3, .cells [.int .i64 x_.Spare, .int .i64 x_.Section, .int .i64 x_.Trial.Spare, .int .i64 x_.Trial.Make, .int .i64 x_.Trial.Slot, .int .i64 x_.Trial.Fits].toArray 57), (b2, .cells [f__v0, .int .i64 f_.Low, .int .i64 f_.High, .int .i64 f_.Ease.Num, .int .i64 f_.Ease.Den, .int .i64 f_.Rod, .int .i64 f_.Case].toArray 53), (b1, .cells [w__v0, w__v1, .int .i64 w_.Cut, w__v3].toArray 48)] ∧ gs = [⟨y73_v0, 68, 7, y73.Sections.length, y73_xs0⟩, ⟨v48, 55, 4, l47.length, xs49⟩] ∧ CH H343 7 R_Section y73_xs0 y73.Sections ∧ HSub H42 H343) ?_ ?_
              ·rintro H343 f bs gs ⟨b108, b93, y73_v0, y73_xs0, hf5, hf8, hf10, hf12, hf13, hf120, hf121, rfl, rfl, hm344, hs343⟩
               refine (JA.norm (i := 5) hf5 (JA.norm (i := 8) hf8 (JA.norm (i := 10) hf10 (JA.norm (i := 12) hf12 (JA.norm (i := 13) hf13 (JA.norm (i := 120) hf120 (JA.norm (i := 121) hf121 ?_)))))))
               refine JA.many [3] (by kernel_rfl) (by simp) (all_one ⟨_, #[true, true, true, true, true, true, false, false], rfl, (by kernel_rfl), ?_⟩)
               refine JL.callXC (x_ref01_Copy n H343 f_ f__v0 (SL.mono R_Section_mono (HSub.trans hs35 (HSub.trans hs40 (HSub.trans hs42 hs343))) hf__0) y77 hy77) rfl en_27 .none rfl ?_
               rintro H345 vv346 _ hs345 ⟨y77_v0, y77_xs0, rfl, rfl, hy77_0⟩
               refine JA.after hE (HSub.trans hs343 hs345) (.cons _ (.cons _ (.cons_cons _ (.cons_cons _ (.cons_cons _ (.cons_cons _ (.cons_cons _ (.cons_cons _ (.cons_cons _ (List.nil_sublist _)))))))))) ?_
               exact nd122_0 _ _ _ _ ⟨b108, b93, y77_v0, y77_xs0, y73_v0, y73_xs0, rfl, rfl, rfl, rfl, rfl, rfl, rfl, rfl, rfl, hy77_0, (CH.mono R_Section_mono hs345 hm344), (HSub.trans hs343 hs345)⟩
              intro nd122_3
              refine JA.cut 4 #[true, true, true, false, true, false, false, false] (fun H348 f bs gs => ∃ (b93 : Nat) (y73_v0 : Value) (y73_xs0 : List Value), f 5 = .pointer (some ⟨b3, 0, none⟩) ∧ f 8 = .pointer (some ⟨b58, 0, none⟩) ∧ f 10 = .pointer (some ⟨b62, 0, none⟩) ∧ f 12 = .pointer (some ⟨b93, 0, none⟩) ∧ f 120 = .agg [y73_v0, .int .i64 y73.Low, .int .i64 y73.High, .int .i64 y73.Ease.Num, .int .i64 y73.Ease.Den, .int .i64 y73.Rod, .int .i64 y73.Case].toArray ∧ f 121 = .agg [f__v0, .int .i64 f_.Low, .int .i64 f_.High, .int .i64 f_.Ease.Num, .int .i64 f_.Ease.Den, .int .i64 f_.Rod, .int .i64 f_.Case].toArray ∧ bs = [(b93, .cells [.slice none 0 0, .int .i64 0, .int .i64 0, .int .i64 0, .int .i64 0, .int .i64 0, .int .i64 0].toArray 53), (b62, .cells [.int .i64 y61.1.Low, .int .i64 y61.1.High].toArray 39), (b58, .cells [.int .i64 y57.1.Low, .int .i64 y57.1.High].toArray 39), (b46, .cells [.int .i64 x_.Trial.Spare, .int .i64 x_.Trial.Make, .int .i64 x_.Trial.Slot, .int .i64 x_.Trial.Fits].toArray 55), (b44, .cells [y34_v0, y34_v1, .int .i64 y34.Cut, v48].toArray 48), (b3, .cells [.int .i64 x_.Spare, .int .i64 x_.Section, .int .i64 x_.Trial.Spare, .int .i64 x_.Trial.Make, .int .i64 x_.Trial.Slot, .int .i64 x_.Trial.Fits].toArray 57), (b2, .cells [f__v0, .int .i64 f_.Low, .int .i64 f_.High, .int .i64 f_.Ease.Num, .int .i64 f_.Ease.Den, .int .i64 f_.Rod, .int .i64 f_.Case].toArray 53), (b1, .cells [w__v0, w__v1, .int .i64 w_.Cut, w__v3].toArray 48)] ∧ gs = [⟨y73_v0, 68, 7, y73.Sections.length, y73_xs0⟩, ⟨v48, 55, 4, l47.length, xs49⟩] ∧ CH H348 7 R_Section y73_xs0 y73.Sections ∧ HSub H42 H348) ?_ ?_
              ·rintro H348 f bs gs ⟨b93, y73_v0, y73_xs0, hf5, hf8, hf10, hf12, hf120, hf121, rfl, rfl, hm349, hs348⟩
               refine (JA.norm (i := 5) hf5 (JA.norm (i := 8) hf8 (JA.norm (i := 10) hf10 (JA.norm (i := 12) hf12 (JA.norm (i := 120) hf120 (JA.norm (i := 121) hf121 ?_))))))
               refine JA.many [3, 5] (by kernel_rfl) (by simp) (all_cons ⟨_, #[true, true, true, true, true, false, false, false], rfl, (by kernel_rfl), ?_⟩ (all_one ⟨_, #[true, true, true, false, true, true, false, false], rfl, (by kernel_rfl), ?_⟩))
               ·skip
                refine JL.callXC (x_ref01_Copy n H348 f_ f__v0 (SL.mono R_Section_mono (HSub.trans hs35 (HSub.trans hs40 (HSub.trans hs42 hs348))) hf__0) y77 hy77) rfl en_27 .none rfl ?_
                rintro H350 vv351 _ hs350 ⟨y77_v0, y77_xs0, rfl, rfl, hy77_0⟩
                refine JA.after hE (HSub.trans hs348 hs350) (.cons _ (.cons_cons _ (.cons_cons _ (.cons_cons _ (.cons_cons _ (.cons_cons _ (.cons_cons _ (.cons_cons _ (List.nil_sublist _))))))))) ?_
                exact nd122_1 _ _ _ _ ⟨b93, y77_v0, y77_xs0, y73_v0, y73_xs0, rfl, rfl, rfl, rfl, rfl, rfl, rfl, rfl, hy77_0, (CH.mono R_Section_mono hs350 hm349), (HSub.trans hs348 hs350)⟩
               ·skip
                refine JL.alloc ze_53 .none rfl ?_
                intro b353
                refine JA.after hE hs348 (.cons _ (.cons _ (.cons_cons _ (.cons_cons _ (.cons_cons _ (.cons_cons _ (.cons_cons _ (.cons_cons _ (.cons_cons _ (List.nil_sublist _)))))))))) ?_
                exact nd122_3 _ _ _ _ ⟨b353, b93, y73_v0, y73_xs0, rfl, rfl, rfl, rfl, rfl, rfl, rfl, rfl, rfl, hm349, hs348⟩
              intro nd122_4
              refine JA.cut 4 #[true, true, true, false, false, true, false, false] (fun H354 f bs gs => ∃ (b94 : Nat) (y73_v0 : Value) (y73_xs0 : List Value), f 5 = .pointer (some ⟨b3, 0, none⟩) ∧ f 8 = .pointer (some ⟨b58, 0, none⟩) ∧ f 10 = .pointer (some ⟨b62, 0, none⟩) ∧ f 13 = .pointer (some ⟨b94, 0, none⟩) ∧ f 120 = .agg [y73_v0, .int .i64 y73.Low, .int .i64 y73.High, .int .i64 y73.Ease.Num, .int .i64 y73.Ease.Den, .int .i64 y73.Rod, .int .i64 y73.Case].toArray ∧ f 121 = .agg [f__v0, .int .i64 f_.Low, .int .i64 f_.High, .int .i64 f_.Ease.Num, .int .i64 f_.Ease.Den, .int .i64 f_.Rod, .int .i64 f_.Case].toArray ∧ bs = [(b94, .cells [.slice none 0 0, .int .i64 0, .int .i64 0, .int .i64 0, .int .i64 0, .int .i64 0, .int .i64 0].toArray 53), (b62, .cells [.int .i64 y61.1.Low, .int .i64 y61.1.High].toArray 39), (b58, .cells [.int .i64 y57.1.Low, .int .i64 y57.1.High].toArray 39), (b46, .cells [.int .i64 x_.Trial.Spare, .int .i64 x_.Trial.Make, .int .i64 x_.Trial.Slot, .int .i64 x_.Trial.Fits].toArray 55), (b44, .cells [y34_v0, y34_v1, .int .i64 y34.Cut, v48].toArray 48), (b3, .cells [.int .i64 x_.Spare, .int .i64 x_.Section, .int .i64 x_.Trial.Spare, .int .i64 x_.Trial.Make, .int .i64 x_.Trial.Slot, .int .i64 x_.Trial.Fits].toArray 57), (b2, .cells [f__v0, .int .i64 f_.Low, .int .i64 f_.High, .int .i64 f_.Ease.Num, .int .i64 f_.Ease.Den, .int .i64 f_.Rod, .int .i64 f_.Case].toArray 53), (b1, .cells [w__v0, w__v1, .int .i64 w_.Cut, w__v3].toArray 48)] ∧ gs = [⟨y73_v0, 68, 7, y73.Sections.length, y73_xs0⟩, ⟨v48, 55, 4, l47.length, xs49⟩] ∧ CH H354 7 R_Section y73_xs0 y73.Sections ∧ HSub H42 H354) ?_ ?_
              ·rintro H354 f bs gs ⟨b94, y73_v0, y73_xs0, hf5, hf8, hf10, hf13, hf120, hf121, rfl, rfl, hm355, hs354⟩
               refine (JA.norm (i := 5) hf5 (JA.norm (i := 8) hf8 (JA.norm (i := 10) hf10 (JA.norm (i := 13) hf13 (JA.norm (i := 120) hf120 (JA.norm (i := 121) hf121 ?_))))))
               refine JA.many [3, 4] (by kernel_rfl) (by simp) (all_cons ⟨_, #[true, true, true, true, false, true, false, false], rfl, (by kernel_rfl), ?_⟩ (all_one ⟨_, #[true, true, true, false, true, true, false, false], rfl, (by kernel_rfl), ?_⟩))
               ·skip
                refine JL.callXC (x_ref01_Copy n H354 f_ f__v0 (SL.mono R_Section_mono (HSub.trans hs35 (HSub.trans hs40 (HSub.trans hs42 hs354))) hf__0) y77 hy77) rfl en_27 .none rfl ?_
                rintro H356 vv357 _ hs356 ⟨y77_v0, y77_xs0, rfl, rfl, hy77_0⟩
                refine JA.after hE (HSub.trans hs354 hs356) (.cons _ (.cons_cons _ (.cons_cons _ (.cons_cons _ (.cons_cons _ (.cons_cons _ (.cons_cons _ (.cons_cons _ (List.nil_sublist _))))))))) ?_
                exact nd122_2 _ _ _ _ ⟨b94, y77_v0, y77_xs0, y73_v0, y73_xs0, rfl, rfl, rfl, rfl, rfl, rfl, rfl, rfl, hy77_0, (CH.mono R_Section_mono hs356 hm355), (HSub.trans hs354 hs356)⟩
               ·skip
                refine JL.alloc ze_53 .none rfl ?_
                intro b359
                refine JA.after hE hs354 (.cons _ (.cons _ (.cons_cons _ (.cons_cons _ (.cons_cons _ (.cons_cons _ (.cons_cons _ (.cons_cons _ (.cons_cons _ (List.nil_sublist _)))))))))) ?_
                refine JA.perm (swapAt_perm 0 _) ?_
                exact nd122_3 _ _ _ _ ⟨b94, b359, y73_v0, y73_xs0, rfl, rfl, rfl, rfl, rfl, rfl, rfl, rfl, rfl, hm355, hs354⟩
              intro nd122_5
              refine JA.cut 4 #[true, false, true, false, true, true, false, false] (fun H360 f bs gs => ∃ (b98 : Nat) (b88 : Nat), f 5 = .pointer (some ⟨b3, 0, none⟩) ∧ f 8 = .pointer (some ⟨b58, 0, none⟩) ∧ f 10 = .pointer (some ⟨b62, 0, none⟩) ∧ f 12 = .pointer (some ⟨b88, 0, none⟩) ∧ f 13 = .pointer (some ⟨b98, 0, none⟩) ∧ f 119 = .agg [f__v0, .int .i64 f_.Low, .int .i64 f_.High, .int .i64 f_.Ease.Num, .int .i64 f_.Ease.Den, .int .i64 f_.Rod, .int .i64 f_.Case].toArray ∧ f 121 = .agg [f__v0, .int .i64 f_.Low, .int .i64 f_.High, .int .i64 f_.Ease.Num, .int .i64 f_.Ease.Den, .int .i64 f_.Rod, .int .i64 f_.Case].toArray ∧ bs = [(b98, .cells [.slice none 0 0, .int .i64 0, .int .i64 0, .int .i64 0, .int .i64 0, .int .i64 0, .int .i64 0].toArray 53), (b88, .cells [.slice none 0 0, .int .i64 0, .int .i64 0, .int .i64 0, .int .i64 0, .int .i64 0, .int .i64 0].toArray 53), (b62, .cells [.int .i64 y61.1.Low, .int .i64 y61.1.High].toArray 39), (b58, .cells [.int .i64 y57.1.Low, .int .i64 y57.1.High].toArray 39), (b46, .cells [.int .i64 x_.Trial.Spare, .int .i64 x_.Trial.Make, .int .i64 x_.Trial.Slot, .int .i64 x_.Trial.Fits].toArray 55), (b44, .cells [y34_v0, y34_v1, .int .i64 y34.Cut, v48].toArray 48), (b3, .cells [.int .i64 x_.Spare, .int .i64 x_.Section, .int .i64 x_.Trial.Spare, .int .i64 x_.Trial.Make, .int .i64 x_.Trial.Slot, .int .i64 x_.Trial.Fits].toArray 57), (b2, .cells [f__v0, .int .i64 f_.Low, .int .i64 f_.High, .int .i64 f_.Ease.Num, .int .i64 f_.Ease.Den, .int .i64 f_.Rod, .int .i64 f_.Case].toArray 53), (b1, .cells [w__v0, w__v1, .int .i64 w_.Cut, w__v3].toArray 48)] ∧ gs = [⟨v48, 55, 4, l47.length, xs49⟩] ∧ HSub H42 H360) ?_ ?_
              ·rintro H360 f bs gs ⟨b98, b88, hf5, hf8, hf10, hf12, hf13, hf119, hf121, rfl, rfl, hs360⟩
               refine (JA.norm (i := 5) hf5 (JA.norm (i := 8) hf8 (JA.norm (i := 10) hf10 (JA.norm (i := 12) hf12 (JA.norm (i := 13) hf13 (JA.norm (i := 119) hf119 (JA.norm (i := 121) hf121 ?_)))))))
               refine JA.many [1] (by kernel_rfl) (by simp) (all_one ⟨_, #[true, true, true, false, true, true, false, false], rfl, (by kernel_rfl), ?_⟩)
               refine JL.callXC (x_ref01_Copy n H360 f_ f__v0 (SL.mono R_Section_mono (HSub.trans hs35 (HSub.trans hs40 (HSub.trans hs42 hs360))) hf__0) y73 hy73) rfl en_27 .none rfl ?_
               rintro H361 vv362 _ hs361 ⟨y73_v0, y73_xs0, rfl, rfl, hy73_0⟩
               refine JA.after hE (HSub.trans hs360 hs361) (.cons _ (.cons _ (.cons_cons _ (.cons_cons _ (.cons_cons _ (.cons_cons _ (.cons_cons _ (.cons_cons _ (.cons_cons _ (List.nil_sublist _)))))))))) ?_
               exact nd122_3 _ _ _ _ ⟨b98, b88, y73_v0, y73_xs0, rfl, rfl, rfl, rfl, rfl, rfl, rfl, rfl, rfl, hy73_0, (HSub.trans hs360 hs361)⟩
              intro nd122_6
              refine JA.take 0 (listed' := #[true, false, false, false, false, false, false, false]) hQ rfl (by kernel_rfl) (by kernel_rfl) (by kernel_rfl) (by kernel_rfl) (by kernel_rfl) hE (HSub.refl _) (.cons_cons _ (.cons_cons _ (.cons_cons _ (.cons_cons _ (.cons_cons _ (.cons_cons _ (.cons_cons _ (List.nil_sublist _)))))))) ?_
              refine JL.loadOwn 5 az_53 rfl rfl rfl .none rfl ?_
              refine JA.cont ?_
              refine JA.take 2 (listed' := #[true, false, true, false, false, false, false, false]) hQ rfl (by kernel_rfl) (by kernel_rfl) (by kernel_rfl) (by kernel_rfl) (by kernel_rfl) hE (HSub.refl _) (.cons_cons _ (.cons_cons _ (.cons_cons _ (.cons_cons _ (.cons_cons _ (.cons_cons _ (.cons_cons _ (List.nil_sublist _)))))))) ?_
              refine JL.loadOwn 5 az_53 rfl rfl rfl .none rfl ?_
              refine JA.cont ?_
              refine JA.many [1, 4, 5] (by kernel_rfl) (by simp) (all_cons ⟨_, #[true, true, true, false, false, false, false, false], rfl, (by kernel_rfl), ?_⟩ (all_cons ⟨_, #[true, false, true, false, true, false, false, false], rfl, (by kernel_rfl), ?_⟩ (all_one ⟨_, #[true, false, true, false, false, true, false, false], rfl, (by kernel_rfl), ?_⟩)))
              ·skip
               refine JL.callXC (x_ref01_Copy n H42 f_ f__v0 (SL.mono R_Section_mono (HSub.trans hs35 (HSub.trans hs40 hs42)) hf__0) y73 hy73) rfl en_27 .none rfl ?_
               rintro H364 vv365 _ hs364 ⟨y73_v0, y73_xs0, rfl, rfl, hy73_0⟩
               refine JA.after hE hs364 (.cons_cons _ (.cons_cons _ (.cons_cons _ (.cons_cons _ (.cons_cons _ (.cons_cons _ (.cons_cons _ (List.nil_sublist _)))))))) ?_
               refine JA.many [3, 4, 5] (by kernel_rfl) (by simp) (all_cons ⟨_, #[true, true, true, true, false, false, false, false], rfl, (by kernel_rfl), ?_⟩ (all_cons ⟨_, #[true, true, true, false, true, false, false, false], rfl, (by kernel_rfl), ?_⟩ (all_one ⟨_, #[true, true, true, false, false, true, false, false], rfl, (by kernel_rfl), ?_⟩)))
               ·skip
                refine JL.callXC (x_ref01_Copy n H364 f_ f__v0 (SL.mono R_Section_mono (HSub.trans hs35 (HSub.trans hs40 (HSub.trans hs42 hs364))) hf__0) y77 hy77) rfl en_27 .none rfl ?_
                rintro H367 vv368 _ hs367 ⟨y77_v0, y77_xs0, rfl, rfl, hy77_0⟩
                refine JA.after hE (HSub.trans hs364 hs367) (.cons_cons _ (.cons_cons _ (.cons_cons _ (.cons_cons _ (.cons_cons _ (.cons_cons _ (.cons_cons _ (List.nil_sublist _)))))))) ?_
                refine JA.many [4, 5] (by kernel_rfl) (by simp) (all_cons ⟨_, #[true, true, true, true, true, false, false, false], rfl, (by kernel_rfl), ?_⟩ (all_one ⟨_, #[true, true, true, true, false, true, false, false], rfl, (by kernel_rfl), ?_⟩))
                ·skip
                 refine JL.alloc ze_53 .none rfl ?_
                 intro b370
                 refine JA.after hE (HSub.trans hs364 hs367) (.cons _ (.cons_cons _ (.cons_cons _ (.cons_cons _ (.cons_cons _ (.cons_cons _ (.cons_cons _ (.cons_cons _ (List.nil_sublist _))))))))) ?_
                 exact nd122_1 _ _ _ _ ⟨b370, y77_v0, y77_xs0, y73_v0, y73_xs0, rfl, rfl, rfl, rfl, rfl, rfl, rfl, rfl, hy77_0, (CH.mono R_Section_mono hs367 hy73_0), (HSub.trans hs364 hs367)⟩
                ·skip
                 refine JL.alloc ze_53 .none rfl ?_
                 intro b371
                 refine JA.after hE (HSub.trans hs364 hs367) (.cons _ (.cons_cons _ (.cons_cons _ (.cons_cons _ (.cons_cons _ (.cons_cons _ (.cons_cons _ (.cons_cons _ (List.nil_sublist _))))))))) ?_
                 exact nd122_2 _ _ _ _ ⟨b371, y77_v0, y77_xs0, y73_v0, y73_xs0, rfl, rfl, rfl, rfl, rfl, rfl, rfl, rfl, hy77_0, (CH.mono R_Section_mono hs367 hy73_0), (HSub.trans hs364 hs367)⟩
               ·skip
                refine JL.alloc ze_53 .none rfl ?_
                intro b372
                refine JA.after hE hs364 (.cons _ (.cons_cons _ (.cons_cons _ (.cons_cons _ (.cons_cons _ (.cons_cons _ (.cons_cons _ (.cons_cons _ (List.nil_sublist _))))))))) ?_
                exact nd122_4 _ _ _ _ ⟨b372, y73_v0, y73_xs0, rfl, rfl, rfl, rfl, rfl, rfl, rfl, rfl, hy73_0, hs364⟩
               ·skip
                refine JL.alloc ze_53 .none rfl ?_
                intro b373
                refine JA.after hE hs364 (.cons _ (.cons_cons _ (.cons_cons _ (.cons_cons _ (.cons_cons _ (.cons_cons _ (.cons_cons _ (.cons_cons _ (List.nil_sublist _))))))))) ?_
                exact nd122_5 _ _ _ _ ⟨b373, y73_v0, y73_xs0, rfl, rfl, rfl, rfl, rfl, rfl, rfl, rfl, hy73_0, hs364⟩
              ·skip
               refine JL.alloc ze_53 .none rfl ?_
               intro b374
               refine JA.after hE (HSub.refl _) (.cons _ (.cons_cons _ (.cons_cons _ (.cons_cons _ (.cons_cons _ (.cons_cons _ (.cons_cons _ (.cons_cons _ (List.nil_sublist _))))))))) ?_
               refine JA.many [1, 5] (by kernel_rfl) (by simp) (all_cons ⟨_, #[true, true, true, false, true, false, false, false], rfl, (by kernel_rfl), ?_⟩ (all_one ⟨_, #[true, false, true, false, true, true, false, false], rfl, (by kernel_rfl), ?_⟩))
               ·skip
                refine JL.callXC (x_ref01_Copy n H42 f_ f__v0 (SL.mono R_Section_mono (HSub.trans hs35 (HSub.trans hs40 hs42)) hf__0) y73 hy73) rfl en_27 .none rfl ?_
                rintro H375 vv376 _ hs375 ⟨y73_v0, y73_xs0, rfl, rfl, hy73_0⟩
                refine JA.after hE hs375 (.cons _ (.cons_cons _ (.cons_cons _ (.cons_cons _ (.cons_cons _ (.cons_cons _ (.cons_cons _ (.cons_cons _ (List.nil_sublist _))))))))) ?_
                exact nd122_4 _ _ _ _ ⟨b374, y73_v0, y73_xs0, rfl, rfl, rfl, rfl, rfl, rfl, rfl, rfl, hy73_0, hs375⟩
               ·skip
                refine JL.alloc ze_53 .none rfl ?_
                intro b378
                refine JA.after hE (HSub.refl _) (.cons _ (.cons _ (.cons_cons _ (.cons_cons _ (.cons_cons _ (.cons_cons _ (.cons_cons _ (.cons_cons _ (.cons_cons _ (List.nil_sublist _)))))))))) ?_
                exact nd122_6 _ _ _ _ ⟨b378, b374, rfl, rfl, rfl, rfl, rfl, rfl, rfl, rfl, rfl, (HSub.refl _)⟩
              ·skip
               refine JL.alloc ze_53 .none rfl ?_
               intro b379
               refine JA.after hE (HSub.refl _) (.cons _ (.cons_cons _ (.cons_cons _ (.cons_cons _ (.cons_cons _ (.cons_cons _ (.cons_cons _ (.cons_cons _ (List.nil_sublist _))))))))) ?_
               refine JA.many [1, 4] (by kernel_rfl) (by simp) (all_cons ⟨_, #[true, true, true, false, false, true, false, false], rfl, (by kernel_rfl), ?_⟩ (all_one ⟨_, #[true, false, true, false, true, true, false, false], rfl, (by kernel_rfl), ?_⟩))
               ·skip
                refine JL.callXC (x_ref01_Copy n H42 f_ f__v0 (SL.mono R_Section_mono (HSub.trans hs35 (HSub.trans hs40 hs42)) hf__0) y73 hy73) rfl en_27 .none rfl ?_
                rintro H380 vv381 _ hs380 ⟨y73_v0, y73_xs0, rfl, rfl, hy73_0⟩
                refine JA.after hE hs380 (.cons _ (.cons_cons _ (.cons_cons _ (.cons_cons _ (.cons_cons _ (.cons_cons _ (.cons_cons _ (.cons_cons _ (List.nil_sublist _))))))))) ?_
                exact nd122_5 _ _ _ _ ⟨b379, y73_v0, y73_xs0, rfl, rfl, rfl, rfl, rfl, rfl, rfl, rfl, hy73_0, hs380⟩
               ·skip
                refine JL.alloc ze_53 .none rfl ?_
                intro b383
                refine JA.after hE (HSub.refl _) (.cons _ (.cons _ (.cons_cons _ (.cons_cons _ (.cons_cons _ (.cons_cons _ (.cons_cons _ (.cons_cons _ (.cons_cons _ (List.nil_sublist _)))))))))) ?_
                refine JA.perm (swapAt_perm 0 _) ?_
                exact nd122_6 _ _ _ _ ⟨b379, b383, rfl, rfl, rfl, rfl, rfl, rfl, rfl, rfl, rfl, (HSub.refl _)⟩
end Go.Proofs.Yteihdclpiekmaaa
end
