/-
  A part of the proof of TrTrue: the texts TrGenK13, TrGenK14, EngP, EngQ, EngR.
-/
import Derived.Test.YtcipdblhopffbaaGreatJTrTrue8
section
namespace Go.Proofs.YtcipdblhopffbaaGreat
open Go Go.RowKit Go.Dec
set_option linter.unusedVariables false
-- 58 ferrule/ferruleref05.Rounds
def F_ref05_Rounds_s1 (n : Nat) (d : Canopy) (g : Gust) (t : ref05_Truth) : Int × List Int → Option ((Int × List Int) ⊕ (List Int))
 | (i_126, out_127) => if decide (i_126 < (d.Ribs.length : Int)) = true then ((F_ref05_Load n d g t.Lift i_126).bind fun y132 => (geti out_127 i_126).bind fun y133 => some (Sum.inl ((w64 (i_126 + 1)), (setx out_127 i_126 y132)))) else (some (Sum.inr out_127))
def F_ref05_Rounds_s3 (n : Nat) (d : Canopy) (t : ref05_Truth) (out_103 : List Int) (gone_4014 : List Bool) (round_4015 : Int) : Int × List Bool × List Int → Option ((Int × List Bool × List Int) ⊕ (List Bool × List Int))
 | (i_4553, out_4554, out_4555) => if decide (i_4553 < (d.Ribs.length : Int)) = true then ((geti gone_4014 i_4553).bind fun y4597 => (if (!y4597) = true then ((geti out_103 i_4553).bind fun y4619 => (F_ref05_side n out_103 gone_4014 i_4553 (-1)).bind fun y4624 => (F_ref05_side n out_103 gone_4014 i_4553 1).bind fun y4627 => (geti t.Strengths i_4553).bind fun y4628 => some (decide (y4628 < (w64 ((w64 (y4619 + (w64 (y4624.tdiv 2)))) + (w64 (y4627.tdiv 2))))))) else (some false) : Option Bool).bind fun p4616 => (if p4616 = true then ((geti out_4554 i_4553).bind fun y4649 => (geti out_4555 i_4553).bind fun y4654 => some ((setx out_4554 i_4553 true), (setx out_4555 i_4553 round_4015))) else (some (out_4554, out_4555))).bind fun r4647 => match r4647 with | (out_4644, out_4645) => some (Sum.inl ((w64 (i_4553 + 1)), out_4644, out_4645))) else (some (Sum.inr (out_4554, out_4555)))
def F_ref05_Rounds_s2 (n : Nat) (d : Canopy) (t : ref05_Truth) (out_103 : List Int) : List Bool × Int × List Int → Option ((List Bool × Int × List Int) ⊕ (List Int))
 | (gone_4014, round_4015, out_4016) => if decide (round_4015 ≤ (d.Ribs.length : Int)) = true then ((lim (([] : List Bool) ++ gone_4014)).bind fun l4023 => (loopO n (F_ref05_Rounds_s3 n d t out_103 gone_4014 round_4015) (0, l4023, out_4016)).bind fun r4344 => match r4344 with | (out_4341, out_4342) => some (Sum.inl (out_4341, (w64 (round_4015 + 1)), out_4342))) else (some (Sum.inr out_4016))
def F_ref05_Rounds (n : Nat) (d : Canopy) (g : Gust) (t : ref05_Truth) : Option (List Int) :=
 (mkn (d.Ribs.length : Int)).bind fun _ => (mkn (d.Ribs.length : Int)).bind fun _ => (mkn (d.Ribs.length : Int)).bind fun _ => (loopO n (F_ref05_Rounds_s1 n d g t) (0, (List.replicate ((d.Ribs.length : Int)).toNat (0 : Int)))).bind fun out_103 => (loopO n (F_ref05_Rounds_s2 n d t out_103) ((List.replicate ((d.Ribs.length : Int)).toNat (false : Bool)), 1, (List.replicate ((d.Ribs.length : Int)).toNat (0 : Int)))).bind fun out_2721 => some out_2721
set_option maxRecDepth 100000 in
set_option maxHeartbeats 40000000 in
theorem c_ref05_Rounds (n : Nat) (H : Hp) (d : Canopy) (d_v0 : Value) (hd_0 : SL H 7 R_Section d_v0 d.Frame.Sections) (d_v7 : Value) (hd_7 : SL H 2 R_Span d_v7 d.Ribs) (d_v8 : Value) (hd_8 : SL H 1 RInt d_v8 d.Shares) (g : Gust) (t : ref05_Truth) (t_v1 : Value) (ht_1 : SL H 1 RInt t_v1 t.Strengths) (y : (List Int)) (hF : F_ref05_Rounds n d g t = some y) : HC Tryz.prog 58 [.agg [d_v0, .int .i64 d.Frame.Low, .int .i64 d.Frame.High, .int .i64 d.Frame.Ease.Num, .int .i64 d.Frame.Ease.Den, .int .i64 d.Frame.Rod, .int .i64 d.Frame.Case, d_v7, d_v8].toArray, .agg [.int .i64 g.Force, .int .i64 g.At].toArray, .agg [.int .i64 t.Lift, t_v1].toArray] H (fun H' ra_v0 => SL H' 1 RInt ra_v0 y) := by
 rw [F_ref05_Rounds] at hF
 refine HC.of (N := 89) Tryz.func58 rfl rfl rfl fun w => ?_
 refine JC.seq ?_
 refine JC.region (by rfl) ?_
 intro hQ
 refine JL.box (cs := [d_v0, .int .i64 d.Frame.Low, .int .i64 d.Frame.High, .int .i64 d.Frame.Ease.Num, .int .i64 d.Frame.Ease.Den, .int .i64 d.Frame.Rod, .int .i64 d.Frame.Case, d_v7, d_v8]) rfl .none rfl ?_
 intro b1
 refine JL.box (cs := [.int .i64 g.Force, .int .i64 g.At]) rfl .none rfl ?_
 intro b2
 refine JL.box (cs := [.int .i64 t.Lift, t_v1]) rfl .none rfl ?_
 intro b3
 refine JL.assign .none rfl ?_
 refine JL.done hQ ?_
 refine JQ.go ?_
 refine JC.seq ?_
 refine JC.region (by rfl) ?_
 intro hQ
 refine JL.fieldAddr fo_30_1 rfl .none rfl ?_
 refine JL.loadOwn 2 az_27 rfl rfl rfl .none rfl ?_
 refine JL.lenSL (R := R_Span) ul_27 hd_7 .none rfl ?_
 refine JL.assign .none rfl ?_
 refine JL.done hQ ?_
 refine JQ.go ?_
 refine JC.seq ?_
 obtain ⟨u4, hu4, hF⟩ := bind_some hF
 obtain ⟨u9, hu9, hF⟩ := bind_some hF
 obtain ⟨u14, hu14, hF⟩ := bind_some hF
 refine JC.mixed 9 9 #[false, false, false, false, false, false, false, false, false] [(b3, .cells [.int .i64 t.Lift, t_v1].toArray 59), (b2, .cells [.int .i64 g.Force, .int .i64 g.At].toArray 64), (b1, .cells [d_v0, .int .i64 d.Frame.Low, .int .i64 d.Frame.High, .int .i64 d.Frame.Ease.Num, .int .i64 d.Frame.Ease.Den, .int .i64 d.Frame.Rod, .int .i64 d.Frame.Case, d_v7, d_v8].toArray 30)] (by rfl) mo_ (by kernel_rfl) (by kernel_rfl) ?_
 intro hQ hE
 refine JA.cut 0 #[true, true, true, true, true, true, true, true, true] (fun H67 f bs gs => ∃ (v55 : Value) (xs56 : List Value) (v31 : Value) (xs32 : List Value) (v19 : Value) (xs20 : List Value), f 3 = .pointer (some ⟨b1, 0, none⟩) ∧ f 4 = .pointer (some ⟨b2, 0, none⟩) ∧ f 5 = .pointer (some ⟨b3, 0, none⟩) ∧ f 7 = .int .i64 (d.Ribs.length : Int) ∧ f 8 = v19 ∧ f 9 = v31 ∧ f 10 = v55 ∧ bs = [(b3, .cells [.int .i64 t.Lift, t_v1].toArray 59), (b2, .cells [.int .i64 g.Force, .int .i64 g.At].toArray 64), (b1, .cells [d_v0, .int .i64 d.Frame.Low, .int .i64 d.Frame.High, .int .i64 d.Frame.Ease.Num, .int .i64 d.Frame.Ease.Den, .int .i64 d.Frame.Rod, .int .i64 d.Frame.Case, d_v7, d_v8].toArray 30)] ∧ gs = [⟨v55, 3, 1, (List.replicate ((d.Ribs.length : Int)).toNat (0 : Int)).length, xs56⟩, ⟨v31, 4, 1, (List.replicate ((d.Ribs.length : Int)).toNat (false : Bool)).length, xs32⟩, ⟨v19, 3, 1, (List.replicate ((d.Ribs.length : Int)).toNat (0 : Int)).length, xs20⟩] ∧ CH H67 1 RInt xs56 (List.replicate ((d.Ribs.length : Int)).toNat (0 : Int)) ∧ CH H67 1 RBool xs32 (List.replicate ((d.Ribs.length : Int)).toNat (false : Bool)) ∧ CH H67 1 RInt xs20 (List.replicate ((d.Ribs.length : Int)).toNat (0 : Int)) ∧ HSub H H67) ?_ ?_
 ·rintro H67 f bs gs ⟨v55, xs56, v31, xs32, v19, xs20, hf3, hf4, hf5, hf7, hf8, hf9, hf10, rfl, rfl, hm68, hm69, hm70, hs67⟩
  refine (JA.norm (i := 3) hf3 (JA.norm (i := 4) hf4 (JA.norm (i := 5) hf5 (JA.norm (i := 7) hf7 (JA.norm (i := 8) hf8 (JA.norm (i := 9) hf9 (JA.norm (i := 10) hf10 ?_)))))))
  refine JA.done hQ (by kernel_rfl) ?_
  refine JQ.go ?_
  refine JC.seq ?_
  refine JC.seq ?_
  refine JC.region (by rfl) ?_
  intro hQ
  refine JL.assign .none rfl ?_
  refine JL.done hQ ?_
  refine JQ.go ?_
  obtain ⟨r105, hlr105, hKr105⟩ := bind_some hF
  refine JC.join (fun (out_103 : List Int) H104 f bs gs => ∃ (vout_103 : Value) (xsout_103 : List Value), f 5 = .pointer (some ⟨b3, 0, none⟩) ∧ f 7 = .int .i64 (d.Ribs.length : Int) ∧ f 8 = vout_103 ∧ f 9 = v31 ∧ f 10 = v55 ∧ bs = [(b3, .cells [.int .i64 t.Lift, t_v1].toArray 59)] ∧ gs = [⟨v55, 3, 1, (List.replicate ((d.Ribs.length : Int)).toNat (0 : Int)).length, xs56⟩, ⟨v31, 4, 1, (List.replicate ((d.Ribs.length : Int)).toNat (false : Bool)).length, xs32⟩, ⟨vout_103, 3, 1, out_103.length, xsout_103⟩] ∧ CH H104 1 RInt xsout_103 out_103 ∧ HSub H67 H104 ∧ out_103 = r105) ?_ ?_
  ·skip
   refine JC.block ?_
   refine JC.loop hlr105 (fun (x : Int × List Int) H128 f bs gs => match x with | (i_126, out_127) => ∃ (vout_127 : Value) (xsout_127 : List Value), f 3 = .pointer (some ⟨b1, 0, none⟩) ∧ f 4 = .pointer (some ⟨b2, 0, none⟩) ∧ f 5 = .pointer (some ⟨b3, 0, none⟩) ∧ f 7 = .int .i64 (d.Ribs.length : Int) ∧ f 8 = vout_127 ∧ f 9 = v31 ∧ f 10 = v55 ∧ f 11 = .int .i64 i_126 ∧ bs = [(b3, .cells [.int .i64 t.Lift, t_v1].toArray 59), (b2, .cells [.int .i64 g.Force, .int .i64 g.At].toArray 64), (b1, .cells [d_v0, .int .i64 d.Frame.Low, .int .i64 d.Frame.High, .int .i64 d.Frame.Ease.Num, .int .i64 d.Frame.Ease.Den, .int .i64 d.Frame.Rod, .int .i64 d.Frame.Case, d_v7, d_v8].toArray 30)] ∧ gs = [⟨v55, 3, 1, (List.replicate ((d.Ribs.length : Int)).toNat (0 : Int)).length, xs56⟩, ⟨v31, 4, 1, (List.replicate ((d.Ribs.length : Int)).toNat (false : Bool)).length, xs32⟩, ⟨vout_127, 3, 1, out_127.length, xsout_127⟩] ∧ CH H128 1 RInt xsout_127 out_127 ∧ HSub H67 H128) ⟨v19, xs20, rfl, rfl, rfl, rfl, rfl, rfl, rfl, rfl, rfl, rfl, hm70, (HSub.refl _)⟩ ?_
   rintro ⟨i_126, out_127⟩ x130 H128 f bs gs ⟨vout_127, xsout_127, hf3, hf4, hf5, hf7, hf8, hf9, hf10, hf11, rfl, rfl, hout_127, hs128⟩ hF hr129
   rw [F_ref05_Rounds_s1] at hF
   refine (JC.norm (i := 3) hf3 (JC.norm (i := 4) hf4 (JC.norm (i := 5) hf5 (JC.norm (i := 7) hf7 (JC.norm (i := 8) hf8 (JC.norm (i := 9) hf9 (JC.norm (i := 10) hf10 (JC.norm (i := 11) hf11 ?_))))))))
   refine JC.seq ?_
   refine JC.seq ?_
   refine JC.region (by rfl) ?_
   intro hQ
   refine JL.move .none rfl ?_
   refine JL.move .none rfl ?_
   refine JL.bin rfl rfl rfl .none rfl ?_
   refine JL.done hQ ?_
   refine JQ.go ?_
   rcases ite_some hF with ⟨hc131, hF⟩ | ⟨hc131, hF⟩
   ·refine JC.cond_t (b := decide (i_126 < (d.Ribs.length : Int))) rfl hc131 ?_
    refine JC.skip ?_
    refine JQ.go ?_
    refine JC.seq ?_
    refine JC.block ?_
    refine JC.region (by rfl) ?_
    intro hQ
    refine JL.move .none rfl ?_
    refine JL.move .none rfl ?_
    refine JL.loadOwn 2 az_30 rfl rfl rfl .none rfl ?_
    refine JL.loadOwn 1 az_64 rfl rfl rfl .none rfl ?_
    refine JL.fieldAddr fo_59_0 rfl .none rfl ?_
    refine JL.loadOwn 0 az_3 rfl rfl rfl .none rfl ?_
    refine JL.move .none rfl ?_
    obtain ⟨y132, hy132, hF⟩ := bind_some hF
    refine JL.callS (c_ref05_Load n H128 d d_v0 (SL.mono R_Section_mono (HSub.trans hs67 hs128) hd_0) d_v7 (SL.mono R_Span_mono (HSub.trans hs67 hs128) hd_7) d_v8 (SL.mono RInt.mono (HSub.trans hs67 hs128) hd_8) g t.Lift i_126 y132 hy132) rfl en_82 .none rfl ?_
    obtain ⟨y133, hy133, hF⟩ := bind_some hF
    refine JL.indexG 2 (l := out_127) sl_28 rfl rfl rfl rfl hy133 .none rfl ?_
    intro b134 hb135
    refine JL.storeG (R := RInt) 2 (i := i_126) (l := out_127) (y := y133) (y' := y132) (off := 0) az_3 rfl rfl rfl rfl (one_cons rfl one_nil) rfl hb135 hout_127 rfl hy133 rfl (by rintro cs rfl; rfl) .none ?_
    intro xs136 hch137
    refine JL.done hQ ?_
    refine JQ.normal_block ?_
    refine JQ.go ?_
    refine JC.fresh (fun f => f 3 = .pointer (some ⟨b1, 0, none⟩) ∧ f 4 = .pointer (some ⟨b2, 0, none⟩) ∧ f 5 = .pointer (some ⟨b3, 0, none⟩) ∧ f 7 = .int .i64 (d.Ribs.length : Int) ∧ f 8 = vout_127 ∧ f 9 = v31 ∧ f 10 = v55 ∧ f 11 = .int .i64 i_126) ⟨rfl, rfl, rfl, rfl, rfl, rfl, rfl, rfl⟩ ?_
    rintro f ⟨hf3, hf4, hf5, hf7, hf8, hf9, hf10, hf11⟩
    refine (JC.norm (i := 3) hf3 (JC.norm (i := 4) hf4 (JC.norm (i := 5) hf5 (JC.norm (i := 7) hf7 (JC.norm (i := 8) hf8 (JC.norm (i := 9) hf9 (JC.norm (i := 10) hf10 (JC.norm (i := 11) hf11 ?_))))))))
    refine JC.region (by rfl) ?_
    intro hQ
    refine JL.move .none rfl ?_
    refine JL.bin rfl rfl rfl .none rfl ?_
    refine JL.assign .none rfl ?_
    refine JL.done hQ ?_
    obtain rfl := Option.some.inj hF
    exact JQ.next rfl ⟨vout_127, xs136, rfl, rfl, rfl, rfl, rfl, rfl, rfl, rfl, rfl, rfl, hch137, hs128⟩
   ·refine JC.cond_f (b := decide (i_126 < (d.Ribs.length : Int))) rfl hc131 ?_
    refine JC.exit ?_
    refine JQ.exit_then ?_
    refine JQ.exit_then ?_
    refine JQ.exit_block ?_
    obtain rfl := Option.some.inj hF
    have ehr129 := hr129 _ rfl
    subst ehr129
    refine JQ.mask [true, false, false] [true, true, true] ?_
    exact JQ.join out_127 ⟨vout_127, xsout_127, rfl, rfl, rfl, rfl, rfl, rfl, rfl, hout_127, hs128, rfl⟩
  ·rintro out_103 H104 f bs gs ⟨vout_103, xsout_103, hf5, hf7, hf8, hf9, hf10, rfl, rfl, hout_103, hs104, rfl⟩
   have hF := hKr105
   try dsimp only at hF
   refine (JQ.norm (i := 5) hf5 (JQ.norm (i := 7) hf7 (JQ.norm (i := 8) hf8 (JQ.norm (i := 9) hf9 (JQ.norm (i := 10) hf10 ?_)))))
   refine JQ.go ?_
   refine JC.seq ?_
   refine JC.seq ?_
   refine JC.region (by rfl) ?_
   intro hQ
   refine JL.assign .none rfl ?_
   refine JL.done hQ ?_
   refine JQ.go ?_
   refine JC.freezeG 1 (R := RBool) rfl RBool.mono (CH.mono RBool.mono hs104 hm69) rfl ?_
   intro H782 hs782 hg783
   obtain ⟨r2723, hlr2723, hKr2723⟩ := bind_some hF
   refine JC.join (fun (out_2721 : List Int) H2722 f bs gs => ∃ (vout_2721 : Value) (xsout_2721 : List Value), f 10 = vout_2721 ∧ bs = [] ∧ gs = [⟨vout_2721, 3, 1, out_2721.length, xsout_2721⟩] ∧ CH H2722 1 RInt xsout_2721 out_2721 ∧ HSub H782 H2722 ∧ out_2721 = r2723) ?_ ?_
   ·skip
    refine JC.block ?_
    refine JC.loop hlr2723 (fun (x : List Bool × Int × List Int) H4017 f bs gs => match x with | (gone_4014, round_4015, out_4016) => ∃ (vgone_4014 : Value) (vout_4016 : Value) (xsout_4016 : List Value), f 5 = .pointer (some ⟨b3, 0, none⟩) ∧ f 7 = .int .i64 (d.Ribs.length : Int) ∧ f 8 = vout_103 ∧ f 9 = vgone_4014 ∧ f 10 = vout_4016 ∧ f 12 = .int .i64 round_4015 ∧ bs = [(b3, .cells [.int .i64 t.Lift, t_v1].toArray 59)] ∧ gs = [⟨vout_4016, 3, 1, out_4016.length, xsout_4016⟩, ⟨vout_103, 3, 1, out_103.length, xsout_103⟩] ∧ SL H4017 1 RBool vgone_4014 gone_4014 ∧ CH H4017 1 RInt xsout_4016 out_4016 ∧ HSub H782 H4017) ⟨v31, v55, xs56, rfl, rfl, rfl, rfl, rfl, rfl, rfl, rfl, hg783, (CH.mono RInt.mono (HSub.trans hs104 hs782) hm68), (HSub.refl _)⟩ ?_
    rintro ⟨gone_4014, round_4015, out_4016⟩ x4019 H4017 f bs gs ⟨vgone_4014, vout_4016, xsout_4016, hf5, hf7, hf8, hf9, hf10, hf12, rfl, rfl, hgone_4014, hout_4016, hs4017⟩ hF hr4018
    rw [F_ref05_Rounds_s2] at hF
    refine (JC.norm (i := 5) hf5 (JC.norm (i := 7) hf7 (JC.norm (i := 8) hf8 (JC.norm (i := 9) hf9 (JC.norm (i := 10) hf10 (JC.norm (i := 12) hf12 ?_))))))
    refine JC.seq ?_
    refine JC.seq ?_
    refine JC.region (by rfl) ?_
    intro hQ
    refine JL.move .none rfl ?_
    refine JL.move .none rfl ?_
    refine JL.bin rfl rfl rfl .none rfl ?_
    refine JL.done hQ ?_
    refine JQ.go ?_
    rcases ite_some hF with ⟨hc4020, hF⟩ | ⟨hc4020, hF⟩
    ·refine JC.cond_t (b := decide (round_4015 ≤ (d.Ribs.length : Int))) rfl hc4020 ?_
     refine JC.skip ?_
     refine JQ.go ?_
     refine JC.seq ?_
     refine JC.block ?_
     refine JC.seq ?_
     refine JC.region (by rfl) ?_
     intro hQ
     refine JL.emptySlice ap_126 .none rfl ?_
     intro v4021
     refine JL.move .none rfl ?_
     obtain ⟨l4023, hl4023, hF⟩ := bind_some hF
     refine JL.appD (R := RBool) 0 (l := ([] : List Bool)) (m := gone_4014) ap_126 rfl ⟨rfl, rfl⟩ rfl CH.nil rfl hgone_4014 (RBool.one _) hl4023 .none rfl ?_
     intro v4024 xs4025 hch4026
     refine JL.assign .none rfl ?_
     refine JL.done hQ ?_
     refine JQ.go ?_
     refine JC.seq ?_
     refine JC.seq ?_
     refine JC.region (by rfl) ?_
     intro hQ
     refine JL.assign .none rfl ?_
     refine JL.done hQ ?_
     refine JQ.go ?_
     obtain ⟨r4344, hlr4344, hKr4344⟩ := bind_some hF
     refine JC.join (fun (x : List Bool × List Int) H4343 f bs gs => match x with | (out_4341, out_4342) => ∃ (vout_4341 : Value) (xsout_4341 : List Value) (vout_4342 : Value) (xsout_4342 : List Value), f 5 = .pointer (some ⟨b3, 0, none⟩) ∧ f 7 = .int .i64 (d.Ribs.length : Int) ∧ f 8 = vout_103 ∧ f 10 = vout_4342 ∧ f 12 = .int .i64 round_4015 ∧ f 13 = vout_4341 ∧ bs = [(b3, .cells [.int .i64 t.Lift, t_v1].toArray 59)] ∧ gs = [⟨vout_4341, 4, 1, out_4341.length, xsout_4341⟩, ⟨vout_4342, 3, 1, out_4342.length, xsout_4342⟩, ⟨vout_103, 3, 1, out_103.length, xsout_103⟩] ∧ CH H4343 1 RBool xsout_4341 out_4341 ∧ CH H4343 1 RInt xsout_4342 out_4342 ∧ HSub H4017 H4343 ∧ (out_4341, out_4342) = r4344) ?_ ?_
     ·skip
      refine JC.block ?_
      refine JC.loop hlr4344 (fun (x : Int × List Bool × List Int) H4556 f bs gs => match x with | (i_4553, out_4554, out_4555) => ∃ (vout_4554 : Value) (xsout_4554 : List Value) (vout_4555 : Value) (xsout_4555 : List Value), f 5 = .pointer (some ⟨b3, 0, none⟩) ∧ f 7 = .int .i64 (d.Ribs.length : Int) ∧ f 8 = vout_103 ∧ f 9 = vgone_4014 ∧ f 10 = vout_4555 ∧ f 12 = .int .i64 round_4015 ∧ f 13 = vout_4554 ∧ f 14 = .int .i64 i_4553 ∧ bs = [(b3, .cells [.int .i64 t.Lift, t_v1].toArray 59)] ∧ gs = [⟨vout_4554, 4, 1, out_4554.length, xsout_4554⟩, ⟨vout_4555, 3, 1, out_4555.length, xsout_4555⟩, ⟨vout_103, 3, 1, out_103.length, xsout_103⟩] ∧ CH H4556 1 RBool xsout_4554 out_4554 ∧ CH H4556 1 RInt xsout_4555 out_4555 ∧ HSub H4017 H4556) ⟨v4024, xs4025, vout_4016, xsout_4016, rfl, rfl, rfl, rfl, rfl, rfl, rfl, rfl, rfl, rfl, hch4026, hout_4016, (HSub.refl _)⟩ ?_
      rintro ⟨i_4553, out_4554, out_4555⟩ x4558 H4556 f bs gs ⟨vout_4554, xsout_4554, vout_4555, xsout_4555, hf5, hf7, hf8, hf9, hf10, hf12, hf13, hf14, rfl, rfl, hout_4554, hout_4555, hs4556⟩ hF hr4557
      rw [F_ref05_Rounds_s3] at hF
      refine (JC.norm (i := 5) hf5 (JC.norm (i := 7) hf7 (JC.norm (i := 8) hf8 (JC.norm (i := 9) hf9 (JC.norm (i := 10) hf10 (JC.norm (i := 12) hf12 (JC.norm (i := 13) hf13 (JC.norm (i := 14) hf14 ?_))))))))
      refine JC.seq ?_
      refine JC.seq ?_
      refine JC.region (by rfl) ?_
      intro hQ
      refine JL.move .none rfl ?_
      refine JL.move .none rfl ?_
      refine JL.bin rfl rfl rfl .none rfl ?_
      refine JL.done hQ ?_
      refine JQ.go ?_
      rcases ite_some hF with ⟨hc4559, hF⟩ | ⟨hc4559, hF⟩
      ·refine JC.cond_t (b := decide (i_4553 < (d.Ribs.length : Int))) rfl hc4559 ?_
       refine JC.skip ?_
       refine JQ.go ?_
       refine JC.seq ?_
       refine JC.block ?_
       refine JC.seq ?_
       refine JC.factG 2 rfl (fun hfo4596 => ?_)
       refine JC.draw (by rfl) mo_ (by kernel_rfl) ?_
       intro hQ
       refine JL.move .none rfl ?_
       refine JL.move .none rfl ?_
       obtain ⟨y4597, hy4597, hF⟩ := bind_some hF
       refine JL.indexSL (R := RBool) sl_126 (SL.mono RBool.mono hs4556 hgone_4014) rfl hy4597 .none rfl ?_
       rintro b4598 o4599 cs4600 hc4601 - rfl
       refine JL.loadH 0 az_4 rfl hc4601 rfl .none rfl ?_
       refine JL.not rfl .none rfl ?_
       refine JL.move .none rfl ?_
       obtain ⟨p4616, hp4616, hF⟩ := bind_some hF
       refine JL.cut 23 (fun f => f 5 = .pointer (some ⟨b3, 0, none⟩) ∧ f 7 = .int .i64 (d.Ribs.length : Int) ∧ f 8 = vout_103 ∧ f 9 = vgone_4014 ∧ f 10 = vout_4555 ∧ f 12 = .int .i64 round_4015 ∧ f 13 = vout_4554 ∧ f 14 = .int .i64 i_4553 ∧ f 79 = .bool p4616) ?_ ?_
       ·intro hJ4617
        rcases ite_some hp4616 with ⟨hc4618, hF⟩ | ⟨hc4618, hF⟩
        ·skip
         refine JL.move (.some rfl rfl rfl hc4618) rfl ?_
         refine JL.move (.some rfl rfl rfl hc4618) rfl ?_
         obtain ⟨y4619, hy4619, hF⟩ := bind_some hF
         refine JL.indexGq (gq := ⟨vout_103, 3, 1, out_103.length, xsout_103⟩) (l := out_103) hfo4596 sl_28 rfl rfl rfl hy4619 (.some rfl rfl rfl hc4618) rfl ?_
         intro b4620 hb4621
         refine JL.loadG (R := RInt) 2 (i := i_4553) (l := out_103) (off := 0) az_3 rfl rfl rfl hb4621 (CH.mono RInt.mono (HSub.trans hs782 (HSub.trans hs4017 hs4556)) hout_103) hy4619 (by rintro cs rfl; rfl) (.some rfl rfl rfl hc4618) rfl ?_
         refine JL.move (.some rfl rfl rfl hc4618) rfl ?_
         refine JL.move (.some rfl rfl rfl hc4618) rfl ?_
         refine JL.move (.some rfl rfl rfl hc4618) rfl ?_
         obtain ⟨y4624, hy4624, hF⟩ := bind_some hF
         refine JL.callLG1 (R := RInt) 2 rfl RInt.mono (CH.mono RInt.mono (HSub.trans hs782 (HSub.trans hs4017 hs4556)) hout_103) rfl (fun H4622 hs4622 hg4623 => c_ref05_side n H4622 out_103 vout_103 hg4623 gone_4014 vgone_4014 (SL.mono RBool.mono (HSub.trans hs4556 hs4622) hgone_4014) i_4553 (-1) y4624 hy4624) rfl en_83 (.some rfl rfl rfl hc4618) rfl ?_
         refine JL.div rfl rfl (by decide) rfl (.some rfl rfl rfl hc4618) rfl ?_
         refine JL.bin rfl rfl rfl (.some rfl rfl rfl hc4618) rfl ?_
         refine JL.move (.some rfl rfl rfl hc4618) rfl ?_
         refine JL.move (.some rfl rfl rfl hc4618) rfl ?_
         refine JL.move (.some rfl rfl rfl hc4618) rfl ?_
         obtain ⟨y4627, hy4627, hF⟩ := bind_some hF
         refine JL.callLG1 (R := RInt) 2 rfl RInt.mono (CH.mono RInt.mono (HSub.trans hs782 (HSub.trans hs4017 hs4556)) hout_103) rfl (fun H4625 hs4625 hg4626 => c_ref05_side n H4625 out_103 vout_103 hg4626 gone_4014 vgone_4014 (SL.mono RBool.mono (HSub.trans hs4556 hs4625) hgone_4014) i_4553 1 y4627 hy4627) rfl en_83 (.some rfl rfl rfl hc4618) rfl ?_
         refine JL.div rfl rfl (by decide) rfl (.some rfl rfl rfl hc4618) rfl ?_
         refine JL.bin rfl rfl rfl (.some rfl rfl rfl hc4618) rfl ?_
         refine JL.fieldAddr fo_59_1 rfl (.some rfl rfl rfl hc4618) rfl ?_
         refine JL.loadOwn 0 az_28 rfl rfl rfl (.some rfl rfl rfl hc4618) rfl ?_
         refine JL.move (.some rfl rfl rfl hc4618) rfl ?_
         obtain ⟨y4628, hy4628, hF⟩ := bind_some hF
         refine JL.indexSL (R := RInt) sl_28 (SL.mono RInt.mono (HSub.trans hs67 (HSub.trans hs104 (HSub.trans hs782 (HSub.trans hs4017 hs4556)))) ht_1) rfl hy4628 (.some rfl rfl rfl hc4618) rfl ?_
         rintro b4629 o4630 cs4631 hc4632 - rfl
         refine JL.loadH 0 az_3 rfl hc4632 rfl (.some rfl rfl rfl hc4618) rfl ?_
         refine JL.bin rfl rfl rfl (.some rfl rfl rfl hc4618) rfl ?_
         refine JL.pick_t (b := (!y4597)) rfl hc4618 .none rfl ?_
         obtain rfl := Option.some.inj hF
         exact hJ4617 _ ⟨rfl, rfl, rfl, rfl, rfl, rfl, rfl, rfl, rfl⟩
        ·skip
         refine JL.skip (.bool rfl rfl rfl hc4618) rfl ?_
         refine JL.skip (.bool rfl rfl rfl hc4618) rfl ?_
         refine JL.skip (.bool rfl rfl rfl hc4618) rfl ?_
         refine JL.skip (.bool rfl rfl rfl hc4618) rfl ?_
         refine JL.skip (.bool rfl rfl rfl hc4618) rfl ?_
         refine JL.skip (.bool rfl rfl rfl hc4618) rfl ?_
         refine JL.skip (.bool rfl rfl rfl hc4618) rfl ?_
         refine JL.skip (.bool rfl rfl rfl hc4618) rfl ?_
         refine JL.skip (.bool rfl rfl rfl hc4618) rfl ?_
         refine JL.skip (.bool rfl rfl rfl hc4618) rfl ?_
         refine JL.skip (.bool rfl rfl rfl hc4618) rfl ?_
         refine JL.skip (.bool rfl rfl rfl hc4618) rfl ?_
         refine JL.skip (.bool rfl rfl rfl hc4618) rfl ?_
         refine JL.skip (.bool rfl rfl rfl hc4618) rfl ?_
         refine JL.skip (.bool rfl rfl rfl hc4618) rfl ?_
         refine JL.skip (.bool rfl rfl rfl hc4618) rfl ?_
         refine JL.skip (.bool rfl rfl rfl hc4618) rfl ?_
         refine JL.skip (.bool rfl rfl rfl hc4618) rfl ?_
         refine JL.skip (.bool rfl rfl rfl hc4618) rfl ?_
         refine JL.skip (.bool rfl rfl rfl hc4618) rfl ?_
         refine JL.skip (.bool rfl rfl rfl hc4618) rfl ?_
         refine JL.skip (.bool rfl rfl rfl hc4618) rfl ?_
         refine JL.pick_f (b := (!y4597)) rfl hc4618 .none rfl ?_
         obtain rfl := Option.some.inj hF
         exact hJ4617 _ ⟨rfl, rfl, rfl, rfl, rfl, rfl, rfl, rfl, rfl⟩
       ·rintro f ⟨hf5, hf7, hf8, hf9, hf10, hf12, hf13, hf14, hf79⟩
        refine (JL.norm (i := 5) hf5 (JL.norm (i := 7) hf7 (JL.norm (i := 8) hf8 (JL.norm (i := 9) hf9 (JL.norm (i := 10) hf10 (JL.norm (i := 12) hf12 (JL.norm (i := 13) hf13 (JL.norm (i := 14) hf14 (JL.norm (i := 79) hf79 ?_)))))))))
        refine JL.doneQ hQ ?_
        refine JQ.go ?_
        obtain ⟨r4647, hlr4647, hKr4647⟩ := bind_some hF
        refine JC.join (fun (x : List Bool × List Int) H4646 f bs gs => match x with | (out_4644, out_4645) => ∃ (vout_4644 : Value) (xsout_4644 : List Value) (vout_4645 : Value) (xsout_4645 : List Value), f 5 = .pointer (some ⟨b3, 0, none⟩) ∧ f 7 = .int .i64 (d.Ribs.length : Int) ∧ f 8 = vout_103 ∧ f 9 = vgone_4014 ∧ f 10 = vout_4645 ∧ f 12 = .int .i64 round_4015 ∧ f 13 = vout_4644 ∧ f 14 = .int .i64 i_4553 ∧ bs = [(b3, .cells [.int .i64 t.Lift, t_v1].toArray 59)] ∧ gs = [⟨vout_4644, 4, 1, out_4644.length, xsout_4644⟩, ⟨vout_4645, 3, 1, out_4645.length, xsout_4645⟩, ⟨vout_103, 3, 1, out_103.length, xsout_103⟩] ∧ CH H4646 1 RBool xsout_4644 out_4644 ∧ CH H4646 1 RInt xsout_4645 out_4645 ∧ HSub H4556 H4646 ∧ (out_4644, out_4645) = r4647) ?_ ?_
        ·have hF := hlr4647
         rcases ite_some hF with ⟨hc4648, hF⟩ | ⟨hc4648, hF⟩
         ·refine JC.cond_t (b := p4616) rfl hc4648 ?_
          refine JC.region (by rfl) ?_
          intro hQ
          refine JL.move .none rfl ?_
          refine JL.move .none rfl ?_
          refine JL.move .none rfl ?_
          refine JL.move .none rfl ?_
          refine JL.move .none rfl ?_
          obtain ⟨y4649, hy4649, hF⟩ := bind_some hF
          refine JL.indexG 0 (l := out_4554) sl_126 rfl rfl rfl rfl hy4649 .none rfl ?_
          intro b4650 hb4651
          refine JL.storeG (R := RBool) 0 (i := i_4553) (l := out_4554) (y := y4649) (y' := true) (off := 0) az_4 rfl rfl rfl rfl (one_cons rfl one_nil) rfl hb4651 hout_4554 rfl hy4649 rfl (by rintro cs rfl; rfl) .none ?_
          intro xs4652 hch4653
          obtain ⟨y4654, hy4654, hF⟩ := bind_some hF
          refine JL.indexG 1 (l := out_4555) sl_28 rfl rfl rfl rfl hy4654 .none rfl ?_
          intro b4655 hb4656
          refine JL.storeG (R := RInt) 1 (i := i_4553) (l := out_4555) (y := y4654) (y' := round_4015) (off := 0) az_3 rfl rfl rfl rfl (one_cons rfl one_nil) rfl hb4656 hout_4555 rfl hy4654 rfl (by rintro cs rfl; rfl) .none ?_
          intro xs4657 hch4658
          refine JL.done hQ ?_
          obtain rfl := Option.some.inj hF
          exact JQ.join ((setx out_4554 i_4553 true), (setx out_4555 i_4553 round_4015)) ⟨vout_4554, xs4652, vout_4555, xs4657, rfl, rfl, rfl, rfl, rfl, rfl, rfl, rfl, rfl, rfl, hch4653, hch4658, (HSub.refl _), rfl⟩
         ·refine JC.cond_f (b := p4616) rfl hc4648 ?_
          refine JC.skip ?_
          obtain rfl := Option.some.inj hF
          exact JQ.join (out_4554, out_4555) ⟨vout_4554, xsout_4554, vout_4555, xsout_4555, rfl, rfl, rfl, rfl, rfl, rfl, rfl, rfl, rfl, rfl, hout_4554, hout_4555, (HSub.refl _), rfl⟩
        ·rintro ⟨out_4644, out_4645⟩ H4646 f bs gs ⟨vout_4644, xsout_4644, vout_4645, xsout_4645, hf5, hf7, hf8, hf9, hf10, hf12, hf13, hf14, rfl, rfl, hout_4644, hout_4645, hs4646, rfl⟩
         have hF := hKr4647
         try dsimp only at hF
         refine (JQ.norm (i := 5) hf5 (JQ.norm (i := 7) hf7 (JQ.norm (i := 8) hf8 (JQ.norm (i := 9) hf9 (JQ.norm (i := 10) hf10 (JQ.norm (i := 12) hf12 (JQ.norm (i := 13) hf13 (JQ.norm (i := 14) hf14 ?_))))))))
         refine JQ.normal_block ?_
         refine JQ.go ?_
         refine JC.region (by rfl) ?_
         intro hQ
         refine JL.move .none rfl ?_
         refine JL.bin rfl rfl rfl .none rfl ?_
         refine JL.assign .none rfl ?_
         refine JL.done hQ ?_
         obtain rfl := Option.some.inj hF
         exact JQ.next rfl ⟨vout_4644, xsout_4644, vout_4645, xsout_4645, rfl, rfl, rfl, rfl, rfl, rfl, rfl, rfl, rfl, rfl, hout_4644, hout_4645, (HSub.trans hs4556 hs4646)⟩
      ·refine JC.cond_f (b := decide (i_4553 < (d.Ribs.length : Int))) rfl hc4559 ?_
       refine JC.exit ?_
       refine JQ.exit_then ?_
       refine JQ.exit_then ?_
       refine JQ.exit_block ?_
       obtain rfl := Option.some.inj hF
       have ehr4557 := hr4557 _ rfl
       subst ehr4557
       exact JQ.join (out_4554, out_4555) ⟨vout_4554, xsout_4554, vout_4555, xsout_4555, rfl, rfl, rfl, rfl, rfl, rfl, rfl, rfl, hout_4554, hout_4555, hs4556, rfl⟩
     ·rintro ⟨out_4341, out_4342⟩ H4343 f bs gs ⟨vout_4341, xsout_4341, vout_4342, xsout_4342, hf5, hf7, hf8, hf10, hf12, hf13, rfl, rfl, hout_4341, hout_4342, hs4343, rfl⟩
      have hF := hKr4344
      try dsimp only at hF
      refine (JQ.norm (i := 5) hf5 (JQ.norm (i := 7) hf7 (JQ.norm (i := 8) hf8 (JQ.norm (i := 10) hf10 (JQ.norm (i := 12) hf12 (JQ.norm (i := 13) hf13 ?_))))))
      refine JQ.go ?_
      refine JC.region (by rfl) ?_
      intro hQ
      refine JL.move .none rfl ?_
      refine JL.freezeG 0 (R := RBool) rfl RBool.mono hout_4341 rfl ?_
      intro H4659 hs4659 hg4660
      refine JL.assign .none rfl ?_
      refine JL.done hQ ?_
      refine JQ.normal_block ?_
      refine JQ.go ?_
      refine JC.region (by rfl) ?_
      intro hQ
      refine JL.move .none rfl ?_
      refine JL.bin rfl rfl rfl .none rfl ?_
      refine JL.assign .none rfl ?_
      refine JL.done hQ ?_
      obtain rfl := Option.some.inj hF
      exact JQ.next rfl ⟨vout_4341, vout_4342, xsout_4342, rfl, rfl, rfl, rfl, rfl, rfl, rfl, rfl, hg4660, (CH.mono RInt.mono hs4659 hout_4342), (HSub.trans hs4017 (HSub.trans hs4343 hs4659))⟩
    ·refine JC.cond_f (b := decide (round_4015 ≤ (d.Ribs.length : Int))) rfl hc4020 ?_
     refine JC.exit ?_
     refine JQ.exit_then ?_
     refine JQ.exit_then ?_
     refine JQ.exit_block ?_
     obtain rfl := Option.some.inj hF
     have ehr4018 := hr4018 _ rfl
     subst ehr4018
     refine JQ.mask [false] [true, false] ?_
     exact JQ.join out_4016 ⟨vout_4016, xsout_4016, rfl, rfl, rfl, hout_4016, hs4017, rfl⟩
   ·rintro out_2721 H2722 f bs gs ⟨vout_2721, xsout_2721, hf10, rfl, rfl, hout_2721, hs2722, rfl⟩
    have hF := hKr2723
    try dsimp only at hF
    refine (JQ.norm (i := 10) hf10 ?_)
    refine JQ.go ?_
    refine JC.seq ?_
    refine JC.region (by rfl) ?_
    intro hQ
    refine JL.move .none rfl ?_
    refine JL.assign .none rfl ?_
    refine JL.done hQ ?_
    refine JQ.go ?_
    refine JC.ret ?_
    refine JQ.freezeG 0 (R := RInt) rfl RInt.mono hout_2721 rfl ?_
    intro H4661 hs4661 hg4662
    obtain rfl := Option.some.inj hF
    exact JQ.outH rfl (.tmp .nil) hg4662
 intro nd66_0
 refine JA.cut 2 #[true, true, true, true, true, false, true, true, false] (fun H4663 f bs gs => ∃ (v31 : Value) (xs32 : List Value) (v19 : Value) (xs20 : List Value), f 3 = .pointer (some ⟨b1, 0, none⟩) ∧ f 4 = .pointer (some ⟨b2, 0, none⟩) ∧ f 5 = .pointer (some ⟨b3, 0, none⟩) ∧ f 7 = .int .i64 (d.Ribs.length : Int) ∧ f 8 = v19 ∧ f 9 = v31 ∧ f 22 = .int .i64 (d.Ribs.length : Int) ∧ bs = [(b3, .cells [.int .i64 t.Lift, t_v1].toArray 59), (b2, .cells [.int .i64 g.Force, .int .i64 g.At].toArray 64), (b1, .cells [d_v0, .int .i64 d.Frame.Low, .int .i64 d.Frame.High, .int .i64 d.Frame.Ease.Num, .int .i64 d.Frame.Ease.Den, .int .i64 d.Frame.Rod, .int .i64 d.Frame.Case, d_v7, d_v8].toArray 30)] ∧ gs = [⟨v31, 4, 1, (List.replicate ((d.Ribs.length : Int)).toNat (false : Bool)).length, xs32⟩, ⟨v19, 3, 1, (List.replicate ((d.Ribs.length : Int)).toNat (0 : Int)).length, xs20⟩] ∧ CH H4663 1 RBool xs32 (List.replicate ((d.Ribs.length : Int)).toNat (false : Bool)) ∧ CH H4663 1 RInt xs20 (List.replicate ((d.Ribs.length : Int)).toNat (0 : Int)) ∧ HSub H H4663) ?_ ?_
 ·rintro H4663 f bs gs ⟨v31, xs32, v19, xs20, hf3, hf4, hf5, hf7, hf8, hf9, hf22, rfl, rfl, hm4664, hm4665, hs4663⟩
  refine (JA.norm (i := 3) hf3 (JA.norm (i := 4) hf4 (JA.norm (i := 5) hf5 (JA.norm (i := 7) hf7 (JA.norm (i := 8) hf8 (JA.norm (i := 9) hf9 (JA.norm (i := 22) hf22 ?_)))))))
  refine JA.many [5] (by kernel_rfl) (by simp) (all_one ⟨_, #[true, true, true, true, true, true, true, true, false], rfl, (by kernel_rfl), ?_⟩)
  refine JL.makeG (R := RInt) (z0 := 0) (.inl ap_28) ze_3 rfl (fun _ => rfl) rfl rfl hu14 .none rfl ?_
  intro v4666 xs4667 hch4668
  refine JA.after hE hs4663 (.cons_cons _ (.cons_cons _ (.cons_cons _ (List.nil_sublist _)))) ?_
  refine JA.take 8 (listed' := #[true, true, true, true, true, true, true, true, true]) hQ rfl (by kernel_rfl) (by kernel_rfl) (by kernel_rfl) (by kernel_rfl) (by kernel_rfl) hE hs4663 (.cons_cons _ (.cons_cons _ (.cons_cons _ (List.nil_sublist _)))) ?_
  refine JL.assign .none rfl ?_
  refine JA.cont ?_
  exact nd66_0 _ _ _ _ ⟨v4666, xs4667, v31, xs32, v19, xs20, rfl, rfl, rfl, rfl, rfl, rfl, rfl, rfl, rfl, hch4668, hm4664, hm4665, hs4663⟩
 intro nd66_1
 refine JA.cut 3 #[true, true, true, false, true, true, true, false, false] (fun H4670 f bs gs => ∃ (v35 : Value) (xs36 : List Value) (v19 : Value) (xs20 : List Value), f 3 = .pointer (some ⟨b1, 0, none⟩) ∧ f 4 = .pointer (some ⟨b2, 0, none⟩) ∧ f 5 = .pointer (some ⟨b3, 0, none⟩) ∧ f 7 = .int .i64 (d.Ribs.length : Int) ∧ f 8 = v19 ∧ f 20 = .int .i64 (d.Ribs.length : Int) ∧ f 23 = v35 ∧ bs = [(b3, .cells [.int .i64 t.Lift, t_v1].toArray 59), (b2, .cells [.int .i64 g.Force, .int .i64 g.At].toArray 64), (b1, .cells [d_v0, .int .i64 d.Frame.Low, .int .i64 d.Frame.High, .int .i64 d.Frame.Ease.Num, .int .i64 d.Frame.Ease.Den, .int .i64 d.Frame.Rod, .int .i64 d.Frame.Case, d_v7, d_v8].toArray 30)] ∧ gs = [⟨v35, 3, 1, (List.replicate ((d.Ribs.length : Int)).toNat (0 : Int)).length, xs36⟩, ⟨v19, 3, 1, (List.replicate ((d.Ribs.length : Int)).toNat (0 : Int)).length, xs20⟩] ∧ CH H4670 1 RInt xs36 (List.replicate ((d.Ribs.length : Int)).toNat (0 : Int)) ∧ CH H4670 1 RInt xs20 (List.replicate ((d.Ribs.length : Int)).toNat (0 : Int)) ∧ HSub H H4670) ?_ ?_
 ·rintro H4670 f bs gs ⟨v35, xs36, v19, xs20, hf3, hf4, hf5, hf7, hf8, hf20, hf23, rfl, rfl, hm4671, hm4672, hs4670⟩
  refine (JA.norm (i := 3) hf3 (JA.norm (i := 4) hf4 (JA.norm (i := 5) hf5 (JA.norm (i := 7) hf7 (JA.norm (i := 8) hf8 (JA.norm (i := 20) hf20 (JA.norm (i := 23) hf23 ?_)))))))
  refine JA.many [3] (by kernel_rfl) (by simp) (all_one ⟨_, #[true, true, true, true, true, true, true, false, false], rfl, (by kernel_rfl), ?_⟩)
  refine JL.makeG (R := RBool) (z0 := false) (.inr ap_126) ze_4 rfl (fun _ => rfl) rfl rfl hu9 .none rfl ?_
  intro v4673 xs4674 hch4675
  refine JA.after hE hs4670 (.cons_cons _ (.cons_cons _ (.cons_cons _ (List.nil_sublist _)))) ?_
  refine JA.take 7 (listed' := #[true, true, true, true, true, true, true, true, false]) hQ rfl (by kernel_rfl) (by kernel_rfl) (by kernel_rfl) (by kernel_rfl) (by kernel_rfl) hE hs4670 (.cons_cons _ (.cons_cons _ (.cons_cons _ (List.nil_sublist _)))) ?_
  refine JL.assign .none rfl ?_
  refine JA.cont ?_
  refine JA.take 8 (listed' := #[true, true, true, true, true, true, true, true, true]) hQ rfl (by kernel_rfl) (by kernel_rfl) (by kernel_rfl) (by kernel_rfl) (by kernel_rfl) hE hs4670 (.cons_cons _ (.cons_cons _ (.cons_cons _ (List.nil_sublist _)))) ?_
  refine JL.assign .none rfl ?_
  refine JA.cont ?_
  refine JA.permG (swapAt_perm 0 _) ?_
  exact nd66_0 _ _ _ _ ⟨v35, xs36, v4673, xs4674, v19, xs20, rfl, rfl, rfl, rfl, rfl, rfl, rfl, rfl, rfl, hm4671, hch4675, hm4672, hs4670⟩
 intro nd66_2
 refine JA.cut 4 #[true, false, true, true, true, true, false, false, false] (fun H4677 f bs gs => ∃ (v43 : Value) (xs44 : List Value) (v23 : Value) (xs24 : List Value), f 3 = .pointer (some ⟨b1, 0, none⟩) ∧ f 4 = .pointer (some ⟨b2, 0, none⟩) ∧ f 5 = .pointer (some ⟨b3, 0, none⟩) ∧ f 7 = .int .i64 (d.Ribs.length : Int) ∧ f 18 = .int .i64 (d.Ribs.length : Int) ∧ f 21 = v23 ∧ f 23 = v43 ∧ bs = [(b3, .cells [.int .i64 t.Lift, t_v1].toArray 59), (b2, .cells [.int .i64 g.Force, .int .i64 g.At].toArray 64), (b1, .cells [d_v0, .int .i64 d.Frame.Low, .int .i64 d.Frame.High, .int .i64 d.Frame.Ease.Num, .int .i64 d.Frame.Ease.Den, .int .i64 d.Frame.Rod, .int .i64 d.Frame.Case, d_v7, d_v8].toArray 30)] ∧ gs = [⟨v43, 3, 1, (List.replicate ((d.Ribs.length : Int)).toNat (0 : Int)).length, xs44⟩, ⟨v23, 4, 1, (List.replicate ((d.Ribs.length : Int)).toNat (false : Bool)).length, xs24⟩] ∧ CH H4677 1 RInt xs44 (List.replicate ((d.Ribs.length : Int)).toNat (0 : Int)) ∧ CH H4677 1 RBool xs24 (List.replicate ((d.Ribs.length : Int)).toNat (false : Bool)) ∧ HSub H H4677) ?_ ?_
 ·rintro H4677 f bs gs ⟨v43, xs44, v23, xs24, hf3, hf4, hf5, hf7, hf18, hf21, hf23, rfl, rfl, hm4678, hm4679, hs4677⟩
  refine (JA.norm (i := 3) hf3 (JA.norm (i := 4) hf4 (JA.norm (i := 5) hf5 (JA.norm (i := 7) hf7 (JA.norm (i := 18) hf18 (JA.norm (i := 21) hf21 (JA.norm (i := 23) hf23 ?_)))))))
  refine JA.many [1] (by kernel_rfl) (by simp) (all_one ⟨_, #[true, true, true, true, true, true, false, false, false], rfl, (by kernel_rfl), ?_⟩)
  refine JL.makeG (R := RInt) (z0 := 0) (.inl ap_28) ze_3 rfl (fun _ => rfl) rfl rfl hu4 .none rfl ?_
  intro v4680 xs4681 hch4682
  refine JA.after hE hs4677 (.cons_cons _ (.cons_cons _ (.cons_cons _ (List.nil_sublist _)))) ?_
  refine JA.take 6 (listed' := #[true, true, true, true, true, true, true, false, false]) hQ rfl (by kernel_rfl) (by kernel_rfl) (by kernel_rfl) (by kernel_rfl) (by kernel_rfl) hE hs4677 (.cons_cons _ (.cons_cons _ (.cons_cons _ (List.nil_sublist _)))) ?_
  refine JL.assign .none rfl ?_
  refine JA.cont ?_
  refine JA.take 7 (listed' := #[true, true, true, true, true, true, true, true, false]) hQ rfl (by kernel_rfl) (by kernel_rfl) (by kernel_rfl) (by kernel_rfl) (by kernel_rfl) hE hs4677 (.cons_cons _ (.cons_cons _ (.cons_cons _ (List.nil_sublist _)))) ?_
  refine JL.assign .none rfl ?_
  refine JA.cont ?_
  refine JA.take 8 (listed' := #[true, true, true, true, true, true, true, true, true]) hQ rfl (by kernel_rfl) (by kernel_rfl) (by kernel_rfl) (by kernel_rfl) (by kernel_rfl) hE hs4677 (.cons_cons _ (.cons_cons _ (.cons_cons _ (List.nil_sublist _)))) ?_
  refine JL.assign .none rfl ?_
  refine JA.cont ?_
  refine JA.permG (swapAt_perm 0 _) ?_
  refine JA.permG (swapAt_perm 1 _) ?_
  exact nd66_0 _ _ _ _ ⟨v43, xs44, v23, xs24, v4680, xs4681, rfl, rfl, rfl, rfl, rfl, rfl, rfl, rfl, rfl, hm4678, hm4679, hch4682, hs4677⟩
 intro nd66_3
 refine JA.take 0 (listed' := #[true, false, false, false, false, false, false, false, false]) hQ rfl (by kernel_rfl) (by kernel_rfl) (by kernel_rfl) (by kernel_rfl) (by kernel_rfl) hE (HSub.refl _) (.cons_cons _ (.cons_cons _ (.cons_cons _ (List.nil_sublist _)))) ?_
 refine JL.move .none rfl ?_
 refine JA.cont ?_
 refine JA.take 2 (listed' := #[true, false, true, false, false, false, false, false, false]) hQ rfl (by kernel_rfl) (by kernel_rfl) (by kernel_rfl) (by kernel_rfl) (by kernel_rfl) hE (HSub.refl _) (.cons_cons _ (.cons_cons _ (.cons_cons _ (List.nil_sublist _)))) ?_
 refine JL.move .none rfl ?_
 refine JA.cont ?_
 refine JA.take 4 (listed' := #[true, false, true, false, true, false, false, false, false]) hQ rfl (by kernel_rfl) (by kernel_rfl) (by kernel_rfl) (by kernel_rfl) (by kernel_rfl) hE (HSub.refl _) (.cons_cons _ (.cons_cons _ (.cons_cons _ (List.nil_sublist _)))) ?_
 refine JL.move .none rfl ?_
 refine JA.cont ?_
 refine JA.many [1, 3, 5] (by kernel_rfl) (by simp) (all_cons ⟨_, #[true, true, true, false, true, false, false, false, false], rfl, (by kernel_rfl), ?_⟩ (all_cons ⟨_, #[true, false, true, true, true, false, false, false, false], rfl, (by kernel_rfl), ?_⟩ (all_one ⟨_, #[true, false, true, false, true, true, false, false, false], rfl, (by kernel_rfl), ?_⟩)))
 ·skip
  refine JL.makeG (R := RInt) (z0 := 0) (.inl ap_28) ze_3 rfl (fun _ => rfl) rfl rfl hu4 .none rfl ?_
  intro v4684 xs4685 hch4686
  refine JA.after hE (HSub.refl _) (.cons_cons _ (.cons_cons _ (.cons_cons _ (List.nil_sublist _)))) ?_
  refine JA.take 6 (listed' := #[true, true, true, false, true, false, true, false, false]) hQ rfl (by kernel_rfl) (by kernel_rfl) (by kernel_rfl) (by kernel_rfl) (by kernel_rfl) hE (HSub.refl _) (.cons_cons _ (.cons_cons _ (.cons_cons _ (List.nil_sublist _)))) ?_
  refine JL.assign .none rfl ?_
  refine JA.cont ?_
  refine JA.many [3, 5] (by kernel_rfl) (by simp) (all_cons ⟨_, #[true, true, true, true, true, false, true, false, false], rfl, (by kernel_rfl), ?_⟩ (all_one ⟨_, #[true, true, true, false, true, true, true, false, false], rfl, (by kernel_rfl), ?_⟩))
  ·skip
   refine JL.makeG (R := RBool) (z0 := false) (.inr ap_126) ze_4 rfl (fun _ => rfl) rfl rfl hu9 .none rfl ?_
   intro v4688 xs4689 hch4690
   refine JA.after hE (HSub.refl _) (.cons_cons _ (.cons_cons _ (.cons_cons _ (List.nil_sublist _)))) ?_
   refine JA.take 7 (listed' := #[true, true, true, true, true, false, true, true, false]) hQ rfl (by kernel_rfl) (by kernel_rfl) (by kernel_rfl) (by kernel_rfl) (by kernel_rfl) hE (HSub.refl _) (.cons_cons _ (.cons_cons _ (.cons_cons _ (List.nil_sublist _)))) ?_
   refine JL.assign .none rfl ?_
   refine JA.cont ?_
   exact nd66_1 _ _ _ _ ⟨v4688, xs4689, v4684, xs4685, rfl, rfl, rfl, rfl, rfl, rfl, rfl, rfl, rfl, hch4690, hch4686, (HSub.refl _)⟩
  ·skip
   refine JL.makeG (R := RInt) (z0 := 0) (.inl ap_28) ze_3 rfl (fun _ => rfl) rfl rfl hu14 .none rfl ?_
   intro v4692 xs4693 hch4694
   refine JA.after hE (HSub.refl _) (.cons_cons _ (.cons_cons _ (.cons_cons _ (List.nil_sublist _)))) ?_
   exact nd66_2 _ _ _ _ ⟨v4692, xs4693, v4684, xs4685, rfl, rfl, rfl, rfl, rfl, rfl, rfl, rfl, rfl, hch4694, hch4686, (HSub.refl _)⟩
 ·skip
  refine JL.makeG (R := RBool) (z0 := false) (.inr ap_126) ze_4 rfl (fun _ => rfl) rfl rfl hu9 .none rfl ?_
  intro v4696 xs4697 hch4698
  refine JA.after hE (HSub.refl _) (.cons_cons _ (.cons_cons _ (.cons_cons _ (List.nil_sublist _)))) ?_
  refine JA.many [1, 5] (by kernel_rfl) (by simp) (all_cons ⟨_, #[true, true, true, true, true, false, false, false, false], rfl, (by kernel_rfl), ?_⟩ (all_one ⟨_, #[true, false, true, true, true, true, false, false, false], rfl, (by kernel_rfl), ?_⟩))
  ·skip
   refine JL.makeG (R := RInt) (z0 := 0) (.inl ap_28) ze_3 rfl (fun _ => rfl) rfl rfl hu4 .none rfl ?_
   intro v4700 xs4701 hch4702
   refine JA.after hE (HSub.refl _) (.cons_cons _ (.cons_cons _ (.cons_cons _ (List.nil_sublist _)))) ?_
   refine JA.take 6 (listed' := #[true, true, true, true, true, false, true, false, false]) hQ rfl (by kernel_rfl) (by kernel_rfl) (by kernel_rfl) (by kernel_rfl) (by kernel_rfl) hE (HSub.refl _) (.cons_cons _ (.cons_cons _ (.cons_cons _ (List.nil_sublist _)))) ?_
   refine JL.assign .none rfl ?_
   refine JA.cont ?_
   refine JA.take 7 (listed' := #[true, true, true, true, true, false, true, true, false]) hQ rfl (by kernel_rfl) (by kernel_rfl) (by kernel_rfl) (by kernel_rfl) (by kernel_rfl) hE (HSub.refl _) (.cons_cons _ (.cons_cons _ (.cons_cons _ (List.nil_sublist _)))) ?_
   refine JL.assign .none rfl ?_
   refine JA.cont ?_
   refine JA.permG (swapAt_perm 0 _) ?_
   exact nd66_1 _ _ _ _ ⟨v4696, xs4697, v4700, xs4701, rfl, rfl, rfl, rfl, rfl, rfl, rfl, rfl, rfl, hch4698, hch4702, (HSub.refl _)⟩
  ·skip
   refine JL.makeG (R := RInt) (z0 := 0) (.inl ap_28) ze_3 rfl (fun _ => rfl) rfl rfl hu14 .none rfl ?_
   intro v4704 xs4705 hch4706
   refine JA.after hE (HSub.refl _) (.cons_cons _ (.cons_cons _ (.cons_cons _ (List.nil_sublist _)))) ?_
   exact nd66_3 _ _ _ _ ⟨v4704, xs4705, v4696, xs4697, rfl, rfl, rfl, rfl, rfl, rfl, rfl, rfl, rfl, hch4706, hch4698, (HSub.refl _)⟩
 ·skip
  refine JL.makeG (R := RInt) (z0 := 0) (.inl ap_28) ze_3 rfl (fun _ => rfl) rfl rfl hu14 .none rfl ?_
  intro v4708 xs4709 hch4710
  refine JA.after hE (HSub.refl _) (.cons_cons _ (.cons_cons _ (.cons_cons _ (List.nil_sublist _)))) ?_
  refine JA.many [1, 3] (by kernel_rfl) (by simp) (all_cons ⟨_, #[true, true, true, false, true, true, false, false, false], rfl, (by kernel_rfl), ?_⟩ (all_one ⟨_, #[true, false, true, true, true, true, false, false, false], rfl, (by kernel_rfl), ?_⟩))
  ·skip
   refine JL.makeG (R := RInt) (z0 := 0) (.inl ap_28) ze_3 rfl (fun _ => rfl) rfl rfl hu4 .none rfl ?_
   intro v4712 xs4713 hch4714
   refine JA.after hE (HSub.refl _) (.cons_cons _ (.cons_cons _ (.cons_cons _ (List.nil_sublist _)))) ?_
   refine JA.take 6 (listed' := #[true, true, true, false, true, true, true, false, false]) hQ rfl (by kernel_rfl) (by kernel_rfl) (by kernel_rfl) (by kernel_rfl) (by kernel_rfl) hE (HSub.refl _) (.cons_cons _ (.cons_cons _ (.cons_cons _ (List.nil_sublist _)))) ?_
   refine JL.assign .none rfl ?_
   refine JA.cont ?_
   refine JA.permG (swapAt_perm 0 _) ?_
   exact nd66_2 _ _ _ _ ⟨v4708, xs4709, v4712, xs4713, rfl, rfl, rfl, rfl, rfl, rfl, rfl, rfl, rfl, hch4710, hch4714, (HSub.refl _)⟩
  ·skip
   refine JL.makeG (R := RBool) (z0 := false) (.inr ap_126) ze_4 rfl (fun _ => rfl) rfl rfl hu9 .none rfl ?_
   intro v4716 xs4717 hch4718
   refine JA.after hE (HSub.refl _) (.cons_cons _ (.cons_cons _ (.cons_cons _ (List.nil_sublist _)))) ?_
   refine JA.permG (swapAt_perm 0 _) ?_
   exact nd66_3 _ _ _ _ ⟨v4708, xs4709, v4716, xs4717, rfl, rfl, rfl, rfl, rfl, rfl, rfl, rfl, rfl, hch4710, hch4718, (HSub.refl _)⟩
-- 57 ferrule/ferruleref05.went
def F_ref05_went_s1 (n : Nat) (rounds : List Int) (last : Int) : Int × List Int → Option ((Int × List Int) ⊕ (List Int))
 | (i_163, out_164) => if decide (i_163 < (rounds.length : Int)) = true then ((geti rounds i_163).bind fun y169 => (F_ref05_within n y169 1 last).bind fun y174 => (if y174 = true then ((lim (out_164 ++ [i_163])).bind fun l186 => some l186) else (some out_164)).bind fun out_181 => some (Sum.inl ((w64 (i_163 + 1)), out_181))) else (some (Sum.inr out_164))
def F_ref05_went (n : Nat) (rounds : List Int) (last : Int) : Option (List Int) :=
 (loopO n (F_ref05_went_s1 n rounds last) (0, ([] : List Int))).bind fun out_110 => some out_110
set_option maxRecDepth 100000 in
set_option maxHeartbeats 40000000 in
theorem c_ref05_went (n : Nat) (H : Hp) (rounds : List Int) (rounds_v0 : Value) (hrounds_0 : SL H 1 RInt rounds_v0 rounds) (last : Int) (y : (List Int)) (hF : F_ref05_went n rounds last = some y) : HC Tryz.prog 57 [rounds_v0, .int .i64 last] H (fun H' ra_v0 => SL H' 1 RInt ra_v0 y) := by
 rw [F_ref05_went] at hF
 refine HC.of (N := 24) Tryz.func57 rfl rfl rfl fun w => ?_
 refine JC.seq ?_
 refine JC.region (by rfl) ?_
 intro hQ
 refine JL.assign .none rfl ?_
 refine JL.done hQ ?_
 refine JQ.go ?_
 refine JC.seq ?_
 refine JC.region (by rfl) ?_
 intro hQ
 refine JL.assign .none rfl ?_
 refine JL.done hQ ?_
 refine JQ.go ?_
 refine JC.seq ?_
 refine JC.seq ?_
 refine JC.region (by rfl) ?_
 intro hQ
 refine JL.assign .none rfl ?_
 refine JL.done hQ ?_
 refine JQ.go ?_
 refine JC.newNil (e := 3) (sz := 1) ?_
 obtain ⟨r112, hlr112, hKr112⟩ := bind_some hF
 refine JC.join (fun (out_110 : List Int) H111 f bs gs => ∃ (vout_110 : Value) (xsout_110 : List Value), f 5 = vout_110 ∧ bs = [] ∧ gs = [⟨vout_110, 3, 1, out_110.length, xsout_110⟩] ∧ CH H111 1 RInt xsout_110 out_110 ∧ HSub H H111 ∧ out_110 = r112) ?_ ?_
 ·skip
  refine JC.block ?_
  refine JC.loop hlr112 (fun (x : Int × List Int) H165 f bs gs => match x with | (i_163, out_164) => ∃ (vout_164 : Value) (xsout_164 : List Value), f 0 = rounds_v0 ∧ f 1 = .int .i64 last ∧ f 5 = vout_164 ∧ f 6 = .int .i64 i_163 ∧ bs = [] ∧ gs = [⟨vout_164, 3, 1, out_164.length, xsout_164⟩] ∧ CH H165 1 RInt xsout_164 out_164 ∧ HSub H H165) ⟨(.slice none 0 0), [], rfl, rfl, rfl, rfl, rfl, rfl, CH.nil, (HSub.refl _)⟩ ?_
  rintro ⟨i_163, out_164⟩ x167 H165 f bs gs ⟨vout_164, xsout_164, hf0, hf1, hf5, hf6, rfl, rfl, hout_164, hs165⟩ hF hr166
  rw [F_ref05_went_s1] at hF
  refine (JC.norm (i := 0) hf0 (JC.norm (i := 1) hf1 (JC.norm (i := 5) hf5 (JC.norm (i := 6) hf6 ?_))))
  refine JC.seq ?_
  refine JC.seq ?_
  refine JC.region (by rfl) ?_
  intro hQ
  refine JL.move .none rfl ?_
  refine JL.move .none rfl ?_
  refine JL.lenSL (R := RInt) ul_28 (SL.mono RInt.mono hs165 hrounds_0) .none rfl ?_
  refine JL.bin rfl rfl rfl .none rfl ?_
  refine JL.done hQ ?_
  refine JQ.go ?_
  rcases ite_some hF with ⟨hc168, hF⟩ | ⟨hc168, hF⟩
  ·refine JC.cond_t (b := decide (i_163 < (rounds.length : Int))) rfl hc168 ?_
   refine JC.skip ?_
   refine JQ.go ?_
   refine JC.seq ?_
   refine JC.block ?_
   refine JC.seq ?_
   refine JC.region (by rfl) ?_
   intro hQ
   refine JL.move .none rfl ?_
   refine JL.move .none rfl ?_
   obtain ⟨y169, hy169, hF⟩ := bind_some hF
   refine JL.indexSL (R := RInt) sl_28 (SL.mono RInt.mono hs165 hrounds_0) rfl hy169 .none rfl ?_
   rintro b170 o171 cs172 hc173 - rfl
   refine JL.loadH 0 az_3 rfl hc173 rfl .none rfl ?_
   refine JL.move .none rfl ?_
   obtain ⟨y174, hy174, hF⟩ := bind_some hF
   refine JL.callS (c_ref05_within n H165 y169 1 last y174 hy174) rfl en_52 .none rfl ?_
   refine JL.done hQ ?_
   refine JQ.go ?_
   refine JC.fresh (fun f => f 0 = rounds_v0 ∧ f 1 = .int .i64 last ∧ f 5 = vout_164 ∧ f 6 = .int .i64 i_163 ∧ f 18 = .bool y174) ⟨rfl, rfl, rfl, rfl, rfl⟩ ?_
   rintro f ⟨hf0, hf1, hf5, hf6, hf18⟩
   refine (JC.norm (i := 0) hf0 (JC.norm (i := 1) hf1 (JC.norm (i := 5) hf5 (JC.norm (i := 6) hf6 (JC.norm (i := 18) hf18 ?_)))))
   obtain ⟨r183, hlr183, hKr183⟩ := bind_some hF
   refine JC.join (fun (out_181 : List Int) H182 f bs gs => ∃ (vout_181 : Value) (xsout_181 : List Value), f 0 = rounds_v0 ∧ f 1 = .int .i64 last ∧ f 5 = vout_181 ∧ f 6 = .int .i64 i_163 ∧ bs = [] ∧ gs = [⟨vout_181, 3, 1, out_181.length, xsout_181⟩] ∧ CH H182 1 RInt xsout_181 out_181 ∧ HSub H165 H182 ∧ out_181 = r183) ?_ ?_
   ·have hF := hlr183
    rcases ite_some hF with ⟨hc184, hF⟩ | ⟨hc184, hF⟩
    ·refine JC.cond_t (b := y174) rfl hc184 ?_
     refine JC.region (by rfl) ?_
     intro hQ
     refine JL.move .none rfl ?_
     refine JL.move .none rfl ?_
     refine JL.buildSlice (e := 3) (l := [.int .i64 i_163]) (by kernel_rfl) .none rfl ?_
     intro b185
     obtain ⟨l186, hl186, hF⟩ := bind_some hF
     refine JL.appO (R := RInt) 0 0 (l := out_164) (m := [i_163]) ap_28 rfl ⟨rfl, rfl⟩ rfl hout_164 rfl rfl rfl (CH.cons (cs := [.int .i64 i_163]) rfl rfl CH.nil) rfl (one_cons rfl one_nil) hl186 .none rfl ?_
     intro v187 xs188 hch189
     refine JL.assign .none rfl ?_
     refine JL.done hQ ?_
     obtain rfl := Option.some.inj hF
     refine JQ.mask [false] [true] ?_
     exact JQ.join l186 ⟨v187, xs188, rfl, rfl, rfl, rfl, rfl, rfl, hch189, (HSub.refl _), rfl⟩
    ·refine JC.cond_f (b := y174) rfl hc184 ?_
     refine JC.skip ?_
     obtain rfl := Option.some.inj hF
     exact JQ.join out_164 ⟨vout_164, xsout_164, rfl, rfl, rfl, rfl, rfl, rfl, hout_164, (HSub.refl _), rfl⟩
   ·rintro out_181 H182 f bs gs ⟨vout_181, xsout_181, hf0, hf1, hf5, hf6, rfl, rfl, hout_181, hs182, rfl⟩
    have hF := hKr183
    try dsimp only at hF
    refine (JQ.norm (i := 0) hf0 (JQ.norm (i := 1) hf1 (JQ.norm (i := 5) hf5 (JQ.norm (i := 6) hf6 ?_))))
    refine JQ.normal_block ?_
    refine JQ.go ?_
    refine JC.region (by rfl) ?_
    intro hQ
    refine JL.move .none rfl ?_
    refine JL.bin rfl rfl rfl .none rfl ?_
    refine JL.assign .none rfl ?_
    refine JL.done hQ ?_
    obtain rfl := Option.some.inj hF
    exact JQ.next rfl ⟨vout_181, xsout_181, rfl, rfl, rfl, rfl, rfl, rfl, hout_181, (HSub.trans hs165 hs182)⟩
  ·refine JC.cond_f (b := decide (i_163 < (rounds.length : Int))) rfl hc168 ?_
   refine JC.exit ?_
   refine JQ.exit_then ?_
   refine JQ.exit_then ?_
   refine JQ.exit_block ?_
   obtain rfl := Option.some.inj hF
   have ehr166 := hr166 _ rfl
   subst ehr166
   exact JQ.join out_164 ⟨vout_164, xsout_164, rfl, rfl, rfl, hout_164, hs165, rfl⟩
 ·rintro out_110 H111 f bs gs ⟨vout_110, xsout_110, hf5, rfl, rfl, hout_110, hs111, rfl⟩
  have hF := hKr112
  try dsimp only at hF
  refine (JQ.norm (i := 5) hf5 ?_)
  refine JQ.go ?_
  refine JC.seq ?_
  refine JC.region (by rfl) ?_
  intro hQ
  refine JL.move .none rfl ?_
  refine JL.assign .none rfl ?_
  refine JL.done hQ ?_
  refine JQ.go ?_
  refine JC.ret ?_
  refine JQ.freezeG 0 (R := RInt) rfl RInt.mono hout_110 rfl ?_
  intro H190 hs190 hg191
  obtain rfl := Option.some.inj hF
  exact JQ.outH rfl (.tmp .nil) hg191
end Go.Proofs.YtcipdblhopffbaaGreat
end
section
namespace Go.Proofs.YtcipdblhopffbaaGreat
open Go Go.RowKit Go.Dec
set_option linter.unusedVariables false
-- 20 ferrule/ferruleref05.StandsIn
def F_ref05_StandsIn_s1 (n : Nat) (d : Canopy) (class_ : List Gust) (t : ref05_Truth) : Int → Option (Int ⊕ (Bool ⊕ Unit))
 | i_202 => if decide (i_202 < (class_.length : Int)) = true then ((geti class_ i_202).bind fun y213 => (F_ref05_Rounds n d y213 t).bind fun y218 => (F_ref05_went n y218 (d.Ribs.length : Int)).bind fun y220 => if decide (0 < (y220.length : Int)) = true then (some (Sum.inr (Sum.inl false))) else (some (Sum.inl (w64 (i_202 + 1))))) else (some (Sum.inr (Sum.inr ())))
def F_ref05_StandsIn (n : Nat) (d : Canopy) (class_ : List Gust) (t : ref05_Truth) : Option Bool :=
 (loopO n (F_ref05_StandsIn_s1 n d class_ t) 0).bind fun r123 => match r123 with | .inl o => some o | .inr _ => some true
set_option maxRecDepth 100000 in
set_option maxHeartbeats 40000000 in
theorem c_ref05_StandsIn (n : Nat) (H : Hp) (d : Canopy) (d_v0 : Value) (hd_0 : SL H 7 R_Section d_v0 d.Frame.Sections) (d_v7 : Value) (hd_7 : SL H 2 R_Span d_v7 d.Ribs) (d_v8 : Value) (hd_8 : SL H 1 RInt d_v8 d.Shares) (class_ : List Gust) (class__v0 : Value) (hclass__0 : SL H 2 R_Gust class__v0 class_) (t : ref05_Truth) (t_v1 : Value) (ht_1 : SL H 1 RInt t_v1 t.Strengths) (y : Bool) (hF : F_ref05_StandsIn n d class_ t = some y) : SC Tryz.prog 20 [.agg [d_v0, .int .i64 d.Frame.Low, .int .i64 d.Frame.High, .int .i64 d.Frame.Ease.Num, .int .i64 d.Frame.Ease.Den, .int .i64 d.Frame.Rod, .int .i64 d.Frame.Case, d_v7, d_v8].toArray, class__v0, .agg [.int .i64 t.Lift, t_v1].toArray] (.bool y) H := by
 rw [F_ref05_StandsIn] at hF
 refine SC.of (N := 27) Tryz.func20 rfl rfl rfl fun w => ?_
 refine JC.seq ?_
 refine JC.region (by rfl) ?_
 intro hQ
 refine JL.box (cs := [d_v0, .int .i64 d.Frame.Low, .int .i64 d.Frame.High, .int .i64 d.Frame.Ease.Num, .int .i64 d.Frame.Ease.Den, .int .i64 d.Frame.Rod, .int .i64 d.Frame.Case, d_v7, d_v8]) rfl .none rfl ?_
 intro b1
 refine JL.box (cs := [.int .i64 t.Lift, t_v1]) rfl .none rfl ?_
 intro b2
 refine JL.assign .none rfl ?_
 refine JL.done hQ ?_
 refine JQ.go ?_
 refine JC.seq ?_
 refine JC.seq ?_
 refine JC.region (by rfl) ?_
 intro hQ
 refine JL.assign .none rfl ?_
 refine JL.done hQ ?_
 refine JQ.go ?_
 obtain ⟨r123, hlr123, hKr123⟩ := bind_some hF
 refine JC.join (fun (_ : Unit) H122 f bs gs => bs = [] ∧ gs = [] ∧ HSub H H122 ∧ Sum.inr () = r123) ?_ ?_
 ·skip
  refine JC.block ?_
  refine JC.loop hlr123 (fun (i_202 : Int) H203 f bs gs => f 1 = class__v0 ∧ f 3 = .pointer (some ⟨b1, 0, none⟩) ∧ f 5 = .pointer (some ⟨b2, 0, none⟩) ∧ f 7 = .int .i64 i_202 ∧ bs = [(b2, .cells [.int .i64 t.Lift, t_v1].toArray 59), (b1, .cells [d_v0, .int .i64 d.Frame.Low, .int .i64 d.Frame.High, .int .i64 d.Frame.Ease.Num, .int .i64 d.Frame.Ease.Den, .int .i64 d.Frame.Rod, .int .i64 d.Frame.Case, d_v7, d_v8].toArray 30)] ∧ gs = [] ∧ HSub H H203) ⟨rfl, rfl, rfl, rfl, rfl, rfl, (HSub.refl _)⟩ ?_
  rintro i_202 x205 H203 f bs gs ⟨hf1, hf3, hf5, hf7, rfl, rfl, hs203⟩ hF hr204
  rw [F_ref05_StandsIn_s1] at hF
  refine (JC.norm (i := 1) hf1 (JC.norm (i := 3) hf3 (JC.norm (i := 5) hf5 (JC.norm (i := 7) hf7 ?_))))
  refine JC.seq ?_
  refine JC.seq ?_
  refine JC.region (by rfl) ?_
  intro hQ
  refine JL.move .none rfl ?_
  refine JL.move .none rfl ?_
  refine JL.lenSL (R := R_Gust) ul_65 (SL.mono R_Gust_mono hs203 hclass__0) .none rfl ?_
  refine JL.bin rfl rfl rfl .none rfl ?_
  refine JL.done hQ ?_
  refine JQ.go ?_
  rcases ite_some hF with ⟨hc206, hF⟩ | ⟨hc206, hF⟩
  ·refine JC.cond_t (b := decide (i_202 < (class_.length : Int))) rfl hc206 ?_
   refine JC.skip ?_
   refine JQ.go ?_
   refine JC.seq ?_
   refine JC.block ?_
   refine JC.seq ?_
   obtain ⟨y213, hy213, hF⟩ := bind_some hF
   obtain ⟨y218, hy218, hF⟩ := bind_some hF
   obtain ⟨y220, hy220, hF⟩ := bind_some hF
   refine JC.mixed 13 13 #[false, false, false, false, false, false, false, false, false, false, false, false, false] [(b2, .cells [.int .i64 t.Lift, t_v1].toArray 59), (b1, .cells [d_v0, .int .i64 d.Frame.Low, .int .i64 d.Frame.High, .int .i64 d.Frame.Ease.Num, .int .i64 d.Frame.Ease.Den, .int .i64 d.Frame.Rod, .int .i64 d.Frame.Case, d_v7, d_v8].toArray 30)] (by rfl) mo_ (by kernel_rfl) (by kernel_rfl) ?_
   intro hQ hE
   refine JA.take 0 (listed' := #[true, false, false, false, false, false, false, false, false, false, false, false, false]) hQ rfl (by kernel_rfl) (by kernel_rfl) (by kernel_rfl) (by kernel_rfl) (by kernel_rfl) hE (HSub.refl _) (.cons_cons _ (.cons_cons _ (List.nil_sublist _))) ?_
   refine JL.loadOwn 1 az_30 rfl rfl rfl .none rfl ?_
   refine JA.cont ?_
   refine JA.take 1 (listed' := #[true, true, false, false, false, false, false, false, false, false, false, false, false]) hQ rfl (by kernel_rfl) (by kernel_rfl) (by kernel_rfl) (by kernel_rfl) (by kernel_rfl) hE (HSub.refl _) (.cons_cons _ (.cons_cons _ (List.nil_sublist _))) ?_
   refine JL.move .none rfl ?_
   refine JA.cont ?_
   refine JA.take 2 (listed' := #[true, true, true, false, false, false, false, false, false, false, false, false, false]) hQ rfl (by kernel_rfl) (by kernel_rfl) (by kernel_rfl) (by kernel_rfl) (by kernel_rfl) hE (HSub.refl _) (.cons_cons _ (.cons_cons _ (List.nil_sublist _))) ?_
   refine JL.move .none rfl ?_
   refine JA.cont ?_
   refine JA.take 3 (listed' := #[true, true, true, true, false, false, false, false, false, false, false, false, false]) hQ rfl (by kernel_rfl) (by kernel_rfl) (by kernel_rfl) (by kernel_rfl) (by kernel_rfl) hE (HSub.refl _) (.cons_cons _ (.cons_cons _ (List.nil_sublist _))) ?_
   refine JL.indexSL (R := R_Gust) sl_65 (SL.mono R_Gust_mono hs203 hclass__0) rfl hy213 .none rfl ?_
   rintro b236 o237 cs238 hc239 - rfl
   refine JA.cont ?_
   refine JA.take 4 (listed' := #[true, true, true, true, true, false, false, false, false, false, false, false, false]) hQ rfl (by kernel_rfl) (by kernel_rfl) (by kernel_rfl) (by kernel_rfl) (by kernel_rfl) hE (HSub.refl _) (.cons_cons _ (.cons_cons _ (List.nil_sublist _))) ?_
   refine JL.loadH 0 az_64 rfl hc239 rfl .none rfl ?_
   refine JA.cont ?_
   refine JA.take 5 (listed' := #[true, true, true, true, true, true, false, false, false, false, false, false, false]) hQ rfl (by kernel_rfl) (by kernel_rfl) (by kernel_rfl) (by kernel_rfl) (by kernel_rfl) hE (HSub.refl _) (.cons_cons _ (.cons_cons _ (List.nil_sublist _))) ?_
   refine JL.loadOwn 0 az_59 rfl rfl rfl .none rfl ?_
   refine JA.cont ?_
   refine JA.take 7 (listed' := #[true, true, true, true, true, true, false, true, false, false, false, false, false]) hQ rfl (by kernel_rfl) (by kernel_rfl) (by kernel_rfl) (by kernel_rfl) (by kernel_rfl) hE (HSub.refl _) (.cons_cons _ (.cons_cons _ (List.nil_sublist _))) ?_
   refine JL.fieldAddr fo_30_1 rfl .none rfl ?_
   refine JA.cont ?_
   refine JA.take 8 (listed' := #[true, true, true, true, true, true, false, true, true, false, false, false, false]) hQ rfl (by kernel_rfl) (by kernel_rfl) (by kernel_rfl) (by kernel_rfl) (by kernel_rfl) hE (HSub.refl _) (.cons_cons _ (.cons_cons _ (List.nil_sublist _))) ?_
   refine JL.loadOwn 1 az_27 rfl rfl rfl .none rfl ?_
   refine JA.cont ?_
   refine JA.take 9 (listed' := #[true, true, true, true, true, true, false, true, true, true, false, false, false]) hQ rfl (by kernel_rfl) (by kernel_rfl) (by kernel_rfl) (by kernel_rfl) (by kernel_rfl) hE (HSub.refl _) (.cons_cons _ (.cons_cons _ (List.nil_sublist _))) ?_
   refine JL.lenSL (R := R_Span) ul_27 (SL.mono R_Span_mono hs203 hd_7) .none rfl ?_
   refine JA.cont ?_
   refine JA.many [6] (by kernel_rfl) (by simp) (all_one ⟨_, #[true, true, true, true, true, true, true, true, true, true, false, false, false], rfl, (by kernel_rfl), ?_⟩)
   refine JL.callH (c_ref05_Rounds n H203 d d_v0 (SL.mono R_Section_mono hs203 hd_0) d_v7 (SL.mono R_Span_mono hs203 hd_7) d_v8 (SL.mono RInt.mono hs203 hd_8) y213 t t_v1 (SL.mono RInt.mono hs203 ht_1) y218 hy218) rfl en_58 .none rfl ?_
   intro H240 y218a_v0 hs240 hy218a_0
   refine JA.after hE hs240 (.cons_cons _ (.cons_cons _ (List.nil_sublist _))) ?_
   refine JA.many [10] (by kernel_rfl) (by simp) (all_one ⟨_, #[true, true, true, true, true, true, true, true, true, true, true, false, false], rfl, (by kernel_rfl), ?_⟩)
   refine JL.callH (c_ref05_went n H240 y218 y218a_v0 hy218a_0 (d.Ribs.length : Int) y220 hy220) rfl en_57 .none rfl ?_
   intro H241 y220a_v0 hs241 hy220a_0
   refine JA.after hE (HSub.trans hs240 hs241) (.cons_cons _ (.cons_cons _ (List.nil_sublist _))) ?_
   refine JA.many [11] (by kernel_rfl) (by simp) (all_one ⟨_, #[true, true, true, true, true, true, true, true, true, true, true, true, false], rfl, (by kernel_rfl), ?_⟩)
   refine JL.lenSL (R := RInt) ul_28 hy220a_0 .none rfl ?_
   refine JA.after hE (HSub.trans hs240 hs241) (.cons_cons _ (.cons_cons _ (List.nil_sublist _))) ?_
   refine JA.take 12 (listed' := #[true, true, true, true, true, true, true, true, true, true, true, true, true]) hQ rfl (by kernel_rfl) (by kernel_rfl) (by kernel_rfl) (by kernel_rfl) (by kernel_rfl) hE (HSub.trans hs240 hs241) (.cons_cons _ (.cons_cons _ (List.nil_sublist _))) ?_
   refine JL.bin rfl rfl rfl .none rfl ?_
   refine JA.cont ?_
   refine JA.done hQ (by kernel_rfl) ?_
   refine JQ.go ?_
   refine JC.fresh (fun f => f 1 = class__v0 ∧ f 3 = .pointer (some ⟨b1, 0, none⟩) ∧ f 5 = .pointer (some ⟨b2, 0, none⟩) ∧ f 7 = .int .i64 i_202 ∧ f 26 = .bool (decide (0 < (y220.length : Int)))) ⟨rfl, rfl, rfl, rfl, rfl⟩ ?_
   rintro f ⟨hf1, hf3, hf5, hf7, hf26⟩
   refine (JC.norm (i := 1) hf1 (JC.norm (i := 3) hf3 (JC.norm (i := 5) hf5 (JC.norm (i := 7) hf7 (JC.norm (i := 26) hf26 ?_)))))
   rcases ite_some hF with ⟨hc242, hF⟩ | ⟨hc242, hF⟩
   ·refine JC.cond_t (b := decide (0 < (y220.length : Int))) rfl hc242 ?_
    refine JC.seq ?_
    refine JC.region (by rfl) ?_
    intro hQ
    refine JL.assign .none rfl ?_
    refine JL.done hQ ?_
    refine JQ.go ?_
    refine JC.ret ?_
    refine JQ.ret_block ?_
    refine JQ.ret_then ?_
    refine JQ.ret_then ?_
    refine JQ.ret_block ?_
    refine JQ.ret_join ?_
    refine JQ.ret_then ?_
    obtain rfl := Option.some.inj hF
    have ehr204 := hr204 _ rfl
    subst ehr204
    have hF := hKr123
    try dsimp only at hF
    obtain rfl := Option.some.inj hF
    exact JQ.outS rfl (.tmp .nil) rfl
   ·refine JC.cond_f (b := decide (0 < (y220.length : Int))) rfl hc242 ?_
    refine JC.skip ?_
    refine JQ.normal_block ?_
    refine JQ.go ?_
    refine JC.region (by rfl) ?_
    intro hQ
    refine JL.move .none rfl ?_
    refine JL.bin rfl rfl rfl .none rfl ?_
    refine JL.assign .none rfl ?_
    refine JL.done hQ ?_
    obtain rfl := Option.some.inj hF
    exact JQ.next rfl ⟨rfl, rfl, rfl, rfl, rfl, rfl, (HSub.trans hs203 (HSub.trans hs240 hs241))⟩
  ·refine JC.cond_f (b := decide (i_202 < (class_.length : Int))) rfl hc206 ?_
   refine JC.exit ?_
   refine JQ.exit_then ?_
   refine JQ.exit_then ?_
   refine JQ.exit_block ?_
   obtain rfl := Option.some.inj hF
   have ehr204 := hr204 _ rfl
   subst ehr204
   refine JQ.mask [false, false] [] ?_
   exact JQ.join () ⟨rfl, rfl, hs203, rfl⟩
 ·rintro _ H122 f bs gs ⟨rfl, rfl, hs122, rfl⟩
  have hF := hKr123
  try dsimp only at hF
  refine JQ.go ?_
  refine JC.seq ?_
  refine JC.region (by rfl) ?_
  intro hQ
  refine JL.assign .none rfl ?_
  refine JL.done hQ ?_
  refine JQ.go ?_
  refine JC.ret ?_
  obtain rfl := Option.some.inj hF
  exact JQ.outS rfl (.tmp .nil) rfl
-- 22 ferrule/ferrulelaw13.agrees
def F_law13_agrees (n : Nat) (known : Int) (is : Bool) : Option Bool :=
 if (known == 1) = true then (some is) else (if (known == 2) = true then (some (!is)) else (some (known == 3)))
set_option maxRecDepth 100000 in
set_option maxHeartbeats 40000000 in
theorem c_law13_agrees (n : Nat) (H : Hp) (known : Int) (is : Bool) (y : Bool) (hF : F_law13_agrees n known is = some y) : SC Tryz.prog 22 [.int .i64 known, .bool is] (.bool y) H := by
 rw [F_law13_agrees] at hF
 refine SC.of (N := 15) Tryz.func22 rfl rfl rfl fun w => ?_
 refine JC.seq ?_
 refine JC.region (by rfl) ?_
 intro hQ
 refine JL.assign .none rfl ?_
 refine JL.done hQ ?_
 refine JQ.go ?_
 refine JC.seq ?_
 refine JC.seq ?_
 refine JC.region (by rfl) ?_
 intro hQ
 refine JL.move .none rfl ?_
 refine JL.done hQ ?_
 refine JQ.go ?_
 refine JC.block ?_
 refine JC.seq ?_
 refine JC.region (by rfl) ?_
 intro hQ
 refine JL.bin rfl rfl rfl .none rfl ?_
 refine JL.assign .none rfl ?_
 refine JL.done hQ ?_
 refine JQ.go ?_
 rcases ite_some hF with ⟨hc1, hF⟩ | ⟨hc1, hF⟩
 ·refine JC.cond_t (b := (known == 1)) rfl hc1 ?_
  refine JC.seq ?_
  refine JC.region (by rfl) ?_
  intro hQ
  refine JL.move .none rfl ?_
  refine JL.assign .none rfl ?_
  refine JL.done hQ ?_
  refine JQ.go ?_
  refine JC.ret ?_
  refine JQ.ret_block ?_
  refine JQ.ret_then ?_
  obtain rfl := Option.some.inj hF
  exact JQ.outS rfl (.tmp .nil) rfl
 ·refine JC.cond_f (b := (known == 1)) rfl hc1 ?_
  refine JC.seq ?_
  refine JC.region (by rfl) ?_
  intro hQ
  refine JL.bin rfl rfl rfl .none rfl ?_
  refine JL.assign .none rfl ?_
  refine JL.done hQ ?_
  refine JQ.go ?_
  rcases ite_some hF with ⟨hc2, hF⟩ | ⟨hc2, hF⟩
  ·refine JC.cond_t (b := (known == 2)) rfl hc2 ?_
   refine JC.seq ?_
   refine JC.region (by rfl) ?_
   intro hQ
   refine JL.move .none rfl ?_
   refine JL.not rfl .none rfl ?_
   refine JL.assign .none rfl ?_
   refine JL.done hQ ?_
   refine JQ.go ?_
   refine JC.ret ?_
   refine JQ.ret_block ?_
   refine JQ.ret_then ?_
   obtain rfl := Option.some.inj hF
   exact JQ.outS rfl (.tmp .nil) rfl
  ·refine JC.cond_f (b := (known == 2)) rfl hc2 ?_
   refine JC.skip ?_
   refine JQ.normal_block ?_
   refine JQ.go ?_
   refine JC.seq ?_
   refine JC.region (by rfl) ?_
   intro hQ
   refine JL.move .none rfl ?_
   refine JL.bin rfl rfl rfl .none rfl ?_
   refine JL.assign .none rfl ?_
   refine JL.done hQ ?_
   refine JQ.go ?_
   refine JC.ret ?_
   obtain rfl := Option.some.inj hF
   exact JQ.outS rfl (.tmp .nil) rfl
-- 24 ferrule/ferrulelaw13.has
def F_law13_has_s1 (n : Nat) (l : List Int) (n_ : Int) : Int → Option (Int ⊕ (Bool ⊕ Unit))
 | i_50 => if decide (i_50 < (l.length : Int)) = true then ((geti l i_50).bind fun y55 => if (y55 == n_) = true then (some (Sum.inr (Sum.inl true))) else (some (Sum.inl (w64 (i_50 + 1))))) else (some (Sum.inr (Sum.inr ())))
def F_law13_has (n : Nat) (l : List Int) (n_ : Int) : Option Bool :=
 (loopO n (F_law13_has_s1 n l n_) 0).bind fun r31 => match r31 with | .inl o => some o | .inr _ => some false
set_option maxRecDepth 100000 in
set_option maxHeartbeats 40000000 in
theorem c_law13_has (n : Nat) (H : Hp) (l : List Int) (l_v0 : Value) (hl_0 : SL H 1 RInt l_v0 l) (n_ : Int) (y : Bool) (hF : F_law13_has n l n_ = some y) : SC Tryz.prog 24 [l_v0, .int .i64 n_] (.bool y) H := by
 rw [F_law13_has] at hF
 refine SC.of (N := 18) Tryz.func24 rfl rfl rfl fun w => ?_
 refine JC.seq ?_
 refine JC.region (by rfl) ?_
 intro hQ
 refine JL.assign .none rfl ?_
 refine JL.done hQ ?_
 refine JQ.go ?_
 refine JC.seq ?_
 refine JC.seq ?_
 refine JC.region (by rfl) ?_
 intro hQ
 refine JL.assign .none rfl ?_
 refine JL.done hQ ?_
 refine JQ.go ?_
 obtain ⟨r31, hlr31, hKr31⟩ := bind_some hF
 refine JC.join (fun (_ : Unit) H30 f bs gs => bs = [] ∧ gs = [] ∧ HSub H H30 ∧ Sum.inr () = r31) ?_ ?_
 ·skip
  refine JC.block ?_
  refine JC.loop hlr31 (fun (i_50 : Int) H51 f bs gs => f 0 = l_v0 ∧ f 1 = .int .i64 n_ ∧ f 5 = .int .i64 i_50 ∧ bs = [] ∧ gs = [] ∧ HSub H H51) ⟨rfl, rfl, rfl, rfl, rfl, (HSub.refl _)⟩ ?_
  rintro i_50 x53 H51 f bs gs ⟨hf0, hf1, hf5, rfl, rfl, hs51⟩ hF hr52
  rw [F_law13_has_s1] at hF
  refine (JC.norm (i := 0) hf0 (JC.norm (i := 1) hf1 (JC.norm (i := 5) hf5 ?_)))
  refine JC.seq ?_
  refine JC.seq ?_
  refine JC.region (by rfl) ?_
  intro hQ
  refine JL.move .none rfl ?_
  refine JL.move .none rfl ?_
  refine JL.lenSL (R := RInt) ul_28 (SL.mono RInt.mono hs51 hl_0) .none rfl ?_
  refine JL.bin rfl rfl rfl .none rfl ?_
  refine JL.done hQ ?_
  refine JQ.go ?_
  rcases ite_some hF with ⟨hc54, hF⟩ | ⟨hc54, hF⟩
  ·refine JC.cond_t (b := decide (i_50 < (l.length : Int))) rfl hc54 ?_
   refine JC.skip ?_
   refine JQ.go ?_
   refine JC.seq ?_
   refine JC.block ?_
   refine JC.seq ?_
   refine JC.region (by rfl) ?_
   intro hQ
   refine JL.move .none rfl ?_
   refine JL.move .none rfl ?_
   obtain ⟨y55, hy55, hF⟩ := bind_some hF
   refine JL.indexSL (R := RInt) sl_28 (SL.mono RInt.mono hs51 hl_0) rfl hy55 .none rfl ?_
   rintro b56 o57 cs58 hc59 - rfl
   refine JL.loadH 0 az_3 rfl hc59 rfl .none rfl ?_
   refine JL.move .none rfl ?_
   refine JL.bin rfl rfl rfl .none rfl ?_
   refine JL.done hQ ?_
   refine JQ.go ?_
   rcases ite_some hF with ⟨hc60, hF⟩ | ⟨hc60, hF⟩
   ·refine JC.cond_t (b := (y55 == n_)) rfl hc60 ?_
    refine JC.seq ?_
    refine JC.region (by rfl) ?_
    intro hQ
    refine JL.assign .none rfl ?_
    refine JL.done hQ ?_
    refine JQ.go ?_
    refine JC.fresh (fun f => f 4 = .bool true) rfl ?_
    rintro f hf4
    refine (JC.norm (i := 4) hf4 ?_)
    refine JC.ret ?_
    refine JQ.ret_block ?_
    refine JQ.ret_then ?_
    refine JQ.ret_then ?_
    refine JQ.ret_block ?_
    refine JQ.ret_join ?_
    refine JQ.ret_then ?_
    obtain rfl := Option.some.inj hF
    have ehr52 := hr52 _ rfl
    subst ehr52
    have hF := hKr31
    try dsimp only at hF
    obtain rfl := Option.some.inj hF
    exact JQ.outS rfl (.tmp .nil) rfl
   ·refine JC.cond_f (b := (y55 == n_)) rfl hc60 ?_
    refine JC.skip ?_
    refine JQ.normal_block ?_
    refine JQ.go ?_
    refine JC.region (by rfl) ?_
    intro hQ
    refine JL.move .none rfl ?_
    refine JL.bin rfl rfl rfl .none rfl ?_
    refine JL.assign .none rfl ?_
    refine JL.done hQ ?_
    obtain rfl := Option.some.inj hF
    exact JQ.next rfl ⟨rfl, rfl, rfl, rfl, rfl, hs51⟩
  ·refine JC.cond_f (b := decide (i_50 < (l.length : Int))) rfl hc54 ?_
   refine JC.exit ?_
   refine JQ.exit_then ?_
   refine JQ.exit_then ?_
   refine JQ.exit_block ?_
   obtain rfl := Option.some.inj hF
   have ehr52 := hr52 _ rfl
   subst ehr52
   exact JQ.join () ⟨rfl, rfl, hs51, rfl⟩
 ·rintro _ H30 f bs gs ⟨rfl, rfl, hs30, rfl⟩
  have hF := hKr31
  try dsimp only at hF
  refine JQ.go ?_
  refine JC.seq ?_
  refine JC.region (by rfl) ?_
  intro hQ
  refine JL.assign .none rfl ?_
  refine JL.done hQ ?_
  refine JQ.go ?_
  refine JC.ret ?_
  obtain rfl := Option.some.inj hF
  exact JQ.outS rfl (.tmp .nil) rfl
-- 25 ferrule/counts.Right
noncomputable def F_counts_Right_s1 (n : Nat) (meter : Int) (w52 : counts_test) : Int → List Int × Int → Option Int
 | n_175, (kl183, v184) => (F_counts_test_right n w52 kl183 meter).bind fun y197 => (if y197 = true then (some (w64 (n_175 + 1))) else (some n_175)).bind fun n_199 => some n_199
noncomputable def F_counts_Right (n : Nat) (r : Run) (meter : Int) : Option (Int × Int) :=
 (F_counts_within n meter 0 (w64 ((r.Meters.length : Int) - 1))).bind fun y4 => (F_counts_open n r y4 (fun a0_ a1_ => F_counts_none n a0_ a1_)).bind fun y5 => if (y5.2.2 != 0) = true then (some (0, y5.2.2)) else ((neM y5.2.1).bind fun _ => y5.1.bind fun w52 => ((permO (F_counts_Right_s1 n meter w52) 0 y5.2.1).bind fun z203 => match z203 with | n_175 => some n_175).bind fun n_129 => if (n_129 == (y5.2.1.length : Int)) = true then (some (1, 0)) else (if (n_129 == 0) = true then (some (2, 0)) else (some (3, 0))))
set_option maxRecDepth 100000 in
set_option maxHeartbeats 40000000 in
theorem c_counts_Right (n : Nat) (H : Hp) (r : Run) (r_v0 : Value) (hr_0 : SL H 7 R_Section r_v0 r.Canopy.Frame.Sections) (r_v7 : Value) (hr_7 : SL H 2 R_Span r_v7 r.Canopy.Ribs) (r_v8 : Value) (hr_8 : SL H 1 RInt r_v8 r.Canopy.Shares) (r_v9 : Value) (hr_9 : SL H 3 R_Blow r_v9 r.Blows) (r_v10 : Value) (hr_10 : SL H 2 R_Meter r_v10 r.Meters) (meter : Int) (y : Int × Int) (hF : F_counts_Right n r meter = some y) : SC Tryz.prog 25 [.agg [r_v0, .int .i64 r.Canopy.Frame.Low, .int .i64 r.Canopy.Frame.High, .int .i64 r.Canopy.Frame.Ease.Num, .int .i64 r.Canopy.Frame.Ease.Den, .int .i64 r.Canopy.Frame.Rod, .int .i64 r.Canopy.Frame.Case, r_v7, r_v8, r_v9, r_v10, .int .i64 r.Wrong].toArray, .int .i64 meter] (.tuple [.int .i64 y.1, .int .i64 y.2].toArray) H := by
 rw [F_counts_Right] at hF
 refine SC.of (N := 45) Tryz.func25 rfl rfl rfl fun w => ?_
 refine JC.seq ?_
 refine JC.region (by rfl) ?_
 intro hQ
 refine JL.box (cs := [r_v0, .int .i64 r.Canopy.Frame.Low, .int .i64 r.Canopy.Frame.High, .int .i64 r.Canopy.Frame.Ease.Num, .int .i64 r.Canopy.Frame.Ease.Den, .int .i64 r.Canopy.Frame.Rod, .int .i64 r.Canopy.Frame.Case, r_v7, r_v8, r_v9, r_v10, .int .i64 r.Wrong]) rfl .none rfl ?_
 intro b1
 refine JL.assign .none rfl ?_
 refine JL.assign .none rfl ?_
 refine JL.done hQ ?_
 refine JQ.go ?_
 refine JC.seq ?_
 obtain ⟨y4, hy4, hF⟩ := bind_some hF
 obtain ⟨y5, hy5, hF⟩ := bind_some hF
 refine JC.mixed 15 15 #[false, false, false, false, false, false, false, false, false, false, false, false, false, false, false] [(b1, .cells [r_v0, .int .i64 r.Canopy.Frame.Low, .int .i64 r.Canopy.Frame.High, .int .i64 r.Canopy.Frame.Ease.Num, .int .i64 r.Canopy.Frame.Ease.Den, .int .i64 r.Canopy.Frame.Rod, .int .i64 r.Canopy.Frame.Case, r_v7, r_v8, r_v9, r_v10, .int .i64 r.Wrong].toArray 34)] (by rfl) mo_ (by kernel_rfl) (by kernel_rfl) ?_
 intro hQ hE
 refine JA.take 0 (listed' := #[true, false, false, false, false, false, false, false, false, false, false, false, false, false, false]) hQ rfl (by kernel_rfl) (by kernel_rfl) (by kernel_rfl) (by kernel_rfl) (by kernel_rfl) hE (HSub.refl _) (.cons_cons _ (List.nil_sublist _)) ?_
 refine JL.loadOwn 0 az_34 rfl rfl rfl .none rfl ?_
 refine JA.cont ?_
 refine JA.take 1 (listed' := #[true, true, false, false, false, false, false, false, false, false, false, false, false, false, false]) hQ rfl (by kernel_rfl) (by kernel_rfl) (by kernel_rfl) (by kernel_rfl) (by kernel_rfl) hE (HSub.refl _) (.cons_cons _ (List.nil_sublist _)) ?_
 refine JL.move .none rfl ?_
 refine JA.cont ?_
 refine JA.take 2 (listed' := #[true, true, true, false, false, false, false, false, false, false, false, false, false, false, false]) hQ rfl (by kernel_rfl) (by kernel_rfl) (by kernel_rfl) (by kernel_rfl) (by kernel_rfl) hE (HSub.refl _) (.cons_cons _ (List.nil_sublist _)) ?_
 refine JL.fieldAddr fo_34_2 rfl .none rfl ?_
 refine JA.cont ?_
 refine JA.take 3 (listed' := #[true, true, true, true, false, false, false, false, false, false, false, false, false, false, false]) hQ rfl (by kernel_rfl) (by kernel_rfl) (by kernel_rfl) (by kernel_rfl) (by kernel_rfl) hE (HSub.refl _) (.cons_cons _ (List.nil_sublist _)) ?_
 refine JL.loadOwn 0 az_32 rfl rfl rfl .none rfl ?_
 refine JA.cont ?_
 refine JA.take 4 (listed' := #[true, true, true, true, true, false, false, false, false, false, false, false, false, false, false]) hQ rfl (by kernel_rfl) (by kernel_rfl) (by kernel_rfl) (by kernel_rfl) (by kernel_rfl) hE (HSub.refl _) (.cons_cons _ (List.nil_sublist _)) ?_
 refine JL.lenSL (R := R_Meter) ul_32 hr_10 .none rfl ?_
 refine JA.cont ?_
 refine JA.take 5 (listed' := #[true, true, true, true, true, true, false, false, false, false, false, false, false, false, false]) hQ rfl (by kernel_rfl) (by kernel_rfl) (by kernel_rfl) (by kernel_rfl) (by kernel_rfl) hE (HSub.refl _) (.cons_cons _ (List.nil_sublist _)) ?_
 refine JL.bin rfl rfl rfl .none rfl ?_
 refine JA.cont ?_
 refine JA.many [6] (by kernel_rfl) (by simp) (all_one ⟨_, #[true, true, true, true, true, true, true, false, false, false, false, false, false, false, false], rfl, (by kernel_rfl), ?_⟩)
 refine JL.callS (c_counts_within n H meter 0 (w64 ((r.Meters.length : Int) - 1)) y4 hy4) rfl en_54 .none rfl ?_
 refine JA.after hE (HSub.refl _) (.cons_cons _ (List.nil_sublist _)) ?_
 refine JA.many [7] (by kernel_rfl) (by simp) (all_one ⟨_, #[true, true, true, true, true, true, true, true, false, false, false, false, false, false, false], rfl, (by kernel_rfl), ?_⟩)
 refine JL.callH (c_counts_open n H r r_v0 hr_0 r_v7 hr_7 r_v8 hr_8 r_v9 hr_9 r_v10 hr_10 y4 (fun a0_ a1_ => F_counts_none n a0_ a1_) 48 [] en_48 (fun H' hs' a0_ a1_ y' hy' => c_counts_none n H' a0_ a1_ y' hy') y5 hy5) rfl en_47 .none rfl ?_
 rintro H10 vv11 hs10 ⟨y5a_v0, y5b_v0, rfl, hy5a_0, hy5b_0⟩
 refine JA.after hE hs10 (.cons_cons _ (List.nil_sublist _)) ?_
 refine JA.take 8 (listed' := #[true, true, true, true, true, true, true, true, true, false, false, false, false, false, false]) hQ rfl (by kernel_rfl) (by kernel_rfl) (by kernel_rfl) (by kernel_rfl) (by kernel_rfl) hE hs10 (.cons_cons _ (List.nil_sublist _)) ?_
 refine JL.move .none rfl ?_
 refine JA.cont ?_
 refine JA.take 9 (listed' := #[true, true, true, true, true, true, true, true, true, true, false, false, false, false, false]) hQ rfl (by kernel_rfl) (by kernel_rfl) (by kernel_rfl) (by kernel_rfl) (by kernel_rfl) hE hs10 (.cons_cons _ (List.nil_sublist _)) ?_
 refine JL.extract rfl rfl .none rfl ?_
 refine JA.cont ?_
 refine JA.take 10 (listed' := #[true, true, true, true, true, true, true, true, true, true, true, false, false, false, false]) hQ rfl (by kernel_rfl) (by kernel_rfl) (by kernel_rfl) (by kernel_rfl) (by kernel_rfl) hE hs10 (.cons_cons _ (List.nil_sublist _)) ?_
 refine JL.extract rfl rfl .none rfl ?_
 refine JA.cont ?_
 refine JA.take 11 (listed' := #[true, true, true, true, true, true, true, true, true, true, true, true, false, false, false]) hQ rfl (by kernel_rfl) (by kernel_rfl) (by kernel_rfl) (by kernel_rfl) (by kernel_rfl) hE hs10 (.cons_cons _ (List.nil_sublist _)) ?_
 refine JL.extract rfl rfl .none rfl ?_
 refine JA.cont ?_
 refine JA.take 12 (listed' := #[true, true, true, true, true, true, true, true, true, true, true, true, true, false, false]) hQ rfl (by kernel_rfl) (by kernel_rfl) (by kernel_rfl) (by kernel_rfl) (by kernel_rfl) hE hs10 (.cons_cons _ (List.nil_sublist _)) ?_
 refine JL.assign .none rfl ?_
 refine JA.cont ?_
 refine JA.take 13 (listed' := #[true, true, true, true, true, true, true, true, true, true, true, true, true, true, false]) hQ rfl (by kernel_rfl) (by kernel_rfl) (by kernel_rfl) (by kernel_rfl) (by kernel_rfl) hE hs10 (.cons_cons _ (List.nil_sublist _)) ?_
 refine JL.assign .none rfl ?_
 refine JA.cont ?_
 refine JA.take 14 (listed' := #[true, true, true, true, true, true, true, true, true, true, true, true, true, true, true]) hQ rfl (by kernel_rfl) (by kernel_rfl) (by kernel_rfl) (by kernel_rfl) (by kernel_rfl) hE hs10 (.cons_cons _ (List.nil_sublist _)) ?_
 refine JL.assign .none rfl ?_
 refine JA.cont ?_
 refine JA.done hQ (by kernel_rfl) ?_
 refine JQ.go ?_
 refine JC.fresh (fun f => f 1 = .int .i64 meter ∧ f 4 = .int .i64 0 ∧ f 5 = .int .i64 0 ∧ f 6 = y5a_v0 ∧ f 7 = y5b_v0 ∧ f 8 = .int .i64 y5.2.2) ⟨rfl, rfl, rfl, rfl, rfl, rfl⟩ ?_
 rintro f ⟨hf1, hf4, hf5, hf6, hf7, hf8⟩
 refine (JC.norm (i := 1) hf1 (JC.norm (i := 4) hf4 (JC.norm (i := 5) hf5 (JC.norm (i := 6) hf6 (JC.norm (i := 7) hf7 (JC.norm (i := 8) hf8 ?_))))))
 refine JC.seq ?_
 refine JC.seq ?_
 refine JC.region (by rfl) ?_
 intro hQ
 refine JL.move .none rfl ?_
 refine JL.bin rfl rfl rfl .none rfl ?_
 refine JL.done hQ ?_
 refine JQ.go ?_
 rcases ite_some hF with ⟨hc12, hF⟩ | ⟨hc12, hF⟩
 ·refine JC.cond_t (b := (y5.2.2 != 0)) rfl hc12 ?_
  refine JC.seq ?_
  refine JC.region (by rfl) ?_
  intro hQ
  refine JL.move .none rfl ?_
  refine JL.assign .none rfl ?_
  refine JL.assign .none rfl ?_
  refine JL.done hQ ?_
  refine JQ.go ?_
  refine JC.ret ?_
  refine JQ.ret_then ?_
  obtain rfl := Option.some.inj hF
  exact JQ.outS rfl (.tmp (.tmp .nil)) rfl
 ·refine JC.cond_f (b := (y5.2.2 != 0)) rfl hc12 ?_
  refine JC.skip ?_
  refine JQ.go ?_
  refine JC.seq ?_
  refine JC.region (by rfl) ?_
  intro hQ
  refine JL.assign .none rfl ?_
  refine JL.done hQ ?_
  refine JQ.go ?_
  refine JC.seq ?_
  refine JC.seq ?_
  refine JC.region (by rfl) ?_
  intro hQ
  refine JL.move .none rfl ?_
  obtain ⟨u18, hu18, hF⟩ := bind_some hF
  obtain ⟨mb19, es20, ck21, hv22, hH23, hm24⟩ := MD.get hy5b_0 (neM_some hu18)
  refine JL.rangeM mp_92 hv22 (.data hH23) hm24 .none rfl ?_
  intro r13 sn14 seen15 cz16 hI17
  refine JL.done hQ ?_
  refine JQ.go ?_
  obtain ⟨w52, hw52, hF⟩ := bind_some hF
  obtain ⟨b53, o54, cs55, hv56, hc57, ⟨w52_v0, w52_v7, w52_v8, w52_v9, w52_v10, w52_v12, rfl, hw52_0, hw52_7, hw52_8, hw52_9, hw52_10, hw52_12⟩⟩ := (show PT H10 R_counts_test y5a_v0 (some w52) by rw [← hw52]; exact hy5a_0)
  subst hv56
  obtain ⟨r131, hlr131, hKr131⟩ := bind_some hF
  refine JC.join (fun (n_129 : Int) H130 f bs gs => f 7 = y5b_v0 ∧ f 9 = .int .i64 n_129 ∧ bs = [] ∧ gs = [] ∧ HSub H10 H130 ∧ n_129 = r131) ?_ ?_
  ·skip
   obtain ⟨rs177, hper178, hl179⟩ := bind_some hlr131
   refine JC.block ?_
   refine JC.mask [true, false] [] ?_
   refine JC.mapLoop (srt_nodup hI17.srt) hper178 (fun (dd : Mp) (n_175 : Int) H176 f bs gs => ∃ (sn_r13 : Nat) (se_r13 : Array Nat) (cz_r13 : Nat), f 1 = .int .i64 meter ∧ f 6 = .pointer (some ⟨b53, o54, none⟩) ∧ f 7 = y5b_v0 ∧ f 9 = .int .i64 n_175 ∧ f 27 = .pointer (some ⟨r13, 0, none⟩) ∧ bs = [(r13, .mapIter (some mb19) sn_r13 se_r13 cz_r13)] ∧ gs = [] ∧ IR 6 ekA y5.2.1 y5.2.1 es20 ck21 sn_r13 se_r13 cz_r13 dd ∧ HSub H10 H176) ⟨sn14, seen15, cz16, rfl, rfl, rfl, rfl, rfl, rfl, rfl, hI17, (HSub.refl _)⟩ ?_
   rintro dd n_175 H176 f bs gs ⟨sn_r13, se_r13, cz_r13, hf1, hf6, hf7, hf9, hf27, rfl, rfl, hI_r13, hs176⟩ hend180 hgo181
   refine (JC.norm (i := 1) hf1 (JC.norm (i := 6) hf6 (JC.norm (i := 7) hf7 (JC.norm (i := 9) hf9 (JC.norm (i := 27) hf27 ?_)))))
   refine JC.seq ?_
   refine JC.region (by rfl) ?_
   intro hQ
   refine JL.nextM 0 kt_104 rfl rfl (.data (hs176.le _ _ hH23)) hm24 hI_r13 .none rfl ?_ ?_
   ·intro hp182
    refine JL.extract rfl rfl .none rfl ?_
    refine JL.done hQ ?_
    refine JQ.go ?_
    refine JC.seq ?_
    refine JC.cond_f (b := false) rfl rfl ?_
    refine JC.exit ?_
    refine JQ.exit_then ?_
    refine JQ.exit_then ?_
    refine JQ.exit_block ?_
    have er194 := hend180 hp182
    subst er194
    obtain rfl := Option.some.inj hl179
    refine JQ.mask [false] [] ?_
    exact JQ.join n_175 ⟨rfl, rfl, rfl, rfl, hs176, rfl⟩
   ·rintro ⟨kl183, v184⟩ seen185 cz186 hx187 hxm188 hxn189 hI190 hE191
    have kok195 := (hm24.okk _ hxm188)
    dsimp only at kok195
    obtain ⟨sp193, hst192⟩ := hgo181 (kl183, v184) hx187 hxn189
    have hF := hst192
    rw [F_counts_Right_s1] at hF
    refine JL.extract rfl rfl .none rfl ?_
    refine JL.done hQ ?_
    refine JQ.go ?_
    refine JC.seq ?_
    refine JC.cond_t (b := true) rfl rfl ?_
    refine JC.skip ?_
    refine JQ.go ?_
    refine JC.block ?_
    refine JC.seq ?_
    refine JC.region (by rfl) ?_
    intro hQ
    refine JL.entryIt (y := (kl183, v184)) 0 rfl rfl (.data (hs176.le _ _ hH23)) hm24 hE191 .none rfl ?_
    refine JL.extract rfl rfl .none rfl ?_
    refine JL.alloc ze_104 .none rfl ?_
    intro b196
    refine JL.storeArr (l := [0, 0, 0, 0, 0, 0]) (l' := kl183) 0 az_104 rfl rfl rfl rfl kok195.1 .none ?_
    refine JL.done hQ ?_
    refine JQ.go ?_
    refine JC.seq ?_
    refine JC.region (by rfl) ?_
    intro hQ
    refine JL.move .none rfl ?_
    refine JL.loadArr (l := kl183) 0 az_104 rfl rfl kok195.1 .none rfl ?_
    refine JL.move .none rfl ?_
    obtain ⟨y197, hy197, hF⟩ := bind_some hF
    refine JL.callS (c_counts_test_right n H176 w52 w52_v0 (SL.mono R_Section_mono hs176 hw52_0) w52_v7 (SL.mono R_Span_mono hs176 hw52_7) w52_v8 (SL.mono RInt.mono hs176 hw52_8) w52_v9 (SL.mono R_Blow_mono hs176 hw52_9) w52_v10 (SL.mono R_Meter_mono hs176 hw52_10) w52_v12 (FN_82.mono hs176 hw52_12) b53 o54 (Cells.mono hs176 hc57) kl183 kok195.1 meter y197 hy197) rfl en_59 .none rfl ?_
    refine JL.done hQ ?_
    refine JQ.go ?_
    refine JC.fresh (fun f => f 1 = .int .i64 meter ∧ f 6 = .pointer (some ⟨b53, o54, none⟩) ∧ f 7 = y5b_v0 ∧ f 9 = .int .i64 n_175 ∧ f 27 = .pointer (some ⟨r13, 0, none⟩) ∧ f 35 = .bool y197) ⟨rfl, rfl, rfl, rfl, rfl, rfl⟩ ?_
    rintro f ⟨hf1, hf6, hf7, hf9, hf27, hf35⟩
    refine (JC.norm (i := 1) hf1 (JC.norm (i := 6) hf6 (JC.norm (i := 7) hf7 (JC.norm (i := 9) hf9 (JC.norm (i := 27) hf27 (JC.norm (i := 35) hf35 ?_))))))
    obtain ⟨r201, hlr201, hKr201⟩ := bind_some hF
    refine JC.join (fun (n_199 : Int) H200 f bs gs => f 1 = .int .i64 meter ∧ f 6 = .pointer (some ⟨b53, o54, none⟩) ∧ f 7 = y5b_v0 ∧ f 9 = .int .i64 n_199 ∧ f 27 = .pointer (some ⟨r13, 0, none⟩) ∧ bs = [(r13, .mapIter (some mb19) sn_r13 seen185 cz186)] ∧ gs = [] ∧ HSub H176 H200 ∧ n_199 = r201) ?_ ?_
    ·have hF := hlr201
     rcases ite_some hF with ⟨hc202, hF⟩ | ⟨hc202, hF⟩
     ·refine JC.cond_t (b := y197) rfl hc202 ?_
      refine JC.region (by rfl) ?_
      intro hQ
      refine JL.move .none rfl ?_
      refine JL.bin rfl rfl rfl .none rfl ?_
      refine JL.assign .none rfl ?_
      refine JL.done hQ ?_
      obtain rfl := Option.some.inj hF
      refine JQ.mask [false, true] [] ?_
      exact JQ.join (w64 (n_175 + 1)) ⟨rfl, rfl, rfl, rfl, rfl, rfl, rfl, (HSub.refl _), rfl⟩
     ·refine JC.cond_f (b := y197) rfl hc202 ?_
      refine JC.skip ?_
      obtain rfl := Option.some.inj hF
      refine JQ.mask [false, true] [] ?_
      exact JQ.join n_175 ⟨rfl, rfl, rfl, rfl, rfl, rfl, rfl, (HSub.refl _), rfl⟩
    ·rintro n_199 H200 f bs gs ⟨hf1, hf6, hf7, hf9, hf27, rfl, rfl, hs200, rfl⟩
     have hF := hKr201
     try dsimp only at hF
     refine (JQ.norm (i := 1) hf1 (JQ.norm (i := 6) hf6 (JQ.norm (i := 7) hf7 (JQ.norm (i := 9) hf9 (JQ.norm (i := 27) hf27 ?_)))))
     refine JQ.normal_block ?_
     obtain rfl := Option.some.inj hF
     exact JQ.mnext hx187 hxn189 hst192 ⟨sn_r13, seen185, cz186, rfl, rfl, rfl, rfl, rfl, rfl, rfl, hI190, (HSub.trans hs176 hs200)⟩
  ·rintro n_129 H130 f bs gs ⟨hf7, hf9, rfl, rfl, hs130, rfl⟩
   have hF := hKr131
   try dsimp only at hF
   refine (JQ.norm (i := 7) hf7 (JQ.norm (i := 9) hf9 ?_))
   refine JQ.go ?_
   refine JC.seq ?_
   refine JC.seq ?_
   refine JC.region (by rfl) ?_
   intro hQ
   refine JL.move .none rfl ?_
   refine JL.done hQ ?_
   refine JQ.go ?_
   refine JC.block ?_
   refine JC.seq ?_
   refine JC.region (by rfl) ?_
   intro hQ
   refine JL.move .none rfl ?_
   refine JL.lenMD mp_92 rfl (MD.mono hs130 hy5b_0) .none rfl ?_
   refine JL.bin rfl rfl rfl .none rfl ?_
   refine JL.assign .none rfl ?_
   refine JL.done hQ ?_
   refine JQ.go ?_
   rcases ite_some hF with ⟨hc204, hF⟩ | ⟨hc204, hF⟩
   ·refine JC.cond_t (b := (n_129 == (y5.2.1.length : Int))) rfl hc204 ?_
    refine JC.seq ?_
    refine JC.region (by rfl) ?_
    intro hQ
    refine JL.assign .none rfl ?_
    refine JL.assign .none rfl ?_
    refine JL.done hQ ?_
    refine JQ.go ?_
    refine JC.ret ?_
    refine JQ.ret_block ?_
    refine JQ.ret_then ?_
    obtain rfl := Option.some.inj hF
    exact JQ.outS rfl (.tmp (.tmp .nil)) rfl
   ·refine JC.cond_f (b := (n_129 == (y5.2.1.length : Int))) rfl hc204 ?_
    refine JC.seq ?_
    refine JC.region (by rfl) ?_
    intro hQ
    refine JL.bin rfl rfl rfl .none rfl ?_
    refine JL.assign .none rfl ?_
    refine JL.done hQ ?_
    refine JQ.go ?_
    rcases ite_some hF with ⟨hc205, hF⟩ | ⟨hc205, hF⟩
    ·refine JC.cond_t (b := (n_129 == 0)) rfl hc205 ?_
     refine JC.seq ?_
     refine JC.region (by rfl) ?_
     intro hQ
     refine JL.assign .none rfl ?_
     refine JL.assign .none rfl ?_
     refine JL.done hQ ?_
     refine JQ.go ?_
     refine JC.ret ?_
     refine JQ.ret_block ?_
     refine JQ.ret_then ?_
     obtain rfl := Option.some.inj hF
     exact JQ.outS rfl (.tmp (.tmp .nil)) rfl
    ·refine JC.cond_f (b := (n_129 == 0)) rfl hc205 ?_
     refine JC.skip ?_
     refine JQ.normal_block ?_
     refine JQ.go ?_
     refine JC.seq ?_
     refine JC.region (by rfl) ?_
     intro hQ
     refine JL.assign .none rfl ?_
     refine JL.assign .none rfl ?_
     refine JL.done hQ ?_
     refine JQ.go ?_
     refine JC.ret ?_
     obtain rfl := Option.some.inj hF
     exact JQ.outS rfl (.tmp (.tmp .nil)) rfl
end Go.Proofs.YtcipdblhopffbaaGreat
end
section
namespace Go.Dec
/-- from some fuel on it yields y -/
def Ev {β : Type} (F : Nat → Option β) (y : β) : Prop := ∃ N, ∀ n, N ≤ n → F n = some y
theorem Ev.some {β : Type} (y : β) : Ev (fun _ => Option.some y) y := ⟨0, fun _ _ => rfl⟩
theorem Ev.of {β : Type} {F : Nat → Option β} {y : β} (h : ∀ n, F n = Option.some y) : Ev F y := ⟨0, fun n _ => h n⟩
theorem Ev.bind {α β : Type} {F : Nat → Option α} {K : Nat → α → Option β} {x : α} {y : β} (h : Ev F x) (k : Ev (fun n => K n x) y) : Ev (fun n => (F n).bind (K n)) y := by
  obtain ⟨N, hN⟩ := h
  obtain ⟨M, hM⟩ := k
  refine ⟨max N M, fun n hn => ?_⟩
  show (F n).bind (K n) = _
  rw [hN n (by omega)]
  exact hM n (by omega)
theorem Ev.get {β : Type} {F : Nat → Option β} {y : β} (h : Ev F y) : ∃ n, F n = Option.some y := let ⟨N, hN⟩ := h; ⟨N, hN N (Nat.le_refl _)⟩
/-- loops: the step's fuel and the loop's own -/
def EvL {S R : Type} (step : Nat → S → Option (S ⊕ R)) (s : S) (r : R) : Prop := ∃ N, ∀ n m, N ≤ n → N ≤ m → loopO m (step n) s = Option.some r
theorem EvL.done {S R : Type} {step : Nat → S → Option (S ⊕ R)} {s : S} {r : R} (h : Ev (fun n => step n s) (.inr r)) : EvL step s r := by
  obtain ⟨N, hN⟩ := h
  refine ⟨N + 1, fun n m hn hm => ?_⟩
  obtain ⟨m, rfl⟩ : ∃ k, m = k + 1 := ⟨m - 1, by omega⟩
  unfold loopO
  have := hN n (by omega)
  simp only at this
  rw [this]
theorem EvL.next {S R : Type} {step : Nat → S → Option (S ⊕ R)} {s s' : S} {r : R} (h : Ev (fun n => step n s) (.inl s')) (k : EvL step s' r) : EvL step s r := by
  obtain ⟨N, hN⟩ := h
  obtain ⟨M, hM⟩ := k
  refine ⟨max N M + 1, fun n m hn hm => ?_⟩
  obtain ⟨m, rfl⟩ : ∃ k, m = k + 1 := ⟨m - 1, by omega⟩
  unfold loopO
  have := hN n (by omega)
  simp only at this
  rw [this]
  exact hM n m (by omega) (by omega)
theorem EvL.ev {S R : Type} {step : Nat → S → Option (S ⊕ R)} {s : S} {r : R} (h : EvL step s r) : Ev (fun n => loopO n (step n) s) r :=
  let ⟨N, hN⟩ := h; ⟨N, fun n hn => hN n n hn hn⟩
/-- a loop over an index from i to k: s i is the state before round i; all rounds go on -/
theorem EvL.upto {S R : Type} {step : Nat → S → Option (S ⊕ R)} (s : Nat → S) {r : R} : ∀ (k i : Nat), i ≤ k → (∀ j, i ≤ j → j < k → Ev (fun n => step n (s j)) (.inl (s (j + 1)))) → Ev (fun n => step n (s k)) (.inr r) → EvL step (s i) r := by
  intro k i hik h hd
  obtain ⟨d, rfl⟩ : ∃ d, k = i + d := ⟨k - i, by omega⟩
  clear hik
  induction d generalizing i with
  | zero => exact .done hd
  | succ d ih =>
    refine .next (h i (Nat.le_refl _) (by omega)) (ih (i + 1) (fun j h1 h2 => h j (by omega) (by omega)) ?_)
    have : i + 1 + d = i + (d + 1) := by omega
    rw [this]; exact hd
/-- a loop that is left in round k -/
theorem EvL.left {S R : Type} {step : Nat → S → Option (S ⊕ R)} (s : Nat → S) {r : R} (k : Nat) (h : ∀ j, j < k → Ev (fun n => step n (s j)) (.inl (s (j + 1)))) (hd : Ev (fun n => step n (s k)) (.inr r)) : EvL step (s 0) r :=
  EvL.upto s k 0 (Nat.zero_le _) (fun j _ h2 => h j h2) hd
theorem geti_nat {α : Type} (l : List α) (i : Nat) : geti l (i : Int) = l[i]? := by
  unfold geti
  rw [if_pos (by omega)]
  simp
theorem w64_id {n : Int} (h1 : -9223372036854775808 ≤ n) (h2 : n ≤ 9223372036854775807) : w64 n = n := by
  have : w64 n = if n % 18446744073709551616 ≥ 9223372036854775808 then n % 18446744073709551616 - 18446744073709551616 else n % 18446744073709551616 := by
    simp [w64, Go.IntKind.wrap, Go.IntKind.signed, Go.IntKind.bits]
  rw [this]
  split <;> omega
def MonoF {β : Type} (F : Nat → Option β) : Prop := ∀ n m y, n ≤ m → F n = some y → F m = some y
theorem MonoF.const {β : Type} (o : Option β) : MonoF (fun _ => o) := fun _ _ _ _ h => h
theorem MonoF.bind {α β : Type} {F : Nat → Option α} {K : Nat → α → Option β} (h : MonoF F) (k : ∀ x, MonoF (fun n => K n x)) : MonoF (fun n => (F n).bind (K n)) := fun n m y hn hy => by
  obtain ⟨x, h1, h2⟩ := bind_some hy
  show (F m).bind (K m) = _
  rw [h n m x hn h1]
  exact k x n m y hn h2
theorem MonoF.loop {S R : Type} {step : Nat → S → Option (S ⊕ R)} (h : ∀ s, MonoF (fun n => step n s)) (s : S) : MonoF (fun n => loopO n (step n) s) := by
  have key : ∀ (k n m j : Nat) (s : S) (r : R), n ≤ m → k ≤ j → loopO k (step n) s = some r → loopO j (step m) s = some r := by
    intro k
    induction k with
    | zero => intro n m j s r _ _ h; simp [loopO] at h
    | succ k ih =>
      intro n m j s r hn hj hl
      obtain ⟨j, rfl⟩ : ∃ i, j = i + 1 := ⟨j - 1, by omega⟩
      unfold loopO at hl ⊢
      cases hs : step n s with
      | none => rw [hs] at hl; cases hl
      | some x =>
        rw [hs] at hl
        have := h s n m x hn hs
        simp only at this
        rw [this]
        cases x with
        | inl s' => exact ih n m j s' r hn (by omega) hl
        | inr r' => exact hl
  exact fun n m y hn hy => key n n m m s y hn hn hy
theorem MonoF.ev {β : Type} {F : Nat → Option β} (h : MonoF F) {n : Nat} {y : β} (hy : F n = some y) : Ev F y := ⟨n, fun m hm => h n m y hm hy⟩
end Go.Dec
end
section
namespace Go.Dec
theorem w64_nat {i : Nat} (h : i ≤ 4611686018427387904) : w64 ((i : Int) + 1) = ((i + 1 : Nat) : Int) := by
  rw [w64_id] <;> omega
theorem lim_ok {α : Type} {l : List α} (h : l.length ≤ 4294967296) : lim l = some l := by simp [lim, h]
section
variable {S R : Type} {step : S → Option (S ⊕ R)}
theorem loopO_succ {n : Nat} {s : S} : loopO (n + 1) step s = (match step s with | none => none | some (.inl s') => loopO n step s' | some (.inr r) => some r) := by
  rw [loopO]; rcases step s with _ | (_ | _) <;> rfl
theorem loop_done {n : Nat} {s : S} {r : R} (h : step s = some (.inr r)) (hn : 0 < n) : loopO n step s = some r := by
  obtain ⟨m, rfl⟩ : ∃ k, n = k + 1 := ⟨n - 1, by omega⟩
  rw [loopO_succ, h]
/-- a run of states -/
theorem loop_run (s : Nat → S) {r : R} : ∀ (k i n : Nat), (∀ j, i ≤ j → j < i + k → step (s j) = some (.inl (s (j + 1)))) → step (s (i + k)) = some (.inr r) → k < n → loopO n step (s i) = some r := by
  intro k
  induction k with
  | zero => intro i n _ h hn; exact loop_done h hn
  | succ k ih =>
    intro i n h hd hn
    obtain ⟨m, rfl⟩ : ∃ k, n = k + 1 := ⟨n - 1, by omega⟩
    rw [loopO_succ, h i (Nat.le_refl _) (by omega)]
    exact ih (i + 1) m (fun j h1 h2 => h j (by omega) (by omega)) (by rw [show i + 1 + k = i + (k + 1) by omega]; exact hd) (by omega)
/-- a loop that folds a list; I: what is so of the state before round i -/
theorem loop_fold {α β : Type} (l : List α) (enc : Nat → β → S) (g : β → α → β) (fin : β → R) (I : Nat → β → Prop) {n : Nat} (b0 : β) (h0 : I 0 b0)
    (h : ∀ i x b, l[i]? = some x → I i b → step (enc i b) = some (.inl (enc (i + 1) (g b x))) ∧ I (i + 1) (g b x))
    (hd : ∀ b, I l.length b → step (enc l.length b) = some (.inr (fin b))) (hn : l.length < n) : loopO n step (enc 0 b0) = some (fin (l.foldl g b0)) ∧ I l.length (l.foldl g b0) := by
  have key : ∀ (k i : Nat) (b : β) (n : Nat), i + k = l.length → I i b → k < n → loopO n step (enc i b) = some (fin ((l.drop i).foldl g b)) ∧ I l.length ((l.drop i).foldl g b) := by
    intro k
    induction k with
    | zero =>
      intro i b n hi hI hn
      have e : i = l.length := by omega
      subst e
      rw [List.drop_length]
      exact ⟨loop_done (hd b hI) hn, hI⟩
    | succ k ih =>
      intro i b n hi hI hn
      obtain ⟨m, rfl⟩ : ∃ k, n = k + 1 := ⟨n - 1, by omega⟩
      have hlt : i < l.length := by omega
      obtain ⟨h1, h2⟩ := h i l[i] b (List.getElem?_eq_getElem hlt) hI
      rw [loopO_succ, h1, List.drop_eq_getElem_cons hlt, List.foldl_cons]
      exact ih (i + 1) _ m (by omega) h2 (by omega)
  have := key l.length 0 b0 n (by omega) h0 hn
  rwa [List.drop_zero] at this
/-- .. with nothing to be remembered -/
theorem loop_foldl {α β : Type} (l : List α) (enc : Nat → β → S) (g : β → α → β) (fin : β → R) {n : Nat} (b0 : β)
    (h : ∀ i x b, l[i]? = some x → i < l.length → step (enc i b) = some (.inl (enc (i + 1) (g b x))))
    (hd : ∀ b, step (enc l.length b) = some (.inr (fin b))) (hn : l.length < n) : loopO n step (enc 0 b0) = some (fin (l.foldl g b0)) :=
  (loop_fold l enc g fin (fun _ _ => True) b0 trivial (fun i x b hx _ => ⟨h i x b hx (List.getElem?_eq_some_iff.1 hx).1, trivial⟩) (fun b _ => hd b) hn).1
/-- a search by index -/
theorem loop_all {ρ : Type} {step : Int → Option (Int ⊕ (ρ ⊕ Unit))} (k : Nat) (p : Nat → Bool) (r : ρ) {n : Nat} (hk : k ≤ 4611686018427387904)
    (h : ∀ i, i < k → step (i : Int) = some (bif p i then .inl ((i + 1 : Nat) : Int) else .inr (.inl r))) (hd : step (k : Int) = some (.inr (.inr ()))) (hn : k < n) :
    loopO n step 0 = some (bif (List.range k).all p then .inr () else .inl r) := by
  have key : ∀ (m i n : Nat), i + m = k → m < n → loopO n step (i : Int) = some (bif (List.range' i m).all p then .inr () else .inl r) := by
    intro m
    induction m with
    | zero => intro i n hi hn; have : i = k := by omega
              subst this; rw [loop_done hd (by omega)]; simp
    | succ m ih =>
      intro i n hi hn
      obtain ⟨m', rfl⟩ : ∃ k, n = k + 1 := ⟨n - 1, by omega⟩
      rw [loopO_succ, h i (by omega), List.range'_succ, List.all_cons]
      cases hp : p i with
      | false => simp
      | true => simp only [cond_true, Bool.true_and]; exact ih (i + 1) m' (by omega) (by omega)
  have := key k 0 n (by omega) hn
  rw [List.range_eq_range']
  exact this
/-- a search in a list -/
theorem loop_all_l {α ρ : Type} {step : Int → Option (Int ⊕ (ρ ⊕ Unit))} (l : List α) (p : α → Bool) (r : ρ) {n : Nat} (hk : l.length ≤ 4611686018427387904)
    (h : ∀ i x, l[i]? = some x → i < l.length → step (i : Int) = some (bif p x then .inl ((i + 1 : Nat) : Int) else .inr (.inl r))) (hd : step (l.length : Int) = some (.inr (.inr ()))) (hn : l.length < n) :
    loopO n step 0 = some (bif l.all p then .inr () else .inl r) := by
  have := loop_all l.length (fun i => match l[i]? with | some x => p x | none => true) r hk (fun i hi => by
    rw [h i l[i] (List.getElem?_eq_getElem hi) hi]; simp [hi]) hd hn
  rw [this]
  have e : (List.range l.length).all (fun i => match l[i]? with | some x => p x | none => true) = l.all p := by
    rw [Bool.eq_iff_iff]
    simp only [List.all_eq_true, List.mem_range]
    constructor
    · intro h x hx
      obtain ⟨i, hi⟩ := List.mem_iff_getElem?.1 hx
      have := h i (List.getElem?_eq_some_iff.1 hi).1
      simpa [hi] using this
    · intro h i hi
      simpa [hi] using h _ (List.getElem_mem hi)
  rw [e]
end
/-- the first one that is such -/
theorem first_of {α : Type} {p : α → Bool} : ∀ {s : List α}, s.any p = true → ∃ i : Nat, ∃ x, s[i]? = some x ∧ p x = true ∧ ∀ (j : Nat) y, j < i → s[j]? = some y → p y = false
  | [], h => by simp at h
  | a :: s, h => by
    by_cases ha : p a = true
    · exact ⟨0, a, rfl, ha, by intros; omega⟩
    · have hs : s.any p = true := by simpa [ha] using h
      obtain ⟨i, x, h1, h2, h3⟩ := first_of hs
      refine ⟨i + 1, x, by simpa using h1, h2, fun j y hj hy => ?_⟩
      cases j with
      | zero => simp at hy; subst hy; simpa using ha
      | succ j => exact h3 j y (by omega) (by simpa using hy)
/-- a walk over what an iterator yields -/
def foldO {σ ρ α : Type} (cs : σ → α → Option (σ ⊕ ρ)) : σ → List α → Option (σ ⊕ ρ)
  | s, [] => some (.inl s)
  | s, a :: l => (cs s a).bind fun y => match y with | .inl s' => foldO cs s' l | .inr r => some (.inr r)
theorem foldO_foldl {σ ρ α : Type} {cs : σ → α → Option (σ ⊕ ρ)} (g : σ → α → σ) (I : Nat → σ → Prop) : ∀ (l : List α) (k : Nat) (s : σ), I k s → (∀ i s a, i < k + l.length → a ∈ l → I i s → cs s a = some (.inl (g s a)) ∧ I (i + 1) (g s a)) →
    foldO cs s l = some (.inl (l.foldl g s)) ∧ I (k + l.length) (l.foldl g s)
  | [], k, s, h, _ => ⟨rfl, h⟩
  | a :: l, k, s, h, hs => by
    obtain ⟨h1, h2⟩ := hs k s a (by simp) (List.mem_cons_self ..) h
    obtain ⟨h3, h4⟩ := foldO_foldl g I l (k + 1) _ h2 (fun i s a hi ha => hs i s a (by rw [List.length_cons]; omega) (List.mem_cons_of_mem _ ha))
    refine ⟨by simp [foldO, h1, h3], ?_⟩
    rw [List.length_cons, show k + (l.length + 1) = k + 1 + l.length by omega]
    exact h4
theorem foldO_append {σ ρ α : Type} {cs : σ → α → Option (σ ⊕ ρ)} : ∀ (l m : List α) (s : σ), foldO cs s (l ++ m) = (foldO cs s l).bind fun y => match y with | .inl s' => foldO cs s' m | .inr r => some (.inr r)
  | [], m, s => by simp [foldO]
  | a :: l, m, s => by
    simp only [List.cons_append, foldO]
    cases cs s a with
    | none => rfl
    | some y => cases y with
      | inl s' => simp [foldO_append l m s']
      | inr r => simp
theorem foldl_filter_append {α : Type} (p : α → Bool) : ∀ (l out : List α), l.foldl (fun o x => if p x = true then o ++ [x] else o) out = out ++ l.filter p
  | [], out => by simp
  | a :: l, out => by
    rw [List.foldl_cons, foldl_filter_append p l]
    cases h : p a <;> simp [h]
theorem foldl_count {α : Type} (p : α → Bool) : ∀ (l : List α) (k : Int), l.foldl (fun o x => if p x = true then o + 1 else o) k = k + (l.countP p : Nat)
  | [], k => by simp
  | a :: l, k => by
    rw [List.foldl_cons, foldl_count p l]
    cases h : p a <;> simp [h, List.countP_cons]; omega
theorem foldl_append_map {α β : Type} (f : α → β) : ∀ (l : List α) (out : List β), l.foldl (fun o x => o ++ [f x]) out = out ++ l.map f
  | [], out => by simp
  | a :: l, out => by rw [List.foldl_cons, foldl_append_map f l]; simp
theorem foldl_pair {α β γ : Type} (f : β → α → β) (g : γ → α → γ) : ∀ (l : List α) (b : β) (c : γ), l.foldl (fun s x => (f s.1 x, g s.2 x)) (b, c) = (l.foldl f b, l.foldl g c)
  | [], _, _ => rfl
  | a :: l, b, c => by simp only [List.foldl_cons]; exact foldl_pair f g l _ _
end Go.Dec
end
section
namespace Go.Dec
def span (a b : Int) : List Int := (List.range (b + 1 - a).toNat).map fun j : Nat => a + j
def down (b a : Int) : List Int := (List.range (b + 1 - a).toNat).map fun j : Nat => b - j
theorem span_mem' {a b x : Int} : x ∈ span a b ↔ a ≤ x ∧ x ≤ b := by
  simp only [span, List.mem_map, List.mem_range]
  constructor
  · rintro ⟨j, h, rfl⟩; omega
  · intro h; exact ⟨(x - a).toNat, by omega, by omega⟩
theorem span_len (a b : Int) : (span a b).length = (b + 1 - a).toNat := by simp [span]
theorem span_nil {a b : Int} (h : b < a) : span a b = [] := by
  have : (b + 1 - a).toNat = 0 := by omega
  simp [span, this]
theorem span_cons {a b : Int} (h : a ≤ b) : span a b = a :: span (a + 1) b := by
  have : (b + 1 - a).toNat = (b + 1 - (a + 1)).toNat + 1 := by omega
  unfold span
  rw [this, List.range_succ_eq_map, List.map_cons, List.map_map]
  simp only [Int.natCast_zero, Int.add_zero]
  congr 1
  apply List.map_congr_left
  intro j _
  simp only [Function.comp]
  omega
/-- an iterator that counts up -/
theorem loop_up {σ ρ : Type} (cs : σ → Int → Option (σ ⊕ ρ)) {step : Int × σ → Option ((Int × σ) ⊕ (σ ⊕ ρ))} {hi : Int} : ∀ (k : Nat) (lo : Int) (s : σ) (n : Nat), (hi + 1 - lo).toNat = k →
    (∀ b s, lo ≤ b → b ≤ hi → step (b, s) = (cs s b).bind fun y => match y with | .inl s' => some (.inl (b + 1, s')) | .inr e => some (.inr (.inr e))) → (∀ b s, hi < b → b ≤ max lo (hi + 1) → step (b, s) = some (.inr (.inl s))) → k < n →
    loopO n step (lo, s) = foldO cs s (span lo hi) := by
  intro k
  induction k with
  | zero =>
    intro lo s n hk _ hd hn
    rw [span_nil (by omega), loop_done (hd lo s (by omega) (by omega)) hn]
    rfl
  | succ k ih =>
    intro lo s n hk h hd hn
    obtain ⟨m, rfl⟩ : ∃ k, n = k + 1 := ⟨n - 1, by omega⟩
    rw [span_cons (by omega), loopO_succ, h lo s (by omega) (by omega)]
    simp only [foldO]
    cases cs s lo with
    | none => rfl
    | some y => cases y with
      | inl s' =>
        simp only [Option.bind_some]
        exact ih (lo + 1) s' m (by omega) (fun b s h1 h2 => h b s (by omega) h2) (fun b s h1 h2 => hd b s h1 (by omega)) (by omega)
      | inr e => rfl
theorem foldO_flatMap {σ ρ α β : Type} {cs : σ → α → Option (σ ⊕ ρ)} (f : β → List α) : ∀ (l : List β) (s : σ), foldO cs s (l.flatMap f) = foldO (fun s b => foldO cs s (f b)) s l
  | [], s => by simp [foldO]
  | b :: l, s => by
    rw [List.flatMap_cons, foldO_append, foldO]
    congr 1
    funext y
    cases y with
    | inl s' => exact foldO_flatMap f l s'
    | inr r => rfl
theorem foldO_map {σ ρ α β : Type} {cs : σ → α → Option (σ ⊕ ρ)} (f : β → α) : ∀ (l : List β) (s : σ), foldO cs s (l.map f) = foldO (fun s b => cs s (f b)) s l
  | [], s => by simp [foldO]
  | b :: l, s => by
    rw [List.map_cons, foldO, foldO]
    congr 1
    funext y
    cases y with
    | inl s' => exact foldO_map f l s'
    | inr r => rfl
/-- a loop over a span that folds -/
theorem loop_span_fold {S R β : Type} {step : S → Option (S ⊕ R)} (enc : Int → β → S) (g : β → Int → β) (fin : β → R) (I : Int → β → Prop) {hi : Int} : ∀ (k : Nat) (lo : Int) (b0 : β) (n : Nat), (hi + 1 - lo).toNat = k → I lo b0 →
    (∀ i b, lo ≤ i → i ≤ hi → I i b → step (enc i b) = some (.inl (enc (i + 1) (g b i))) ∧ I (i + 1) (g b i)) → (∀ i b, hi < i → i ≤ max lo (hi + 1) → I i b → step (enc i b) = some (.inr (fin b))) → k < n →
    loopO n step (enc lo b0) = some (fin ((span lo hi).foldl g b0)) ∧ I (max lo (hi + 1)) ((span lo hi).foldl g b0) := by
  intro k
  induction k with
  | zero =>
    intro lo b0 n hk h0 _ hd hn
    rw [span_nil (by omega), loop_done (hd lo b0 (by omega) (by omega) h0) hn]
    rw [show max lo (hi + 1) = lo by omega]
    exact ⟨rfl, h0⟩
  | succ k ih =>
    intro lo b0 n hk h0 h hd hn
    obtain ⟨m, rfl⟩ : ∃ k, n = k + 1 := ⟨n - 1, by omega⟩
    obtain ⟨h1, h2⟩ := h lo b0 (by omega) (by omega) h0
    rw [span_cons (by omega), loopO_succ, h1, List.foldl_cons]
    have := ih (lo + 1) (g b0 lo) m (by omega) h2 (fun i b h1 h2 => h i b (by omega) h2) (fun i b h1 h2 => hd i b h1 (by omega)) (by omega)
    rw [show max (lo + 1) (hi + 1) = max lo (hi + 1) by omega] at this
    exact this
theorem loop_gcd {step : Int × Int → Option ((Int × Int) ⊕ Int)} (h0 : ∀ a, step (a, 0) = some (.inr a)) (h : ∀ a b, b ≠ 0 → step (a, b) = some (.inl (b, a.tmod b))) : ∀ (y x n : Nat), y < n → loopO n step ((x : Int), (y : Int)) = some ((Nat.gcd x y : Nat) : Int) := by
  intro y
  induction y using Nat.strongRecOn with
  | _ y ih =>
    intro x n hn
    obtain ⟨m, rfl⟩ : ∃ k, n = k + 1 := ⟨n - 1, by omega⟩
    rw [loopO_succ]
    by_cases hy : y = 0
    · subst hy
      have := h0 (x : Int)
      simp only [Int.natCast_zero] at *
      rw [this]; simp
    · rw [h _ _ (by omega)]
      simp only
      rw [← Int.ofNat_tmod]
      have hlt := Nat.mod_lt x (Nat.pos_of_ne_zero hy)
      rw [ih (x % y) hlt y m (by omega)]
      rw [Nat.gcd_comm x y, Nat.gcd_rec y x, Nat.gcd_comm]
theorem mul_in {x y A C : Int} (h1 : 0 ≤ x) (h2 : x ≤ A) (h3 : 0 ≤ y) (h4 : y ≤ C) : 0 ≤ x * y ∧ x * y ≤ A * C := by
  refine ⟨Int.mul_nonneg h1 h3, ?_⟩
  have a := Int.mul_le_mul_of_nonneg_right h2 h3
  have b := Int.mul_le_mul_of_nonneg_left h4 (show 0 ≤ A by omega)
  omega
theorem mul_abs {x y A C : Int} (h1 : -A ≤ x) (h2 : x ≤ A) (h3 : 0 ≤ y) (h4 : y ≤ C) : -(A * C) ≤ x * y ∧ x * y ≤ A * C := by
  have hA : 0 ≤ A := by omega
  have a := Int.mul_le_mul_of_nonneg_right h2 h3
  have a' := Int.mul_le_mul_of_nonneg_right h1 h3
  have b := Int.mul_le_mul_of_nonneg_left h4 hA
  rw [Int.neg_mul] at a'
  omega
end Go.Dec
end
