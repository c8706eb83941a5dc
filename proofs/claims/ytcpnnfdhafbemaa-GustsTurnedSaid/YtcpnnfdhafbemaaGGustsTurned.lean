/-
  Printed by a program: functions of the translation as plain functions, and their contracts.
-/
import Derived.Test.YtcpnnfdhafbemaaGenK14
namespace Go.Proofs.Ytcpnnfdhafbemaa
open Go Go.RowKit Go.Dec
set_option linter.unusedVariables false
-- 3 ferrule/ferrulelaw05.GustsTurned
def F_law05_GustsTurned_s1 (n : Nat) (d : Canopy) (by_ : Int) : Int × List Span → Option ((Int × List Span) ⊕ (List Span))
  | (i_327, out_328) => if decide (i_327 < (d.Ribs.length : Int)) = true then ((nz (d.Ribs.length : Int)).bind fun _ => (geti d.Ribs ((w64 (i_327 + by_)).tmod (d.Ribs.length : Int))).bind fun y343 => (geti out_328 i_327).bind fun y348 => some (Sum.inl ((w64 (i_327 + 1)), (setx out_328 i_327 y343)))) else (some (Sum.inr out_328))
def F_law05_GustsTurned_s2 (n : Nat) (d : Canopy) (by_ : Int) (y396 : (List Int) × (List Int) × Int) (y403 : (List Int) × (List Int) × Int) : Int → Option (Int ⊕ (Bool ⊕ Unit))
  | i_616 => if decide (i_616 < (y403.1.length : Int)) = true then ((geti y403.1 i_616).bind fun y621 => (if decide (y621 < 0) = true then (some true) else ((geti y403.1 i_616).bind fun y634 => some (decide ((d.Ribs.length : Int) ≤ y634))) : Option Bool).bind fun p631 => (if p631 = true then (some true) else ((geti y403.1 i_616).bind fun y649 => (nz (d.Ribs.length : Int)).bind fun _ => (F_law05_in n y396.1 ((w64 (y649 + by_)).tmod (d.Ribs.length : Int))).bind fun y655 => some (!y655)) : Option Bool).bind fun p646 => if p646 = true then (some (Sum.inr (Sum.inl false))) else (some (Sum.inl (w64 (i_616 + 1))))) else (some (Sum.inr (Sum.inr ())))
def F_law05_GustsTurned_s3 (n : Nat) (d : Canopy) (by_ : Int) (y396 : (List Int) × (List Int) × Int) (y403 : (List Int) × (List Int) × Int) : Int → Option (Int ⊕ (Bool ⊕ Unit))
  | i_856 => if decide (i_856 < (y403.2.1.length : Int)) = true then ((geti y403.2.1 i_856).bind fun y861 => (if decide (y861 < 0) = true then (some true) else ((geti y403.2.1 i_856).bind fun y874 => some (decide ((d.Ribs.length : Int) ≤ y874))) : Option Bool).bind fun p871 => (if p871 = true then (some true) else ((geti y403.2.1 i_856).bind fun y889 => (nz (d.Ribs.length : Int)).bind fun _ => (F_law05_in n y396.2.1 ((w64 (y889 + by_)).tmod (d.Ribs.length : Int))).bind fun y895 => some (!y895)) : Option Bool).bind fun p886 => if p886 = true then (some (Sum.inr (Sum.inl false))) else (some (Sum.inl (w64 (i_856 + 1))))) else (some (Sum.inr (Sum.inr ())))
def F_law05_GustsTurned (n : Nat) (d : Canopy) (g : Gust) (by_ : Int) : Option Bool :=
  (F_law05_ready n d [g]).bind fun y7 => if (((!y7) || (decide (by_ < 0))) || (decide (100 < by_))) = true then ((F_law05_works n).bind fun y13 => some y13) else ((F_ref05_Copy n d).bind fun y14 => (loopO n (F_law05_GustsTurned_s1 n d by_) (0, y14.Ribs)).bind fun out_204 => (nz (d.Ribs.length : Int)).bind fun _ => (nz (d.Ribs.length : Int)).bind fun _ => (F_gusts_Goes n d g).bind fun y396 => (F_gusts_Goes n (Canopy.mk y14.Frame out_204 y14.Shares) (Gust.mk g.Force ((w64 ((w64 (g.At - (by_.tmod (d.Ribs.length : Int)))) + (d.Ribs.length : Int))).tmod (d.Ribs.length : Int)))).bind fun y403 => if ((((((y396.2.2 != 0) || (y403.2.2 != 0)) || ((y396.1.length : Int) != (y403.1.length : Int))) || ((y396.2.1.length : Int) != (y403.2.1.length : Int))) || (decide ((d.Ribs.length : Int) < (y396.2.1.length : Int)))) || (decide ((d.Ribs.length : Int) < (y396.1.length : Int)))) = true then (some false) else ((loopO n (F_law05_GustsTurned_s2 n d by_ y396 y403) 0).bind fun r537 => match r537 with | .inl o => some o | .inr _ => (loopO n (F_law05_GustsTurned_s3 n d by_ y396 y403) 0).bind fun r777 => match r777 with | .inl o => some o | .inr _ => (F_law05_works n).bind fun y897 => some y897))
set_option maxRecDepth 100000 in
set_option maxHeartbeats 40000000 in
theorem c_law05_GustsTurned (n : Nat) (H : Hp) (d : Canopy) (d_v0 : Value) (hd_0 : SL H 7 R_Section d_v0 d.Frame.Sections) (d_v7 : Value) (hd_7 : SL H 2 R_Span d_v7 d.Ribs) (d_v8 : Value) (hd_8 : SL H 1 RInt d_v8 d.Shares) (g : Gust) (by_ : Int) (y : Bool) (hF : F_law05_GustsTurned n d g by_ = some y) : SC Try.prog 3 [.agg [d_v0, .int .i64 d.Frame.Low, .int .i64 d.Frame.High, .int .i64 d.Frame.Ease.Num, .int .i64 d.Frame.Ease.Den, .int .i64 d.Frame.Rod, .int .i64 d.Frame.Case, d_v7, d_v8].toArray, .agg [.int .i64 g.Force, .int .i64 g.At].toArray, .int .i64 by_] (.bool y) H := by
  rw [F_law05_GustsTurned] at hF
  refine SC.of (N := 180) Try.func3 rfl rfl rfl fun w => ?_
  refine JC.seq ?_
  refine JC.region (by rfl) ?_
  intro hQ
  refine JL.box (cs := [d_v0, .int .i64 d.Frame.Low, .int .i64 d.Frame.High, .int .i64 d.Frame.Ease.Num, .int .i64 d.Frame.Ease.Den, .int .i64 d.Frame.Rod, .int .i64 d.Frame.Case, d_v7, d_v8]) rfl .none rfl ?_
  intro b1
  refine JL.box (cs := [.int .i64 g.Force, .int .i64 g.At]) rfl .none rfl ?_
  intro b2
  refine JL.assign .none rfl ?_
  refine JL.done hQ ?_
  refine JQ.go ?_
  refine JC.seq ?_
  refine JC.seq ?_
  refine JC.region (by rfl) ?_
  intro hQ
  refine JL.loadOwn 1 az_30 rfl rfl rfl .none rfl ?_
  refine JL.loadOwn 0 az_32 rfl rfl rfl .none rfl ?_
  refine JL.buildSlice (e := 32) (l := [.int .i64 g.Force, .int .i64 g.At]) (by kernel_rfl) .none rfl ?_
  intro b3
  refine JL.freezeC 0 (l := [.int .i64 g.Force, .int .i64 g.At]) rfl ?_
  intro H4 hs4 hc5
  have hg6 : SL H4 2 R_Gust (.slice (some ⟨b3, 0, none⟩) 1 1) [g] := CH.sl (l := [g]) (CH.cons (cs := [.int .i64 g.Force, .int .i64 g.At]) rfl rfl CH.nil) hc5 ⟨by simp, by simp⟩
  obtain ⟨y7, hy7, hF⟩ := bind_some hF
  refine JL.callS (c_law05_ready n H4 d d_v0 (SL.mono R_Section_mono hs4 hd_0) d_v7 (SL.mono R_Span_mono hs4 hd_7) d_v8 (SL.mono RInt.mono hs4 hd_8) [g] (.slice (some ⟨b3, 0, none⟩) 1 1) hg6 y7 hy7) rfl en_11 .none rfl ?_
  refine JL.not rfl .none rfl ?_
  refine JL.move .none rfl ?_
  refine JL.cut 3 (fun f => f 2 = .int .i64 by_ ∧ f 3 = .pointer (some ⟨b1, 0, none⟩) ∧ f 4 = .pointer (some ⟨b2, 0, none⟩) ∧ f 27 = .bool ((!y7) || (decide (by_ < 0)))) ?_ ?_
  · intro hJ8
    rcases bcases (!y7) with hc9 | hc9
    · skip
      refine JL.skip (.bool rfl rfl rfl hc9) rfl ?_
      refine JL.skip (.bool rfl rfl rfl hc9) rfl ?_
      refine JL.pick_t (b := (!y7)) rfl hc9 .none rfl ?_
      exact hJ8 _ ⟨rfl, rfl, rfl, or_t hc9 rfl⟩
    · skip
      refine JL.move (.some rfl rfl rfl hc9) rfl ?_
      refine JL.bin rfl rfl rfl (.some rfl rfl rfl hc9) rfl ?_
      refine JL.pick_f (b := (!y7)) rfl hc9 .none rfl ?_
      exact hJ8 _ ⟨rfl, rfl, rfl, or_f hc9 rfl⟩
  · rintro f ⟨hf2, hf3, hf4, hf27⟩
    refine (JL.norm (i := 2) hf2 (JL.norm (i := 3) hf3 (JL.norm (i := 4) hf4 (JL.norm (i := 27) hf27 ?_))))
    refine JL.move .none rfl ?_
    refine JL.cut 3 (fun f => f 2 = .int .i64 by_ ∧ f 3 = .pointer (some ⟨b1, 0, none⟩) ∧ f 4 = .pointer (some ⟨b2, 0, none⟩) ∧ f 31 = .bool (((!y7) || (decide (by_ < 0))) || (decide (100 < by_)))) ?_ ?_
    · intro hJ10
      rcases bcases ((!y7) || (decide (by_ < 0))) with hc11 | hc11
      · skip
        refine JL.skip (.bool rfl rfl rfl hc11) rfl ?_
        refine JL.skip (.bool rfl rfl rfl hc11) rfl ?_
        refine JL.pick_t (b := ((!y7) || (decide (by_ < 0)))) rfl hc11 .none rfl ?_
        exact hJ10 _ ⟨rfl, rfl, rfl, or_t hc11 rfl⟩
      · skip
        refine JL.move (.some rfl rfl rfl hc11) rfl ?_
        refine JL.bin rfl rfl rfl (.some rfl rfl rfl hc11) rfl ?_
        refine JL.pick_f (b := ((!y7) || (decide (by_ < 0)))) rfl hc11 .none rfl ?_
        exact hJ10 _ ⟨rfl, rfl, rfl, or_f hc11 rfl⟩
    · rintro f ⟨hf2, hf3, hf4, hf31⟩
      refine (JL.norm (i := 2) hf2 (JL.norm (i := 3) hf3 (JL.norm (i := 4) hf4 (JL.norm (i := 31) hf31 ?_))))
      refine JL.done hQ ?_
      refine JQ.go ?_
      rcases ite_some hF with ⟨hc12, hF⟩ | ⟨hc12, hF⟩
      · refine JC.cond_t (b := (((!y7) || (decide (by_ < 0))) || (decide (100 < by_)))) rfl hc12 ?_
        refine JC.seq ?_
        refine JC.region (by rfl) ?_
        intro hQ
        obtain ⟨y13, hy13, hF⟩ := bind_some hF
        refine JL.callS (c_law05_works n H4 y13 hy13) rfl en_12 .none rfl ?_
        refine JL.assign .none rfl ?_
        refine JL.done hQ ?_
        refine JQ.go ?_
        refine JC.ret ?_
        refine JQ.ret_then ?_
        obtain rfl := Option.some.inj hF
        exact JQ.outS rfl (.tmp .nil) rfl
      · refine JC.cond_f (b := (((!y7) || (decide (by_ < 0))) || (decide (100 < by_)))) rfl hc12 ?_
        refine JC.skip ?_
        refine JQ.go ?_
        refine JC.seq ?_
        refine JC.region (by rfl) ?_
        intro hQ
        refine JL.fieldAddr fo_30_1 rfl .none rfl ?_
        refine JL.loadOwn 1 az_27 rfl rfl rfl .none rfl ?_
        refine JL.lenSL (R := R_Span) ul_27 (SL.mono R_Span_mono hs4 hd_7) .none rfl ?_
        refine JL.assign .none rfl ?_
        refine JL.done hQ ?_
        refine JQ.go ?_
        refine JC.seq ?_
        refine JC.region (by rfl) ?_
        intro hQ
        refine JL.loadOwn 1 az_30 rfl rfl rfl .none rfl ?_
        obtain ⟨y14, hy14, hF⟩ := bind_some hF
        refine JL.callXC (x_ref05_Copy n H4 d d_v0 (SL.mono R_Section_mono hs4 hd_0) d_v7 (SL.mono R_Span_mono hs4 hd_7) d_v8 (SL.mono RInt.mono hs4 hd_8) y14 hy14) rfl en_13 .none rfl ?_
        rintro H15 vv16 _ hs15 ⟨y14_v0, y14_v1, y14_xs1, y14_v2, y14_xs2, rfl, rfl, hy14_0, hy14_1, hy14_2⟩
        refine JL.alloc ze_30 .none rfl ?_
        intro b19
        refine JL.oneG 1 rfl (fun ho20 => ?_)
        refine JL.oneG 0 rfl (fun ho21 => ?_)
        refine JL.storeOwn 0 (cs := [y14_v0, .int .i64 y14.Frame.Low, .int .i64 y14.Frame.High, .int .i64 y14.Frame.Ease.Num, .int .i64 y14.Frame.Ease.Den, .int .i64 y14.Frame.Rod, .int .i64 y14.Frame.Case, y14_v1, y14_v2]) az_30 rfl rfl rfl (one_cons (SL.one hy14_0) (one_cons rfl (one_cons rfl (one_cons rfl (one_cons rfl (one_cons rfl (one_cons rfl (one_cons ho20.1 (one_cons ho21.1 one_nil))))))))) rfl rfl .none ?_
        refine JL.done hQ ?_
        refine JQ.go ?_
        refine JC.seq ?_
        refine JC.seq ?_
        refine JC.region (by rfl) ?_
        intro hQ
        refine JL.assign .none rfl ?_
        refine JL.done hQ ?_
        refine JQ.go ?_
        obtain ⟨r206, hlr206, hKr206⟩ := bind_some hF
        refine JC.join (fun (out_204 : List Span) H205 f bs gs => ∃ (vout_204 : Value) (xsout_204 : List Value), f 2 = .int .i64 by_ ∧ f 3 = .pointer (some ⟨b1, 0, none⟩) ∧ f 4 = .pointer (some ⟨b2, 0, none⟩) ∧ f 7 = .int .i64 (d.Ribs.length : Int) ∧ f 8 = .pointer (some ⟨b19, 0, none⟩) ∧ bs = [(b19, .cells [y14_v0, .int .i64 y14.Frame.Low, .int .i64 y14.Frame.High, .int .i64 y14.Frame.Ease.Num, .int .i64 y14.Frame.Ease.Den, .int .i64 y14.Frame.Rod, .int .i64 y14.Frame.Case, vout_204, y14_v2].toArray 30), (b2, .cells [.int .i64 g.Force, .int .i64 g.At].toArray 32), (b1, .cells [d_v0, .int .i64 d.Frame.Low, .int .i64 d.Frame.High, .int .i64 d.Frame.Ease.Num, .int .i64 d.Frame.Ease.Den, .int .i64 d.Frame.Rod, .int .i64 d.Frame.Case, d_v7, d_v8].toArray 30)] ∧ gs = [⟨y14_v2, 3, 1, y14.Shares.length, y14_xs2⟩, ⟨vout_204, 38, 2, out_204.length, xsout_204⟩] ∧ CH H205 2 R_Span xsout_204 out_204 ∧ HSub H15 H205 ∧ out_204 = r206) ?_ ?_
        · skip
          refine JC.block ?_
          refine JC.loop hlr206 (fun (x : Int × List Span) H329 f bs gs => match x with | (i_327, out_328) => ∃ (vout_328 : Value) (xsout_328 : List Value), f 2 = .int .i64 by_ ∧ f 3 = .pointer (some ⟨b1, 0, none⟩) ∧ f 4 = .pointer (some ⟨b2, 0, none⟩) ∧ f 7 = .int .i64 (d.Ribs.length : Int) ∧ f 8 = .pointer (some ⟨b19, 0, none⟩) ∧ f 9 = .int .i64 i_327 ∧ bs = [(b19, .cells [y14_v0, .int .i64 y14.Frame.Low, .int .i64 y14.Frame.High, .int .i64 y14.Frame.Ease.Num, .int .i64 y14.Frame.Ease.Den, .int .i64 y14.Frame.Rod, .int .i64 y14.Frame.Case, vout_328, y14_v2].toArray 30), (b2, .cells [.int .i64 g.Force, .int .i64 g.At].toArray 32), (b1, .cells [d_v0, .int .i64 d.Frame.Low, .int .i64 d.Frame.High, .int .i64 d.Frame.Ease.Num, .int .i64 d.Frame.Ease.Den, .int .i64 d.Frame.Rod, .int .i64 d.Frame.Case, d_v7, d_v8].toArray 30)] ∧ gs = [⟨y14_v2, 3, 1, y14.Shares.length, y14_xs2⟩, ⟨vout_328, 38, 2, out_328.length, xsout_328⟩] ∧ CH H329 2 R_Span xsout_328 out_328 ∧ HSub H15 H329) ⟨y14_v1, y14_xs1, rfl, rfl, rfl, rfl, rfl, rfl, rfl, rfl, hy14_1, (HSub.refl _)⟩ ?_
          rintro ⟨i_327, out_328⟩ x331 H329 f bs gs ⟨vout_328, xsout_328, hf2, hf3, hf4, hf7, hf8, hf9, rfl, rfl, hout_328, hs329⟩ hF hr330
          rw [F_law05_GustsTurned_s1] at hF
          refine (JC.norm (i := 2) hf2 (JC.norm (i := 3) hf3 (JC.norm (i := 4) hf4 (JC.norm (i := 7) hf7 (JC.norm (i := 8) hf8 (JC.norm (i := 9) hf9 ?_))))))
          refine JC.seq ?_
          refine JC.seq ?_
          refine JC.region (by rfl) ?_
          intro hQ
          refine JL.move .none rfl ?_
          refine JL.move .none rfl ?_
          refine JL.bin rfl rfl rfl .none rfl ?_
          refine JL.done hQ ?_
          refine JQ.go ?_
          rcases ite_some hF with ⟨hc332, hF⟩ | ⟨hc332, hF⟩
          · refine JC.cond_t (b := decide (i_327 < (d.Ribs.length : Int))) rfl hc332 ?_
            refine JC.skip ?_
            refine JQ.go ?_
            refine JC.seq ?_
            refine JC.block ?_
            obtain ⟨u342, hu342, hF⟩ := bind_some hF
            obtain ⟨y343, hy343, hF⟩ := bind_some hF
            obtain ⟨y348, hy348, hF⟩ := bind_some hF
            refine JC.mixed 13 14 #[false, false, false, false, false, false, false, false, false, false, false, false, false, false] [(b19, .cells [y14_v0, .int .i64 y14.Frame.Low, .int .i64 y14.Frame.High, .int .i64 y14.Frame.Ease.Num, .int .i64 y14.Frame.Ease.Den, .int .i64 y14.Frame.Rod, .int .i64 y14.Frame.Case, vout_328, y14_v2].toArray 30), (b2, .cells [.int .i64 g.Force, .int .i64 g.At].toArray 32), (b1, .cells [d_v0, .int .i64 d.Frame.Low, .int .i64 d.Frame.High, .int .i64 d.Frame.Ease.Num, .int .i64 d.Frame.Ease.Den, .int .i64 d.Frame.Rod, .int .i64 d.Frame.Case, d_v7, d_v8].toArray 30)] (by rfl) mo_ (by kernel_rfl) (by kernel_rfl) ?_
            intro hQ hE
            refine JA.take 0 (listed' := #[true, false, false, false, false, false, false, false, false, false, false, false, false, false]) hQ rfl (by kernel_rfl) (by kernel_rfl) (by kernel_rfl) (by kernel_rfl) (by kernel_rfl) hE (HSub.refl _) (.cons_cons _ (.cons_cons _ (.cons_cons _ (List.nil_sublist _)))) ?_
            refine JL.fieldAddr fo_30_1 rfl .none rfl ?_
            refine JA.cont ?_
            refine JA.take 1 (listed' := #[true, true, false, false, false, false, false, false, false, false, false, false, false, false]) hQ rfl (by kernel_rfl) (by kernel_rfl) (by kernel_rfl) (by kernel_rfl) (by kernel_rfl) hE (HSub.refl _) (.cons_cons _ (.cons_cons _ (.cons_cons _ (List.nil_sublist _)))) ?_
            refine JL.loadOwn 0 az_27 rfl rfl rfl .none rfl ?_
            refine JA.cont ?_
            refine JA.take 2 (listed' := #[true, true, true, false, false, false, false, false, false, false, false, false, false, false]) hQ rfl (by kernel_rfl) (by kernel_rfl) (by kernel_rfl) (by kernel_rfl) (by kernel_rfl) hE (HSub.refl _) (.cons_cons _ (.cons_cons _ (.cons_cons _ (List.nil_sublist _)))) ?_
            refine JL.move .none rfl ?_
            refine JA.cont ?_
            refine JA.take 3 (listed' := #[true, true, true, true, false, false, false, false, false, false, false, false, false, false]) hQ rfl (by kernel_rfl) (by kernel_rfl) (by kernel_rfl) (by kernel_rfl) (by kernel_rfl) hE (HSub.refl _) (.cons_cons _ (.cons_cons _ (.cons_cons _ (List.nil_sublist _)))) ?_
            refine JL.fieldAddr fo_30_1 rfl .none rfl ?_
            refine JA.cont ?_
            refine JA.take 4 (listed' := #[true, true, true, true, true, false, false, false, false, false, false, false, false, false]) hQ rfl (by kernel_rfl) (by kernel_rfl) (by kernel_rfl) (by kernel_rfl) (by kernel_rfl) hE (HSub.refl _) (.cons_cons _ (.cons_cons _ (.cons_cons _ (List.nil_sublist _)))) ?_
            refine JL.loadOwn 2 az_27 rfl rfl rfl .none rfl ?_
            refine JA.cont ?_
            refine JA.take 5 (listed' := #[true, true, true, true, true, true, false, false, false, false, false, false, false, false]) hQ rfl (by kernel_rfl) (by kernel_rfl) (by kernel_rfl) (by kernel_rfl) (by kernel_rfl) hE (HSub.refl _) (.cons_cons _ (.cons_cons _ (.cons_cons _ (List.nil_sublist _)))) ?_
            refine JL.move .none rfl ?_
            refine JA.cont ?_
            refine JA.take 6 (listed' := #[true, true, true, true, true, true, true, false, false, false, false, false, false, false]) hQ rfl (by kernel_rfl) (by kernel_rfl) (by kernel_rfl) (by kernel_rfl) (by kernel_rfl) hE (HSub.refl _) (.cons_cons _ (.cons_cons _ (.cons_cons _ (List.nil_sublist _)))) ?_
            refine JL.move .none rfl ?_
            refine JA.cont ?_
            refine JA.take 7 (listed' := #[true, true, true, true, true, true, true, true, false, false, false, false, false, false]) hQ rfl (by kernel_rfl) (by kernel_rfl) (by kernel_rfl) (by kernel_rfl) (by kernel_rfl) hE (HSub.refl _) (.cons_cons _ (.cons_cons _ (.cons_cons _ (List.nil_sublist _)))) ?_
            refine JL.bin rfl rfl rfl .none rfl ?_
            refine JA.cont ?_
            refine JA.take 8 (listed' := #[true, true, true, true, true, true, true, true, true, false, false, false, false, false]) hQ rfl (by kernel_rfl) (by kernel_rfl) (by kernel_rfl) (by kernel_rfl) (by kernel_rfl) hE (HSub.refl _) (.cons_cons _ (.cons_cons _ (.cons_cons _ (List.nil_sublist _)))) ?_
            refine JL.move .none rfl ?_
            refine JA.cont ?_
            refine JA.take 9 (listed' := #[true, true, true, true, true, true, true, true, true, true, false, false, false, false]) hQ rfl (by kernel_rfl) (by kernel_rfl) (by kernel_rfl) (by kernel_rfl) (by kernel_rfl) hE (HSub.refl _) (.cons_cons _ (.cons_cons _ (.cons_cons _ (List.nil_sublist _)))) ?_
            refine JL.div rfl rfl (nz_some hu342) rfl .none rfl ?_
            refine JA.cont ?_
            refine JA.take 10 (listed' := #[true, true, true, true, true, true, true, true, true, true, true, false, false, false]) hQ rfl (by kernel_rfl) (by kernel_rfl) (by kernel_rfl) (by kernel_rfl) (by kernel_rfl) hE (HSub.refl _) (.cons_cons _ (.cons_cons _ (.cons_cons _ (List.nil_sublist _)))) ?_
            refine JL.indexSL (R := R_Span) sl_27 (SL.mono R_Span_mono (HSub.trans hs4 (HSub.trans hs15 hs329)) hd_7) rfl hy343 .none rfl ?_
            rintro b381 o382 cs383 hc384 - rfl
            refine JA.cont ?_
            refine JA.take 11 (listed' := #[true, true, true, true, true, true, true, true, true, true, true, true, false, false]) hQ rfl (by kernel_rfl) (by kernel_rfl) (by kernel_rfl) (by kernel_rfl) (by kernel_rfl) hE (HSub.refl _) (.cons_cons _ (.cons_cons _ (.cons_cons _ (List.nil_sublist _)))) ?_
            refine JL.loadH 0 az_38 rfl hc384 rfl .none rfl ?_
            refine JA.cont ?_
            refine JA.many [12] (by kernel_rfl) (by simp) (all_one ⟨_, #[true, true, true, true, true, true, true, true, true, true, true, true, true, false], rfl, (by kernel_rfl), ?_⟩)
            refine JL.indexG 1 (l := out_328) sl_27 rfl rfl rfl rfl hy348 .none rfl ?_
            intro b385 hb386
            refine JA.after hE (HSub.refl _) (.cons_cons _ (.cons_cons _ (.cons_cons _ (List.nil_sublist _)))) ?_
            refine JA.many [13] (by kernel_rfl) (by simp) (all_one ⟨_, #[true, true, true, true, true, true, true, true, true, true, true, true, true, true], rfl, (by kernel_rfl), ?_⟩)
            refine JL.storeG (R := R_Span) 1 (i := i_327) (l := out_328) (y := y348) (y' := y343) (off := 0) az_38 rfl rfl rfl rfl (one_cons rfl (one_cons rfl one_nil)) rfl hb386 hout_328 rfl hy348 rfl (by rintro cs rfl; rfl) .none ?_
            intro xs387 hch388
            refine JA.sink (by kernel_rfl) ?_
            refine JA.done hQ (by kernel_rfl) ?_
            refine JQ.normal_block ?_
            refine JQ.go ?_
            refine JC.fresh (fun f => f 2 = .int .i64 by_ ∧ f 3 = .pointer (some ⟨b1, 0, none⟩) ∧ f 4 = .pointer (some ⟨b2, 0, none⟩) ∧ f 7 = .int .i64 (d.Ribs.length : Int) ∧ f 8 = .pointer (some ⟨b19, 0, none⟩) ∧ f 9 = .int .i64 i_327) ⟨rfl, rfl, rfl, rfl, rfl, rfl⟩ ?_
            rintro f ⟨hf2, hf3, hf4, hf7, hf8, hf9⟩
            refine (JC.norm (i := 2) hf2 (JC.norm (i := 3) hf3 (JC.norm (i := 4) hf4 (JC.norm (i := 7) hf7 (JC.norm (i := 8) hf8 (JC.norm (i := 9) hf9 ?_))))))
            refine JC.region (by rfl) ?_
            intro hQ
            refine JL.move .none rfl ?_
            refine JL.bin rfl rfl rfl .none rfl ?_
            refine JL.assign .none rfl ?_
            refine JL.done hQ ?_
            obtain rfl := Option.some.inj hF
            exact JQ.next rfl ⟨vout_328, xs387, rfl, rfl, rfl, rfl, rfl, rfl, rfl, rfl, hch388, hs329⟩
          · refine JC.cond_f (b := decide (i_327 < (d.Ribs.length : Int))) rfl hc332 ?_
            refine JC.exit ?_
            refine JQ.exit_then ?_
            refine JQ.exit_then ?_
            refine JQ.exit_block ?_
            obtain rfl := Option.some.inj hF
            have ehr330 := hr330 _ rfl
            subst ehr330
            exact JQ.join out_328 ⟨vout_328, xsout_328, rfl, rfl, rfl, rfl, rfl, rfl, rfl, hout_328, hs329, rfl⟩
        · rintro out_204 H205 f bs gs ⟨vout_204, xsout_204, hf2, hf3, hf4, hf7, hf8, rfl, rfl, hout_204, hs205, rfl⟩
          have hF := hKr206
          try dsimp only at hF
          refine (JQ.norm (i := 2) hf2 (JQ.norm (i := 3) hf3 (JQ.norm (i := 4) hf4 (JQ.norm (i := 7) hf7 (JQ.norm (i := 8) hf8 ?_)))))
          refine JQ.go ?_
          refine JC.seq ?_
          obtain ⟨u391, hu391, hF⟩ := bind_some hF
          obtain ⟨u392, hu392, hF⟩ := bind_some hF
          refine JC.mixed 15 15 #[false, false, false, false, false, false, false, false, false, false, false, false, false, false, false] [(b19, .cells [y14_v0, .int .i64 y14.Frame.Low, .int .i64 y14.Frame.High, .int .i64 y14.Frame.Ease.Num, .int .i64 y14.Frame.Ease.Den, .int .i64 y14.Frame.Rod, .int .i64 y14.Frame.Case, vout_204, y14_v2].toArray 30), (b2, .cells [.int .i64 g.Force, .int .i64 g.At].toArray 32), (b1, .cells [d_v0, .int .i64 d.Frame.Low, .int .i64 d.Frame.High, .int .i64 d.Frame.Ease.Num, .int .i64 d.Frame.Ease.Den, .int .i64 d.Frame.Rod, .int .i64 d.Frame.Case, d_v7, d_v8].toArray 30)] (by rfl) mo_ (by kernel_rfl) (by kernel_rfl) ?_
          intro hQ hE
          refine JA.take 0 (listed' := #[true, false, false, false, false, false, false, false, false, false, false, false, false, false, false]) hQ rfl (by kernel_rfl) (by kernel_rfl) (by kernel_rfl) (by kernel_rfl) (by kernel_rfl) hE (HSub.refl _) (.cons_cons _ (.cons_cons _ (.cons_cons _ (List.nil_sublist _)))) ?_
          refine JL.fieldAddr fo_32_0 rfl .none rfl ?_
          refine JA.cont ?_
          refine JA.take 1 (listed' := #[true, true, false, false, false, false, false, false, false, false, false, false, false, false, false]) hQ rfl (by kernel_rfl) (by kernel_rfl) (by kernel_rfl) (by kernel_rfl) (by kernel_rfl) hE (HSub.refl _) (.cons_cons _ (.cons_cons _ (.cons_cons _ (List.nil_sublist _)))) ?_
          refine JL.loadOwn 1 az_3 rfl rfl rfl .none rfl ?_
          refine JA.cont ?_
          refine JA.take 2 (listed' := #[true, true, true, false, false, false, false, false, false, false, false, false, false, false, false]) hQ rfl (by kernel_rfl) (by kernel_rfl) (by kernel_rfl) (by kernel_rfl) (by kernel_rfl) hE (HSub.refl _) (.cons_cons _ (.cons_cons _ (.cons_cons _ (List.nil_sublist _)))) ?_
          refine JL.fieldAddr fo_32_1 rfl .none rfl ?_
          refine JA.cont ?_
          refine JA.take 3 (listed' := #[true, true, true, true, false, false, false, false, false, false, false, false, false, false, false]) hQ rfl (by kernel_rfl) (by kernel_rfl) (by kernel_rfl) (by kernel_rfl) (by kernel_rfl) hE (HSub.refl _) (.cons_cons _ (.cons_cons _ (.cons_cons _ (List.nil_sublist _)))) ?_
          refine JL.loadOwn 1 az_3 rfl rfl rfl .none rfl ?_
          refine JA.cont ?_
          refine JA.take 4 (listed' := #[true, true, true, true, true, false, false, false, false, false, false, false, false, false, false]) hQ rfl (by kernel_rfl) (by kernel_rfl) (by kernel_rfl) (by kernel_rfl) (by kernel_rfl) hE (HSub.refl _) (.cons_cons _ (.cons_cons _ (.cons_cons _ (List.nil_sublist _)))) ?_
          refine JL.move .none rfl ?_
          refine JA.cont ?_
          refine JA.take 5 (listed' := #[true, true, true, true, true, true, false, false, false, false, false, false, false, false, false]) hQ rfl (by kernel_rfl) (by kernel_rfl) (by kernel_rfl) (by kernel_rfl) (by kernel_rfl) hE (HSub.refl _) (.cons_cons _ (.cons_cons _ (.cons_cons _ (List.nil_sublist _)))) ?_
          refine JL.move .none rfl ?_
          refine JA.cont ?_
          refine JA.take 6 (listed' := #[true, true, true, true, true, true, true, false, false, false, false, false, false, false, false]) hQ rfl (by kernel_rfl) (by kernel_rfl) (by kernel_rfl) (by kernel_rfl) (by kernel_rfl) hE (HSub.refl _) (.cons_cons _ (.cons_cons _ (.cons_cons _ (List.nil_sublist _)))) ?_
          refine JL.div rfl rfl (nz_some hu391) rfl .none rfl ?_
          refine JA.cont ?_
          refine JA.take 7 (listed' := #[true, true, true, true, true, true, true, true, false, false, false, false, false, false, false]) hQ rfl (by kernel_rfl) (by kernel_rfl) (by kernel_rfl) (by kernel_rfl) (by kernel_rfl) hE (HSub.refl _) (.cons_cons _ (.cons_cons _ (.cons_cons _ (List.nil_sublist _)))) ?_
          refine JL.bin rfl rfl rfl .none rfl ?_
          refine JA.cont ?_
          refine JA.take 8 (listed' := #[true, true, true, true, true, true, true, true, true, false, false, false, false, false, false]) hQ rfl (by kernel_rfl) (by kernel_rfl) (by kernel_rfl) (by kernel_rfl) (by kernel_rfl) hE (HSub.refl _) (.cons_cons _ (.cons_cons _ (.cons_cons _ (List.nil_sublist _)))) ?_
          refine JL.move .none rfl ?_
          refine JA.cont ?_
          refine JA.take 9 (listed' := #[true, true, true, true, true, true, true, true, true, true, false, false, false, false, false]) hQ rfl (by kernel_rfl) (by kernel_rfl) (by kernel_rfl) (by kernel_rfl) (by kernel_rfl) hE (HSub.refl _) (.cons_cons _ (.cons_cons _ (.cons_cons _ (List.nil_sublist _)))) ?_
          refine JL.bin rfl rfl rfl .none rfl ?_
          refine JA.cont ?_
          refine JA.take 10 (listed' := #[true, true, true, true, true, true, true, true, true, true, true, false, false, false, false]) hQ rfl (by kernel_rfl) (by kernel_rfl) (by kernel_rfl) (by kernel_rfl) (by kernel_rfl) hE (HSub.refl _) (.cons_cons _ (.cons_cons _ (.cons_cons _ (List.nil_sublist _)))) ?_
          refine JL.move .none rfl ?_
          refine JA.cont ?_
          refine JA.take 11 (listed' := #[true, true, true, true, true, true, true, true, true, true, true, true, false, false, false]) hQ rfl (by kernel_rfl) (by kernel_rfl) (by kernel_rfl) (by kernel_rfl) (by kernel_rfl) hE (HSub.refl _) (.cons_cons _ (.cons_cons _ (.cons_cons _ (List.nil_sublist _)))) ?_
          refine JL.div rfl rfl (nz_some hu392) rfl .none rfl ?_
          refine JA.cont ?_
          refine JA.take 12 (listed' := #[true, true, true, true, true, true, true, true, true, true, true, true, true, false, false]) hQ rfl (by kernel_rfl) (by kernel_rfl) (by kernel_rfl) (by kernel_rfl) (by kernel_rfl) hE (HSub.refl _) (.cons_cons _ (.cons_cons _ (.cons_cons _ (List.nil_sublist _)))) ?_
          refine JL.build (l := [.int .i64 g.Force, .int .i64 ((w64 ((w64 (g.At - (by_.tmod (d.Ribs.length : Int)))) + (d.Ribs.length : Int))).tmod (d.Ribs.length : Int))]) (by kernel_rfl) .none rfl ?_
          refine JA.cont ?_
          refine JA.many [13] (by kernel_rfl) (by simp) (all_one ⟨_, #[true, true, true, true, true, true, true, true, true, true, true, true, true, true, false], rfl, (by kernel_rfl), ?_⟩)
          refine JL.alloc ze_32 .none rfl ?_
          intro b395
          refine JA.after hE (HSub.refl _) (.cons _ (.cons_cons _ (.cons_cons _ (.cons_cons _ (List.nil_sublist _))))) ?_
          refine JA.many [14] (by kernel_rfl) (by simp) (all_one ⟨_, #[true, true, true, true, true, true, true, true, true, true, true, true, true, true, true], rfl, (by kernel_rfl), ?_⟩)
          refine JL.storeOwn 0 (cs := [.int .i64 g.Force, .int .i64 ((w64 ((w64 (g.At - (by_.tmod (d.Ribs.length : Int)))) + (d.Ribs.length : Int))).tmod (d.Ribs.length : Int))]) az_32 rfl rfl rfl (one_cons rfl (one_cons rfl one_nil)) rfl rfl .none ?_
          refine JA.after hE (HSub.refl _) (.cons _ (.cons_cons _ (.cons_cons _ (.cons_cons _ (List.nil_sublist _))))) ?_
          refine JA.done hQ (by kernel_rfl) ?_
          refine JQ.go ?_
          refine JC.fresh (fun f => f 2 = .int .i64 by_ ∧ f 3 = .pointer (some ⟨b1, 0, none⟩) ∧ f 4 = .pointer (some ⟨b2, 0, none⟩) ∧ f 7 = .int .i64 (d.Ribs.length : Int) ∧ f 8 = .pointer (some ⟨b19, 0, none⟩) ∧ f 10 = .pointer (some ⟨b395, 0, none⟩)) ⟨rfl, rfl, rfl, rfl, rfl, rfl⟩ ?_
          rintro f ⟨hf2, hf3, hf4, hf7, hf8, hf10⟩
          refine (JC.norm (i := 2) hf2 (JC.norm (i := 3) hf3 (JC.norm (i := 4) hf4 (JC.norm (i := 7) hf7 (JC.norm (i := 8) hf8 (JC.norm (i := 10) hf10 ?_))))))
          refine JC.seq ?_
          refine JC.region (by rfl) ?_
          intro hQ
          refine JL.loadOwn 3 az_30 rfl rfl rfl .none rfl ?_
          refine JL.loadOwn 2 az_32 rfl rfl rfl .none rfl ?_
          obtain ⟨y396, hy396, hF⟩ := bind_some hF
          refine JL.callH (c_gusts_Goes n H205 d d_v0 (SL.mono R_Section_mono (HSub.trans hs4 (HSub.trans hs15 hs205)) hd_0) d_v7 (SL.mono R_Span_mono (HSub.trans hs4 (HSub.trans hs15 hs205)) hd_7) d_v8 (SL.mono RInt.mono (HSub.trans hs4 (HSub.trans hs15 hs205)) hd_8) g y396 hy396) rfl en_14 .none rfl ?_
          rintro H397 vv398 hs397 ⟨y396a_v0, y396b_v0, rfl, hy396a_0, hy396b_0⟩
          refine JL.move .none rfl ?_
          refine JL.extract rfl rfl .none rfl ?_
          refine JL.extract rfl rfl .none rfl ?_
          refine JL.extract rfl rfl .none rfl ?_
          refine JL.assign .none rfl ?_
          refine JL.assign .none rfl ?_
          refine JL.assign .none rfl ?_
          refine JL.done hQ ?_
          refine JQ.go ?_
          refine JC.fresh (fun f => f 2 = .int .i64 by_ ∧ f 7 = .int .i64 (d.Ribs.length : Int) ∧ f 8 = .pointer (some ⟨b19, 0, none⟩) ∧ f 10 = .pointer (some ⟨b395, 0, none⟩) ∧ f 11 = y396a_v0 ∧ f 12 = y396b_v0 ∧ f 13 = .int .i64 y396.2.2) ⟨rfl, rfl, rfl, rfl, rfl, rfl, rfl⟩ ?_
          rintro f ⟨hf2, hf7, hf8, hf10, hf11, hf12, hf13⟩
          refine (JC.norm (i := 2) hf2 (JC.norm (i := 7) hf7 (JC.norm (i := 8) hf8 (JC.norm (i := 10) hf10 (JC.norm (i := 11) hf11 (JC.norm (i := 12) hf12 (JC.norm (i := 13) hf13 ?_)))))))
          refine JC.seq ?_
          refine JC.region (by rfl) ?_
          intro hQ
          refine JL.loadOwn 1 az_30 rfl rfl rfl .none rfl ?_
          refine JL.loadOwn 0 az_32 rfl rfl rfl .none rfl ?_
          refine JL.freezeG 1 (R := R_Span) rfl R_Span_mono (CH.mono R_Span_mono hs397 hout_204) rfl ?_
          intro H399 hs399 hg400
          refine JL.freezeG 0 (R := RInt) rfl RInt.mono (CH.mono RInt.mono (HSub.trans hs205 (HSub.trans hs397 hs399)) hy14_2) rfl ?_
          intro H401 hs401 hg402
          obtain ⟨y403, hy403, hF⟩ := bind_some hF
          refine JL.callH (c_gusts_Goes n H401 (Canopy.mk y14.Frame out_204 y14.Shares) y14_v0 (SL.mono R_Section_mono (HSub.trans hs205 (HSub.trans hs397 (HSub.trans hs399 hs401))) hy14_0) vout_204 (SL.mono R_Span_mono hs401 hg400) y14_v2 hg402 (Gust.mk g.Force ((w64 ((w64 (g.At - (by_.tmod (d.Ribs.length : Int)))) + (d.Ribs.length : Int))).tmod (d.Ribs.length : Int))) y403 hy403) rfl en_14 .none rfl ?_
          rintro H404 vv405 hs404 ⟨y403a_v0, y403b_v0, rfl, hy403a_0, hy403b_0⟩
          refine JL.move .none rfl ?_
          refine JL.extract rfl rfl .none rfl ?_
          refine JL.extract rfl rfl .none rfl ?_
          refine JL.extract rfl rfl .none rfl ?_
          refine JL.assign .none rfl ?_
          refine JL.assign .none rfl ?_
          refine JL.assign .none rfl ?_
          refine JL.done hQ ?_
          refine JQ.go ?_
          refine JC.fresh (fun f => f 2 = .int .i64 by_ ∧ f 7 = .int .i64 (d.Ribs.length : Int) ∧ f 11 = y396a_v0 ∧ f 12 = y396b_v0 ∧ f 13 = .int .i64 y396.2.2 ∧ f 14 = y403a_v0 ∧ f 15 = y403b_v0 ∧ f 16 = .int .i64 y403.2.2) ⟨rfl, rfl, rfl, rfl, rfl, rfl, rfl, rfl⟩ ?_
          rintro f ⟨hf2, hf7, hf11, hf12, hf13, hf14, hf15, hf16⟩
          refine (JC.norm (i := 2) hf2 (JC.norm (i := 7) hf7 (JC.norm (i := 11) hf11 (JC.norm (i := 12) hf12 (JC.norm (i := 13) hf13 (JC.norm (i := 14) hf14 (JC.norm (i := 15) hf15 (JC.norm (i := 16) hf16 ?_))))))))
          refine JC.seq ?_
          refine JC.seq ?_
          refine JC.region (by rfl) ?_
          intro hQ
          refine JL.move .none rfl ?_
          refine JL.bin rfl rfl rfl .none rfl ?_
          refine JL.move .none rfl ?_
          refine JL.cut 3 (fun f => f 2 = .int .i64 by_ ∧ f 7 = .int .i64 (d.Ribs.length : Int) ∧ f 11 = y396a_v0 ∧ f 12 = y396b_v0 ∧ f 14 = y403a_v0 ∧ f 15 = y403b_v0 ∧ f 88 = .bool ((y396.2.2 != 0) || (y403.2.2 != 0))) ?_ ?_
          · intro hJ406
            rcases bcases (y396.2.2 != 0) with hc407 | hc407
            · skip
              refine JL.skip (.bool rfl rfl rfl hc407) rfl ?_
              refine JL.skip (.bool rfl rfl rfl hc407) rfl ?_
              refine JL.pick_t (b := (y396.2.2 != 0)) rfl hc407 .none rfl ?_
              exact hJ406 _ ⟨rfl, rfl, rfl, rfl, rfl, rfl, or_t hc407 rfl⟩
            · skip
              refine JL.move (.some rfl rfl rfl hc407) rfl ?_
              refine JL.bin rfl rfl rfl (.some rfl rfl rfl hc407) rfl ?_
              refine JL.pick_f (b := (y396.2.2 != 0)) rfl hc407 .none rfl ?_
              exact hJ406 _ ⟨rfl, rfl, rfl, rfl, rfl, rfl, or_f hc407 rfl⟩
          · rintro f ⟨hf2, hf7, hf11, hf12, hf14, hf15, hf88⟩
            refine (JL.norm (i := 2) hf2 (JL.norm (i := 7) hf7 (JL.norm (i := 11) hf11 (JL.norm (i := 12) hf12 (JL.norm (i := 14) hf14 (JL.norm (i := 15) hf15 (JL.norm (i := 88) hf88 ?_)))))))
            refine JL.move .none rfl ?_
            refine JL.cut 6 (fun f => f 2 = .int .i64 by_ ∧ f 7 = .int .i64 (d.Ribs.length : Int) ∧ f 11 = y396a_v0 ∧ f 12 = y396b_v0 ∧ f 14 = y403a_v0 ∧ f 15 = y403b_v0 ∧ f 95 = .bool (((y396.2.2 != 0) || (y403.2.2 != 0)) || ((y396.1.length : Int) != (y403.1.length : Int)))) ?_ ?_
            · intro hJ408
              rcases bcases ((y396.2.2 != 0) || (y403.2.2 != 0)) with hc409 | hc409
              · skip
                refine JL.skip (.bool rfl rfl rfl hc409) rfl ?_
                refine JL.skip (.bool rfl rfl rfl hc409) rfl ?_
                refine JL.skip (.bool rfl rfl rfl hc409) rfl ?_
                refine JL.skip (.bool rfl rfl rfl hc409) rfl ?_
                refine JL.skip (.bool rfl rfl rfl hc409) rfl ?_
                refine JL.pick_t (b := ((y396.2.2 != 0) || (y403.2.2 != 0))) rfl hc409 .none rfl ?_
                exact hJ408 _ ⟨rfl, rfl, rfl, rfl, rfl, rfl, or_t hc409 rfl⟩
              · skip
                refine JL.move (.some rfl rfl rfl hc409) rfl ?_
                refine JL.lenSL (R := RInt) ul_28 (SL.mono RInt.mono (HSub.trans hs399 (HSub.trans hs401 hs404)) hy396a_0) (.some rfl rfl rfl hc409) rfl ?_
                refine JL.move (.some rfl rfl rfl hc409) rfl ?_
                refine JL.lenSL (R := RInt) ul_28 hy403a_0 (.some rfl rfl rfl hc409) rfl ?_
                refine JL.bin rfl rfl rfl (.some rfl rfl rfl hc409) rfl ?_
                refine JL.pick_f (b := ((y396.2.2 != 0) || (y403.2.2 != 0))) rfl hc409 .none rfl ?_
                exact hJ408 _ ⟨rfl, rfl, rfl, rfl, rfl, rfl, or_f hc409 rfl⟩
            · rintro f ⟨hf2, hf7, hf11, hf12, hf14, hf15, hf95⟩
              refine (JL.norm (i := 2) hf2 (JL.norm (i := 7) hf7 (JL.norm (i := 11) hf11 (JL.norm (i := 12) hf12 (JL.norm (i := 14) hf14 (JL.norm (i := 15) hf15 (JL.norm (i := 95) hf95 ?_)))))))
              refine JL.move .none rfl ?_
              refine JL.cut 6 (fun f => f 2 = .int .i64 by_ ∧ f 7 = .int .i64 (d.Ribs.length : Int) ∧ f 11 = y396a_v0 ∧ f 12 = y396b_v0 ∧ f 14 = y403a_v0 ∧ f 15 = y403b_v0 ∧ f 102 = .bool ((((y396.2.2 != 0) || (y403.2.2 != 0)) || ((y396.1.length : Int) != (y403.1.length : Int))) || ((y396.2.1.length : Int) != (y403.2.1.length : Int)))) ?_ ?_
              · intro hJ410
                rcases bcases (((y396.2.2 != 0) || (y403.2.2 != 0)) || ((y396.1.length : Int) != (y403.1.length : Int))) with hc411 | hc411
                · skip
                  refine JL.skip (.bool rfl rfl rfl hc411) rfl ?_
                  refine JL.skip (.bool rfl rfl rfl hc411) rfl ?_
                  refine JL.skip (.bool rfl rfl rfl hc411) rfl ?_
                  refine JL.skip (.bool rfl rfl rfl hc411) rfl ?_
                  refine JL.skip (.bool rfl rfl rfl hc411) rfl ?_
                  refine JL.pick_t (b := (((y396.2.2 != 0) || (y403.2.2 != 0)) || ((y396.1.length : Int) != (y403.1.length : Int)))) rfl hc411 .none rfl ?_
                  exact hJ410 _ ⟨rfl, rfl, rfl, rfl, rfl, rfl, or_t hc411 rfl⟩
                · skip
                  refine JL.move (.some rfl rfl rfl hc411) rfl ?_
                  refine JL.lenSL (R := RInt) ul_28 (SL.mono RInt.mono (HSub.trans hs399 (HSub.trans hs401 hs404)) hy396b_0) (.some rfl rfl rfl hc411) rfl ?_
                  refine JL.move (.some rfl rfl rfl hc411) rfl ?_
                  refine JL.lenSL (R := RInt) ul_28 hy403b_0 (.some rfl rfl rfl hc411) rfl ?_
                  refine JL.bin rfl rfl rfl (.some rfl rfl rfl hc411) rfl ?_
                  refine JL.pick_f (b := (((y396.2.2 != 0) || (y403.2.2 != 0)) || ((y396.1.length : Int) != (y403.1.length : Int)))) rfl hc411 .none rfl ?_
                  exact hJ410 _ ⟨rfl, rfl, rfl, rfl, rfl, rfl, or_f hc411 rfl⟩
              · rintro f ⟨hf2, hf7, hf11, hf12, hf14, hf15, hf102⟩
                refine (JL.norm (i := 2) hf2 (JL.norm (i := 7) hf7 (JL.norm (i := 11) hf11 (JL.norm (i := 12) hf12 (JL.norm (i := 14) hf14 (JL.norm (i := 15) hf15 (JL.norm (i := 102) hf102 ?_)))))))
                refine JL.move .none rfl ?_
                refine JL.cut 5 (fun f => f 2 = .int .i64 by_ ∧ f 7 = .int .i64 (d.Ribs.length : Int) ∧ f 11 = y396a_v0 ∧ f 12 = y396b_v0 ∧ f 14 = y403a_v0 ∧ f 15 = y403b_v0 ∧ f 108 = .bool (((((y396.2.2 != 0) || (y403.2.2 != 0)) || ((y396.1.length : Int) != (y403.1.length : Int))) || ((y396.2.1.length : Int) != (y403.2.1.length : Int))) || (decide ((d.Ribs.length : Int) < (y396.2.1.length : Int))))) ?_ ?_
                · intro hJ412
                  rcases bcases ((((y396.2.2 != 0) || (y403.2.2 != 0)) || ((y396.1.length : Int) != (y403.1.length : Int))) || ((y396.2.1.length : Int) != (y403.2.1.length : Int))) with hc413 | hc413
                  · skip
                    refine JL.skip (.bool rfl rfl rfl hc413) rfl ?_
                    refine JL.skip (.bool rfl rfl rfl hc413) rfl ?_
                    refine JL.skip (.bool rfl rfl rfl hc413) rfl ?_
                    refine JL.skip (.bool rfl rfl rfl hc413) rfl ?_
                    refine JL.pick_t (b := ((((y396.2.2 != 0) || (y403.2.2 != 0)) || ((y396.1.length : Int) != (y403.1.length : Int))) || ((y396.2.1.length : Int) != (y403.2.1.length : Int)))) rfl hc413 .none rfl ?_
                    exact hJ412 _ ⟨rfl, rfl, rfl, rfl, rfl, rfl, or_t hc413 rfl⟩
                  · skip
                    refine JL.move (.some rfl rfl rfl hc413) rfl ?_
                    refine JL.lenSL (R := RInt) ul_28 (SL.mono RInt.mono (HSub.trans hs399 (HSub.trans hs401 hs404)) hy396b_0) (.some rfl rfl rfl hc413) rfl ?_
                    refine JL.move (.some rfl rfl rfl hc413) rfl ?_
                    refine JL.bin rfl rfl rfl (.some rfl rfl rfl hc413) rfl ?_
                    refine JL.pick_f (b := ((((y396.2.2 != 0) || (y403.2.2 != 0)) || ((y396.1.length : Int) != (y403.1.length : Int))) || ((y396.2.1.length : Int) != (y403.2.1.length : Int)))) rfl hc413 .none rfl ?_
                    exact hJ412 _ ⟨rfl, rfl, rfl, rfl, rfl, rfl, or_f hc413 rfl⟩
                · rintro f ⟨hf2, hf7, hf11, hf12, hf14, hf15, hf108⟩
                  refine (JL.norm (i := 2) hf2 (JL.norm (i := 7) hf7 (JL.norm (i := 11) hf11 (JL.norm (i := 12) hf12 (JL.norm (i := 14) hf14 (JL.norm (i := 15) hf15 (JL.norm (i := 108) hf108 ?_)))))))
                  refine JL.move .none rfl ?_
                  refine JL.cut 5 (fun f => f 2 = .int .i64 by_ ∧ f 7 = .int .i64 (d.Ribs.length : Int) ∧ f 11 = y396a_v0 ∧ f 12 = y396b_v0 ∧ f 14 = y403a_v0 ∧ f 15 = y403b_v0 ∧ f 114 = .bool ((((((y396.2.2 != 0) || (y403.2.2 != 0)) || ((y396.1.length : Int) != (y403.1.length : Int))) || ((y396.2.1.length : Int) != (y403.2.1.length : Int))) || (decide ((d.Ribs.length : Int) < (y396.2.1.length : Int)))) || (decide ((d.Ribs.length : Int) < (y396.1.length : Int))))) ?_ ?_
                  · intro hJ414
                    rcases bcases (((((y396.2.2 != 0) || (y403.2.2 != 0)) || ((y396.1.length : Int) != (y403.1.length : Int))) || ((y396.2.1.length : Int) != (y403.2.1.length : Int))) || (decide ((d.Ribs.length : Int) < (y396.2.1.length : Int)))) with hc415 | hc415
                    · skip
                      refine JL.skip (.bool rfl rfl rfl hc415) rfl ?_
                      refine JL.skip (.bool rfl rfl rfl hc415) rfl ?_
                      refine JL.skip (.bool rfl rfl rfl hc415) rfl ?_
                      refine JL.skip (.bool rfl rfl rfl hc415) rfl ?_
                      refine JL.pick_t (b := (((((y396.2.2 != 0) || (y403.2.2 != 0)) || ((y396.1.length : Int) != (y403.1.length : Int))) || ((y396.2.1.length : Int) != (y403.2.1.length : Int))) || (decide ((d.Ribs.length : Int) < (y396.2.1.length : Int))))) rfl hc415 .none rfl ?_
                      exact hJ414 _ ⟨rfl, rfl, rfl, rfl, rfl, rfl, or_t hc415 rfl⟩
                    · skip
                      refine JL.move (.some rfl rfl rfl hc415) rfl ?_
                      refine JL.lenSL (R := RInt) ul_28 (SL.mono RInt.mono (HSub.trans hs399 (HSub.trans hs401 hs404)) hy396a_0) (.some rfl rfl rfl hc415) rfl ?_
                      refine JL.move (.some rfl rfl rfl hc415) rfl ?_
                      refine JL.bin rfl rfl rfl (.some rfl rfl rfl hc415) rfl ?_
                      refine JL.pick_f (b := (((((y396.2.2 != 0) || (y403.2.2 != 0)) || ((y396.1.length : Int) != (y403.1.length : Int))) || ((y396.2.1.length : Int) != (y403.2.1.length : Int))) || (decide ((d.Ribs.length : Int) < (y396.2.1.length : Int))))) rfl hc415 .none rfl ?_
                      exact hJ414 _ ⟨rfl, rfl, rfl, rfl, rfl, rfl, or_f hc415 rfl⟩
                  · rintro f ⟨hf2, hf7, hf11, hf12, hf14, hf15, hf114⟩
                    refine (JL.norm (i := 2) hf2 (JL.norm (i := 7) hf7 (JL.norm (i := 11) hf11 (JL.norm (i := 12) hf12 (JL.norm (i := 14) hf14 (JL.norm (i := 15) hf15 (JL.norm (i := 114) hf114 ?_)))))))
                    refine JL.done hQ ?_
                    refine JQ.go ?_
                    rcases ite_some hF with ⟨hc416, hF⟩ | ⟨hc416, hF⟩
                    · refine JC.cond_t (b := ((((((y396.2.2 != 0) || (y403.2.2 != 0)) || ((y396.1.length : Int) != (y403.1.length : Int))) || ((y396.2.1.length : Int) != (y403.2.1.length : Int))) || (decide ((d.Ribs.length : Int) < (y396.2.1.length : Int)))) || (decide ((d.Ribs.length : Int) < (y396.1.length : Int))))) rfl hc416 ?_
                      refine JC.seq ?_
                      refine JC.region (by rfl) ?_
                      intro hQ
                      refine JL.assign .none rfl ?_
                      refine JL.done hQ ?_
                      refine JQ.go ?_
                      refine JC.ret ?_
                      refine JQ.ret_then ?_
                      obtain rfl := Option.some.inj hF
                      exact JQ.outS rfl (.tmp .nil) rfl
                    · refine JC.cond_f (b := ((((((y396.2.2 != 0) || (y403.2.2 != 0)) || ((y396.1.length : Int) != (y403.1.length : Int))) || ((y396.2.1.length : Int) != (y403.2.1.length : Int))) || (decide ((d.Ribs.length : Int) < (y396.2.1.length : Int)))) || (decide ((d.Ribs.length : Int) < (y396.1.length : Int))))) rfl hc416 ?_
                      refine JC.skip ?_
                      refine JQ.go ?_
                      refine JC.seq ?_
                      refine JC.seq ?_
                      refine JC.region (by rfl) ?_
                      intro hQ
                      refine JL.assign .none rfl ?_
                      refine JL.done hQ ?_
                      refine JQ.go ?_
                      obtain ⟨r537, hlr537, hKr537⟩ := bind_some hF
                      refine JC.join (fun (_ : Unit) H536 f bs gs => f 2 = .int .i64 by_ ∧ f 7 = .int .i64 (d.Ribs.length : Int) ∧ f 12 = y396b_v0 ∧ f 15 = y403b_v0 ∧ bs = [] ∧ gs = [] ∧ HSub H404 H536 ∧ Sum.inr () = r537) ?_ ?_
                      · skip
                        refine JC.block ?_
                        refine JC.mask [false, false, false, false] [] ?_
                        refine JC.loop hlr537 (fun (i_616 : Int) H617 f bs gs => f 2 = .int .i64 by_ ∧ f 7 = .int .i64 (d.Ribs.length : Int) ∧ f 11 = y396a_v0 ∧ f 12 = y396b_v0 ∧ f 14 = y403a_v0 ∧ f 15 = y403b_v0 ∧ f 17 = .int .i64 i_616 ∧ bs = [] ∧ gs = [] ∧ HSub H404 H617) ⟨rfl, rfl, rfl, rfl, rfl, rfl, rfl, rfl, rfl, (HSub.refl _)⟩ ?_
                        rintro i_616 x619 H617 f bs gs ⟨hf2, hf7, hf11, hf12, hf14, hf15, hf17, rfl, rfl, hs617⟩ hF hr618
                        rw [F_law05_GustsTurned_s2] at hF
                        refine (JC.norm (i := 2) hf2 (JC.norm (i := 7) hf7 (JC.norm (i := 11) hf11 (JC.norm (i := 12) hf12 (JC.norm (i := 14) hf14 (JC.norm (i := 15) hf15 (JC.norm (i := 17) hf17 ?_)))))))
                        refine JC.seq ?_
                        refine JC.seq ?_
                        refine JC.region (by rfl) ?_
                        intro hQ
                        refine JL.move .none rfl ?_
                        refine JL.move .none rfl ?_
                        refine JL.lenSL (R := RInt) ul_28 (SL.mono RInt.mono hs617 hy403a_0) .none rfl ?_
                        refine JL.bin rfl rfl rfl .none rfl ?_
                        refine JL.done hQ ?_
                        refine JQ.go ?_
                        rcases ite_some hF with ⟨hc620, hF⟩ | ⟨hc620, hF⟩
                        · refine JC.cond_t (b := decide (i_616 < (y403.1.length : Int))) rfl hc620 ?_
                          refine JC.skip ?_
                          refine JQ.go ?_
                          refine JC.seq ?_
                          refine JC.block ?_
                          refine JC.seq ?_
                          refine JC.region (by rfl) ?_
                          intro hQ
                          refine JL.move .none rfl ?_
                          refine JL.move .none rfl ?_
                          obtain ⟨y621, hy621, hF⟩ := bind_some hF
                          refine JL.indexSL (R := RInt) sl_28 (SL.mono RInt.mono hs617 hy403a_0) rfl hy621 .none rfl ?_
                          rintro b622 o623 cs624 hc625 - rfl
                          refine JL.loadH 0 az_3 rfl hc625 rfl .none rfl ?_
                          refine JL.bin rfl rfl rfl .none rfl ?_
                          refine JL.move .none rfl ?_
                          obtain ⟨p631, hp631, hF⟩ := bind_some hF
                          refine JL.cut 7 (fun f => f 2 = .int .i64 by_ ∧ f 7 = .int .i64 (d.Ribs.length : Int) ∧ f 11 = y396a_v0 ∧ f 12 = y396b_v0 ∧ f 14 = y403a_v0 ∧ f 15 = y403b_v0 ∧ f 17 = .int .i64 i_616 ∧ f 133 = .bool p631) ?_ ?_
                          · intro hJ632
                            rcases ite_some hp631 with ⟨hc633, hF⟩ | ⟨hc633, hF⟩
                            · skip
                              refine JL.skip (.bool rfl rfl rfl hc633) rfl ?_
                              refine JL.skip (.bool rfl rfl rfl hc633) rfl ?_
                              refine JL.skip (.bool rfl rfl rfl hc633) rfl ?_
                              refine JL.skip (.bool rfl rfl rfl hc633) rfl ?_
                              refine JL.skip (.bool rfl rfl rfl hc633) rfl ?_
                              refine JL.skip (.bool rfl rfl rfl hc633) rfl ?_
                              refine JL.pick_t (b := decide (y621 < 0)) rfl hc633 .none rfl ?_
                              obtain rfl := Option.some.inj hF
                              exact hJ632 _ ⟨rfl, rfl, rfl, rfl, rfl, rfl, rfl, rfl⟩
                            · skip
                              refine JL.move (.some rfl rfl rfl hc633) rfl ?_
                              refine JL.move (.some rfl rfl rfl hc633) rfl ?_
                              obtain ⟨y634, hy634, hF⟩ := bind_some hF
                              refine JL.indexSL (R := RInt) sl_28 (SL.mono RInt.mono hs617 hy403a_0) rfl hy634 (.some rfl rfl rfl hc633) rfl ?_
                              rintro b635 o636 cs637 hc638 - rfl
                              refine JL.loadH 0 az_3 rfl hc638 rfl (.some rfl rfl rfl hc633) rfl ?_
                              refine JL.move (.some rfl rfl rfl hc633) rfl ?_
                              refine JL.bin rfl rfl rfl (.some rfl rfl rfl hc633) rfl ?_
                              refine JL.pick_f (b := decide (y621 < 0)) rfl hc633 .none rfl ?_
                              obtain rfl := Option.some.inj hF
                              exact hJ632 _ ⟨rfl, rfl, rfl, rfl, rfl, rfl, rfl, rfl⟩
                          · rintro f ⟨hf2, hf7, hf11, hf12, hf14, hf15, hf17, hf133⟩
                            refine (JL.norm (i := 2) hf2 (JL.norm (i := 7) hf7 (JL.norm (i := 11) hf11 (JL.norm (i := 12) hf12 (JL.norm (i := 14) hf14 (JL.norm (i := 15) hf15 (JL.norm (i := 17) hf17 (JL.norm (i := 133) hf133 ?_))))))))
                            refine JL.move .none rfl ?_
                            obtain ⟨p646, hp646, hF⟩ := bind_some hF
                            refine JL.cut 12 (fun f => f 2 = .int .i64 by_ ∧ f 7 = .int .i64 (d.Ribs.length : Int) ∧ f 11 = y396a_v0 ∧ f 12 = y396b_v0 ∧ f 14 = y403a_v0 ∧ f 15 = y403b_v0 ∧ f 17 = .int .i64 i_616 ∧ f 146 = .bool p646) ?_ ?_
                            · intro hJ647
                              rcases ite_some hp646 with ⟨hc648, hF⟩ | ⟨hc648, hF⟩
                              · skip
                                refine JL.skip (.bool rfl rfl rfl hc648) rfl ?_
                                refine JL.skip (.bool rfl rfl rfl hc648) rfl ?_
                                refine JL.skip (.bool rfl rfl rfl hc648) rfl ?_
                                refine JL.skip (.bool rfl rfl rfl hc648) rfl ?_
                                refine JL.skip (.bool rfl rfl rfl hc648) rfl ?_
                                refine JL.skip (.bool rfl rfl rfl hc648) rfl ?_
                                refine JL.skip (.bool rfl rfl rfl hc648) rfl ?_
                                refine JL.skip (.bool rfl rfl rfl hc648) rfl ?_
                                refine JL.skip (.bool rfl rfl rfl hc648) rfl ?_
                                refine JL.skip (.bool rfl rfl rfl hc648) rfl ?_
                                refine JL.skip (.bool rfl rfl rfl hc648) rfl ?_
                                refine JL.pick_t (b := p631) rfl hc648 .none rfl ?_
                                obtain rfl := Option.some.inj hF
                                exact hJ647 _ ⟨rfl, rfl, rfl, rfl, rfl, rfl, rfl, rfl⟩
                              · skip
                                refine JL.move (.some rfl rfl rfl hc648) rfl ?_
                                refine JL.move (.some rfl rfl rfl hc648) rfl ?_
                                refine JL.move (.some rfl rfl rfl hc648) rfl ?_
                                obtain ⟨y649, hy649, hF⟩ := bind_some hF
                                refine JL.indexSL (R := RInt) sl_28 (SL.mono RInt.mono hs617 hy403a_0) rfl hy649 (.some rfl rfl rfl hc648) rfl ?_
                                rintro b650 o651 cs652 hc653 - rfl
                                refine JL.loadH 0 az_3 rfl hc653 rfl (.some rfl rfl rfl hc648) rfl ?_
                                refine JL.move (.some rfl rfl rfl hc648) rfl ?_
                                refine JL.bin rfl rfl rfl (.some rfl rfl rfl hc648) rfl ?_
                                refine JL.move (.some rfl rfl rfl hc648) rfl ?_
                                obtain ⟨u654, hu654, hF⟩ := bind_some hF
                                refine JL.div rfl rfl (nz_some hu654) rfl (.some rfl rfl rfl hc648) rfl ?_
                                obtain ⟨y655, hy655, hF⟩ := bind_some hF
                                refine JL.callS (c_law05_in n H617 y396.1 y396a_v0 (SL.mono RInt.mono (HSub.trans hs399 (HSub.trans hs401 (HSub.trans hs404 hs617))) hy396a_0) ((w64 (y649 + by_)).tmod (d.Ribs.length : Int)) y655 hy655) rfl en_15 (.some rfl rfl rfl hc648) rfl ?_
                                refine JL.not rfl (.some rfl rfl rfl hc648) rfl ?_
                                refine JL.pick_f (b := p631) rfl hc648 .none rfl ?_
                                obtain rfl := Option.some.inj hF
                                exact hJ647 _ ⟨rfl, rfl, rfl, rfl, rfl, rfl, rfl, rfl⟩
                            · rintro f ⟨hf2, hf7, hf11, hf12, hf14, hf15, hf17, hf146⟩
                              refine (JL.norm (i := 2) hf2 (JL.norm (i := 7) hf7 (JL.norm (i := 11) hf11 (JL.norm (i := 12) hf12 (JL.norm (i := 14) hf14 (JL.norm (i := 15) hf15 (JL.norm (i := 17) hf17 (JL.norm (i := 146) hf146 ?_))))))))
                              refine JL.done hQ ?_
                              refine JQ.go ?_
                              rcases ite_some hF with ⟨hc656, hF⟩ | ⟨hc656, hF⟩
                              · refine JC.cond_t (b := p646) rfl hc656 ?_
                                refine JC.seq ?_
                                refine JC.region (by rfl) ?_
                                intro hQ
                                refine JL.assign .none rfl ?_
                                refine JL.done hQ ?_
                                refine JQ.go ?_
                                refine JC.ret ?_
                                refine JQ.ret_block ?_
                                refine JQ.ret_then ?_
                                refine JQ.ret_then ?_
                                refine JQ.ret_block ?_
                                refine JQ.ret_join ?_
                                refine JQ.ret_then ?_
                                obtain rfl := Option.some.inj hF
                                have ehr618 := hr618 _ rfl
                                subst ehr618
                                have hF := hKr537
                                try dsimp only at hF
                                obtain rfl := Option.some.inj hF
                                exact JQ.outS rfl (.tmp .nil) rfl
                              · refine JC.cond_f (b := p646) rfl hc656 ?_
                                refine JC.skip ?_
                                refine JQ.normal_block ?_
                                refine JQ.go ?_
                                refine JC.region (by rfl) ?_
                                intro hQ
                                refine JL.move .none rfl ?_
                                refine JL.bin rfl rfl rfl .none rfl ?_
                                refine JL.assign .none rfl ?_
                                refine JL.done hQ ?_
                                obtain rfl := Option.some.inj hF
                                exact JQ.next rfl ⟨rfl, rfl, rfl, rfl, rfl, rfl, rfl, rfl, rfl, hs617⟩
                        · refine JC.cond_f (b := decide (i_616 < (y403.1.length : Int))) rfl hc620 ?_
                          refine JC.exit ?_
                          refine JQ.exit_then ?_
                          refine JQ.exit_then ?_
                          refine JQ.exit_block ?_
                          obtain rfl := Option.some.inj hF
                          have ehr618 := hr618 _ rfl
                          subst ehr618
                          exact JQ.join () ⟨rfl, rfl, rfl, rfl, rfl, rfl, hs617, rfl⟩
                      · rintro _ H536 f bs gs ⟨hf2, hf7, hf12, hf15, rfl, rfl, hs536, rfl⟩
                        have hF := hKr537
                        try dsimp only at hF
                        refine (JQ.norm (i := 2) hf2 (JQ.norm (i := 7) hf7 (JQ.norm (i := 12) hf12 (JQ.norm (i := 15) hf15 ?_))))
                        refine JQ.go ?_
                        refine JC.seq ?_
                        refine JC.seq ?_
                        refine JC.region (by rfl) ?_
                        intro hQ
                        refine JL.assign .none rfl ?_
                        refine JL.done hQ ?_
                        refine JQ.go ?_
                        obtain ⟨r777, hlr777, hKr777⟩ := bind_some hF
                        refine JC.join (fun (_ : Unit) H776 f bs gs => bs = [] ∧ gs = [] ∧ HSub H536 H776 ∧ Sum.inr () = r777) ?_ ?_
                        · skip
                          refine JC.block ?_
                          refine JC.loop hlr777 (fun (i_856 : Int) H857 f bs gs => f 2 = .int .i64 by_ ∧ f 7 = .int .i64 (d.Ribs.length : Int) ∧ f 12 = y396b_v0 ∧ f 15 = y403b_v0 ∧ f 18 = .int .i64 i_856 ∧ bs = [] ∧ gs = [] ∧ HSub H536 H857) ⟨rfl, rfl, rfl, rfl, rfl, rfl, rfl, (HSub.refl _)⟩ ?_
                          rintro i_856 x859 H857 f bs gs ⟨hf2, hf7, hf12, hf15, hf18, rfl, rfl, hs857⟩ hF hr858
                          rw [F_law05_GustsTurned_s3] at hF
                          refine (JC.norm (i := 2) hf2 (JC.norm (i := 7) hf7 (JC.norm (i := 12) hf12 (JC.norm (i := 15) hf15 (JC.norm (i := 18) hf18 ?_)))))
                          refine JC.seq ?_
                          refine JC.seq ?_
                          refine JC.region (by rfl) ?_
                          intro hQ
                          refine JL.move .none rfl ?_
                          refine JL.move .none rfl ?_
                          refine JL.lenSL (R := RInt) ul_28 (SL.mono RInt.mono (HSub.trans hs536 hs857) hy403b_0) .none rfl ?_
                          refine JL.bin rfl rfl rfl .none rfl ?_
                          refine JL.done hQ ?_
                          refine JQ.go ?_
                          rcases ite_some hF with ⟨hc860, hF⟩ | ⟨hc860, hF⟩
                          · refine JC.cond_t (b := decide (i_856 < (y403.2.1.length : Int))) rfl hc860 ?_
                            refine JC.skip ?_
                            refine JQ.go ?_
                            refine JC.seq ?_
                            refine JC.block ?_
                            refine JC.seq ?_
                            refine JC.region (by rfl) ?_
                            intro hQ
                            refine JL.move .none rfl ?_
                            refine JL.move .none rfl ?_
                            obtain ⟨y861, hy861, hF⟩ := bind_some hF
                            refine JL.indexSL (R := RInt) sl_28 (SL.mono RInt.mono (HSub.trans hs536 hs857) hy403b_0) rfl hy861 .none rfl ?_
                            rintro b862 o863 cs864 hc865 - rfl
                            refine JL.loadH 0 az_3 rfl hc865 rfl .none rfl ?_
                            refine JL.bin rfl rfl rfl .none rfl ?_
                            refine JL.move .none rfl ?_
                            obtain ⟨p871, hp871, hF⟩ := bind_some hF
                            refine JL.cut 7 (fun f => f 2 = .int .i64 by_ ∧ f 7 = .int .i64 (d.Ribs.length : Int) ∧ f 12 = y396b_v0 ∧ f 15 = y403b_v0 ∧ f 18 = .int .i64 i_856 ∧ f 165 = .bool p871) ?_ ?_
                            · intro hJ872
                              rcases ite_some hp871 with ⟨hc873, hF⟩ | ⟨hc873, hF⟩
                              · skip
                                refine JL.skip (.bool rfl rfl rfl hc873) rfl ?_
                                refine JL.skip (.bool rfl rfl rfl hc873) rfl ?_
                                refine JL.skip (.bool rfl rfl rfl hc873) rfl ?_
                                refine JL.skip (.bool rfl rfl rfl hc873) rfl ?_
                                refine JL.skip (.bool rfl rfl rfl hc873) rfl ?_
                                refine JL.skip (.bool rfl rfl rfl hc873) rfl ?_
                                refine JL.pick_t (b := decide (y861 < 0)) rfl hc873 .none rfl ?_
                                obtain rfl := Option.some.inj hF
                                exact hJ872 _ ⟨rfl, rfl, rfl, rfl, rfl, rfl⟩
                              · skip
                                refine JL.move (.some rfl rfl rfl hc873) rfl ?_
                                refine JL.move (.some rfl rfl rfl hc873) rfl ?_
                                obtain ⟨y874, hy874, hF⟩ := bind_some hF
                                refine JL.indexSL (R := RInt) sl_28 (SL.mono RInt.mono (HSub.trans hs536 hs857) hy403b_0) rfl hy874 (.some rfl rfl rfl hc873) rfl ?_
                                rintro b875 o876 cs877 hc878 - rfl
                                refine JL.loadH 0 az_3 rfl hc878 rfl (.some rfl rfl rfl hc873) rfl ?_
                                refine JL.move (.some rfl rfl rfl hc873) rfl ?_
                                refine JL.bin rfl rfl rfl (.some rfl rfl rfl hc873) rfl ?_
                                refine JL.pick_f (b := decide (y861 < 0)) rfl hc873 .none rfl ?_
                                obtain rfl := Option.some.inj hF
                                exact hJ872 _ ⟨rfl, rfl, rfl, rfl, rfl, rfl⟩
                            · rintro f ⟨hf2, hf7, hf12, hf15, hf18, hf165⟩
                              refine (JL.norm (i := 2) hf2 (JL.norm (i := 7) hf7 (JL.norm (i := 12) hf12 (JL.norm (i := 15) hf15 (JL.norm (i := 18) hf18 (JL.norm (i := 165) hf165 ?_))))))
                              refine JL.move .none rfl ?_
                              obtain ⟨p886, hp886, hF⟩ := bind_some hF
                              refine JL.cut 12 (fun f => f 2 = .int .i64 by_ ∧ f 7 = .int .i64 (d.Ribs.length : Int) ∧ f 12 = y396b_v0 ∧ f 15 = y403b_v0 ∧ f 18 = .int .i64 i_856 ∧ f 178 = .bool p886) ?_ ?_
                              · intro hJ887
                                rcases ite_some hp886 with ⟨hc888, hF⟩ | ⟨hc888, hF⟩
                                · skip
                                  refine JL.skip (.bool rfl rfl rfl hc888) rfl ?_
                                  refine JL.skip (.bool rfl rfl rfl hc888) rfl ?_
                                  refine JL.skip (.bool rfl rfl rfl hc888) rfl ?_
                                  refine JL.skip (.bool rfl rfl rfl hc888) rfl ?_
                                  refine JL.skip (.bool rfl rfl rfl hc888) rfl ?_
                                  refine JL.skip (.bool rfl rfl rfl hc888) rfl ?_
                                  refine JL.skip (.bool rfl rfl rfl hc888) rfl ?_
                                  refine JL.skip (.bool rfl rfl rfl hc888) rfl ?_
                                  refine JL.skip (.bool rfl rfl rfl hc888) rfl ?_
                                  refine JL.skip (.bool rfl rfl rfl hc888) rfl ?_
                                  refine JL.skip (.bool rfl rfl rfl hc888) rfl ?_
                                  refine JL.pick_t (b := p871) rfl hc888 .none rfl ?_
                                  obtain rfl := Option.some.inj hF
                                  exact hJ887 _ ⟨rfl, rfl, rfl, rfl, rfl, rfl⟩
                                · skip
                                  refine JL.move (.some rfl rfl rfl hc888) rfl ?_
                                  refine JL.move (.some rfl rfl rfl hc888) rfl ?_
                                  refine JL.move (.some rfl rfl rfl hc888) rfl ?_
                                  obtain ⟨y889, hy889, hF⟩ := bind_some hF
                                  refine JL.indexSL (R := RInt) sl_28 (SL.mono RInt.mono (HSub.trans hs536 hs857) hy403b_0) rfl hy889 (.some rfl rfl rfl hc888) rfl ?_
                                  rintro b890 o891 cs892 hc893 - rfl
                                  refine JL.loadH 0 az_3 rfl hc893 rfl (.some rfl rfl rfl hc888) rfl ?_
                                  refine JL.move (.some rfl rfl rfl hc888) rfl ?_
                                  refine JL.bin rfl rfl rfl (.some rfl rfl rfl hc888) rfl ?_
                                  refine JL.move (.some rfl rfl rfl hc888) rfl ?_
                                  obtain ⟨u894, hu894, hF⟩ := bind_some hF
                                  refine JL.div rfl rfl (nz_some hu894) rfl (.some rfl rfl rfl hc888) rfl ?_
                                  obtain ⟨y895, hy895, hF⟩ := bind_some hF
                                  refine JL.callS (c_law05_in n H857 y396.2.1 y396b_v0 (SL.mono RInt.mono (HSub.trans hs399 (HSub.trans hs401 (HSub.trans hs404 (HSub.trans hs536 hs857)))) hy396b_0) ((w64 (y889 + by_)).tmod (d.Ribs.length : Int)) y895 hy895) rfl en_15 (.some rfl rfl rfl hc888) rfl ?_
                                  refine JL.not rfl (.some rfl rfl rfl hc888) rfl ?_
                                  refine JL.pick_f (b := p871) rfl hc888 .none rfl ?_
                                  obtain rfl := Option.some.inj hF
                                  exact hJ887 _ ⟨rfl, rfl, rfl, rfl, rfl, rfl⟩
                              · rintro f ⟨hf2, hf7, hf12, hf15, hf18, hf178⟩
                                refine (JL.norm (i := 2) hf2 (JL.norm (i := 7) hf7 (JL.norm (i := 12) hf12 (JL.norm (i := 15) hf15 (JL.norm (i := 18) hf18 (JL.norm (i := 178) hf178 ?_))))))
                                refine JL.done hQ ?_
                                refine JQ.go ?_
                                rcases ite_some hF with ⟨hc896, hF⟩ | ⟨hc896, hF⟩
                                · refine JC.cond_t (b := p886) rfl hc896 ?_
                                  refine JC.seq ?_
                                  refine JC.region (by rfl) ?_
                                  intro hQ
                                  refine JL.assign .none rfl ?_
                                  refine JL.done hQ ?_
                                  refine JQ.go ?_
                                  refine JC.ret ?_
                                  refine JQ.ret_block ?_
                                  refine JQ.ret_then ?_
                                  refine JQ.ret_then ?_
                                  refine JQ.ret_block ?_
                                  refine JQ.ret_join ?_
                                  refine JQ.ret_then ?_
                                  obtain rfl := Option.some.inj hF
                                  have ehr858 := hr858 _ rfl
                                  subst ehr858
                                  have hF := hKr777
                                  try dsimp only at hF
                                  obtain rfl := Option.some.inj hF
                                  exact JQ.outS rfl (.tmp .nil) rfl
                                · refine JC.cond_f (b := p886) rfl hc896 ?_
                                  refine JC.skip ?_
                                  refine JQ.normal_block ?_
                                  refine JQ.go ?_
                                  refine JC.region (by rfl) ?_
                                  intro hQ
                                  refine JL.move .none rfl ?_
                                  refine JL.bin rfl rfl rfl .none rfl ?_
                                  refine JL.assign .none rfl ?_
                                  refine JL.done hQ ?_
                                  obtain rfl := Option.some.inj hF
                                  exact JQ.next rfl ⟨rfl, rfl, rfl, rfl, rfl, rfl, rfl, hs857⟩
                          · refine JC.cond_f (b := decide (i_856 < (y403.2.1.length : Int))) rfl hc860 ?_
                            refine JC.exit ?_
                            refine JQ.exit_then ?_
                            refine JQ.exit_then ?_
                            refine JQ.exit_block ?_
                            obtain rfl := Option.some.inj hF
                            have ehr858 := hr858 _ rfl
                            subst ehr858
                            exact JQ.join () ⟨rfl, rfl, hs857, rfl⟩
                        · rintro _ H776 f bs gs ⟨rfl, rfl, hs776, rfl⟩
                          have hF := hKr777
                          try dsimp only at hF
                          refine JQ.go ?_
                          refine JC.seq ?_
                          refine JC.region (by rfl) ?_
                          intro hQ
                          obtain ⟨y897, hy897, hF⟩ := bind_some hF
                          refine JL.callS (c_law05_works n H776 y897 hy897) rfl en_12 .none rfl ?_
                          refine JL.assign .none rfl ?_
                          refine JL.done hQ ?_
                          refine JQ.go ?_
                          refine JC.ret ?_
                          obtain rfl := Option.some.inj hF
                          exact JQ.outS rfl (.tmp .nil) rfl

end Go.Proofs.Ytcpnnfdhafbemaa
