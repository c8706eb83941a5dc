/-
  A part of the proof of MoMost: the texts MoGenK1, MoGenK2.
-/
import Derived.Test.YteihdclpiekmaaaJMoMost2
section
set_option maxRecDepth 100000
set_option maxHeartbeats 40000000
namespace Go.Proofs.Yteihdclpiekmaaa
open Go Go.RowKit Go.Dec
set_option linter.unusedVariables false
-- 33 ferrule/ferruleref05.Check
def F_ref05_Check_s1 (n : Nat) (d : Canopy) : Int → Option (Int ⊕ (Int ⊕ Unit))
 | i_425 => if decide (i_425 < (d.Ribs.length : Int)) = true then ((geti d.Ribs i_425).bind fun y469 => (geti d.Ribs i_425).bind fun y474 => (F_ref05_within n y469.Low 0 y474.High).bind fun y479 => (if (!y479) = true then (some true) else ((geti d.Ribs i_425).bind fun y488 => some (decide (99999 < y488.High))) : Option Bool).bind fun p485 => (if p485 = true then (some true) else ((geti d.Shares i_425).bind fun y502 => (F_ref05_within n y502 0 99).bind fun y507 => some (!y507)) : Option Bool).bind fun p499 => if p499 = true then (some (Sum.inr (Sum.inl 50))) else (some (Sum.inl (w64 (i_425 + 1))))) else (some (Sum.inr (Sum.inr ())))
def F_ref05_Check (n : Nat) (d : Canopy) : Option Int :=
 (F_ref01_Check n d.Frame).bind fun y2 => (if (y2 != 0) = true then (some true) else ((F_ref05_within n (d.Ribs.length : Int) 3 10).bind fun y7 => some (!y7)) : Option Bool).bind fun p4 => if (p4 || ((d.Shares.length : Int) != (d.Ribs.length : Int))) = true then (some 50) else ((loopO n (F_ref05_Check_s1 n d) 0).bind fun r260 => match r260 with | .inl o => some o | .inr _ => some 0)
theorem c_ref05_Check (n : Nat) (H : Hp) (d : Canopy) (d_v0 : Value) (hd_0 : SL H 7 R_Section d_v0 d.Frame.Sections) (d_v7 : Value) (hd_7 : SL H 2 R_Span d_v7 d.Ribs) (d_v8 : Value) (hd_8 : SL H 1 RInt d_v8 d.Shares) (y : Int) (hF : F_ref05_Check n d = some y) : SC Try.prog 33 [.agg [d_v0, .int .i64 d.Frame.Low, .int .i64 d.Frame.High, .int .i64 d.Frame.Ease.Num, .int .i64 d.Frame.Ease.Den, .int .i64 d.Frame.Rod, .int .i64 d.Frame.Case, d_v7, d_v8].toArray] (.int .i64 y) H := by
 rw [F_ref05_Check] at hF
 refine SC.of (N := 63) Try.func33 rfl rfl rfl fun w => ?_
 refine JC.seq (JC.region (by rfl) ?_)
 intro hQ
 refine JL.box (cs := [d_v0, .int .i64 d.Frame.Low, .int .i64 d.Frame.High, .int .i64 d.Frame.Ease.Num, .int .i64 d.Frame.Ease.Den, .int .i64 d.Frame.Rod, .int .i64 d.Frame.Case, d_v7, d_v8]) rfl .none rfl ?_
 intro b1
 refine JL.assign .none rfl ?_
 refine JL.done hQ (JQ.go (JC.seq (JC.seq (JC.region (by rfl) ?_))))
 intro hQ
 refine JL.fieldAddr fo_76_0 rfl .none rfl ?_
 refine JL.loadOwn 0 az_53 rfl rfl rfl .none rfl ?_
 obtain ⟨y2, hy2, hF⟩ := bind_some hF
 refine JL.callS (c_ref01_Check n H d.Frame d_v0 hd_0 y2 hy2) rfl en_21 .none rfl ?_
 refine JL.bin rfl rfl rfl .none rfl ?_
 refine JL.move .none rfl ?_
 obtain ⟨p4, hp4, hF⟩ := bind_some hF
 refine JL.cut 6 (fun f => f 1 = .pointer (some ⟨b1, 0, none⟩) ∧ f 14 = .bool p4) ?_ ?_
 ·intro hJ5
  rcases ite_some hp4 with ⟨hc6, hF⟩ | ⟨hc6, hF⟩
  ·skip
   refine JL.skip (.bool rfl rfl rfl hc6) rfl ?_
   refine JL.skip (.bool rfl rfl rfl hc6) rfl ?_
   refine JL.skip (.bool rfl rfl rfl hc6) rfl ?_
   refine JL.skip (.bool rfl rfl rfl hc6) rfl ?_
   refine JL.skip (.bool rfl rfl rfl hc6) rfl ?_
   refine JL.pick_t (b := (y2 != 0)) rfl hc6 .none rfl ?_
   obtain rfl := Option.some.inj hF
   exact hJ5 _ ⟨rfl, rfl⟩
  ·skip
   refine JL.fieldAddr fo_76_1 rfl (.some rfl rfl rfl hc6) rfl ?_
   refine JL.loadOwn 0 az_24 rfl rfl rfl (.some rfl rfl rfl hc6) rfl ?_
   refine JL.lenSL (R := R_Span) ul_24 hd_7 (.some rfl rfl rfl hc6) rfl ?_
   obtain ⟨y7, hy7, hF⟩ := bind_some hF
   refine JL.callS (c_ref05_within n H (d.Ribs.length : Int) 3 10 y7 hy7) rfl en_82 (.some rfl rfl rfl hc6) rfl ?_
   refine JL.not rfl (.some rfl rfl rfl hc6) rfl ?_
   refine JL.pick_f (b := (y2 != 0)) rfl hc6 .none rfl ?_
   obtain rfl := Option.some.inj hF
   exact hJ5 _ ⟨rfl, rfl⟩
 ·rintro f ⟨hf1, hf14⟩
  refine (JL.norm (i := 1) hf1 (JL.norm (i := 14) hf14 ?_))
  refine JL.move .none rfl ?_
  refine JL.cut 8 (fun f => f 1 = .pointer (some ⟨b1, 0, none⟩) ∧ f 23 = .bool (p4 || ((d.Shares.length : Int) != (d.Ribs.length : Int)))) ?_ ?_
  ·intro hJ8
   rcases bcases p4 with hc9 | hc9
   ·skip
    refine JL.skip (.bool rfl rfl rfl hc9) rfl ?_
    refine JL.skip (.bool rfl rfl rfl hc9) rfl ?_
    refine JL.skip (.bool rfl rfl rfl hc9) rfl ?_
    refine JL.skip (.bool rfl rfl rfl hc9) rfl ?_
    refine JL.skip (.bool rfl rfl rfl hc9) rfl ?_
    refine JL.skip (.bool rfl rfl rfl hc9) rfl ?_
    refine JL.skip (.bool rfl rfl rfl hc9) rfl ?_
    refine JL.pick_t (b := p4) rfl hc9 .none rfl ?_
    exact hJ8 _ ⟨rfl, or_t hc9 rfl⟩
   ·skip
    refine JL.fieldAddr fo_76_2 rfl (.some rfl rfl rfl hc9) rfl ?_
    refine JL.loadOwn 0 az_23 rfl rfl rfl (.some rfl rfl rfl hc9) rfl ?_
    refine JL.lenSL (R := RInt) ul_23 hd_8 (.some rfl rfl rfl hc9) rfl ?_
    refine JL.fieldAddr fo_76_1 rfl (.some rfl rfl rfl hc9) rfl ?_
    refine JL.loadOwn 0 az_24 rfl rfl rfl (.some rfl rfl rfl hc9) rfl ?_
    refine JL.lenSL (R := R_Span) ul_24 hd_7 (.some rfl rfl rfl hc9) rfl ?_
    refine JL.bin rfl rfl rfl (.some rfl rfl rfl hc9) rfl ?_
    refine JL.pick_f (b := p4) rfl hc9 .none rfl ?_
    exact hJ8 _ ⟨rfl, or_f hc9 rfl⟩
  ·rintro f ⟨hf1, hf23⟩
   refine (JL.norm (i := 1) hf1 (JL.norm (i := 23) hf23 ?_))
   refine JL.done hQ (JQ.go ?_)
   rcases ite_some hF with ⟨hc10, hF⟩ | ⟨hc10, hF⟩
   ·refine JC.cond_t (b := (p4 || ((d.Shares.length : Int) != (d.Ribs.length : Int)))) rfl hc10 ?_
    refine JC.seq (JC.region (by rfl) ?_)
    intro hQ
    refine JL.assign .none rfl ?_
    refine JL.done hQ (JQ.go (JC.ret (JQ.ret_then ?_)))
    obtain rfl := Option.some.inj hF
    exact JQ.outS rfl (.tmp .nil) rfl
   ·refine JC.cond_f (b := (p4 || ((d.Shares.length : Int) != (d.Ribs.length : Int)))) rfl hc10 ?_
    refine JC.skip (JQ.go (JC.seq (JC.seq (JC.region (by rfl) ?_))))
    intro hQ
    refine JL.assign .none rfl ?_
    refine JL.done hQ (JQ.go ?_)
    obtain ⟨r260, hlr260, hKr260⟩ := bind_some hF
    refine JC.join (fun (_ : Unit) H259 f bs gs => bs = [] ∧ gs = [] ∧ HSub H H259 ∧ Sum.inr () = r260) ?_ ?_
    ·skip
     refine JC.block (JC.loop hlr260 (fun (i_425 : Int) H426 f bs gs => f 1 = .pointer (some ⟨b1, 0, none⟩) ∧ f 3 = .int .i64 i_425 ∧ bs = [(b1, .cells [d_v0, .int .i64 d.Frame.Low, .int .i64 d.Frame.High, .int .i64 d.Frame.Ease.Num, .int .i64 d.Frame.Ease.Den, .int .i64 d.Frame.Rod, .int .i64 d.Frame.Case, d_v7, d_v8].toArray 76)] ∧ gs = [] ∧ HSub H H426) ⟨rfl, rfl, rfl, rfl, (HSub.refl _)⟩ ?_)
     rintro i_425 x428 H426 f bs gs ⟨hf1, hf3, rfl, rfl, hs426⟩ hF hr427
     rw [F_ref05_Check_s1] at hF
     refine (JC.norm (i := 1) hf1 (JC.norm (i := 3) hf3 ?_))
     refine JC.seq (JC.seq (JC.region (by rfl) ?_))
     intro hQ
     refine JL.move .none rfl ?_
     refine JL.fieldAddr fo_76_1 rfl .none rfl ?_
     refine JL.loadOwn 0 az_24 rfl rfl rfl .none rfl ?_
     refine JL.lenSL (R := R_Span) ul_24 (SL.mono R_Span_mono hs426 hd_7) .none rfl ?_
     refine JL.bin rfl rfl rfl .none rfl ?_
     refine JL.done hQ (JQ.go ?_)
     rcases ite_some hF with ⟨hc429, hF⟩ | ⟨hc429, hF⟩
     ·refine JC.cond_t (b := decide (i_425 < (d.Ribs.length : Int))) rfl hc429 ?_
      refine JC.skip (JQ.go (JC.seq (JC.block (JC.seq (JC.draw (by rfl) mo_ (by kernel_rfl) ?_)))))
      intro hQ
      refine JL.fieldAddr fo_76_1 rfl .none rfl ?_
      refine JL.loadOwn 0 az_24 rfl rfl rfl .none rfl ?_
      refine JL.move .none rfl ?_
      obtain ⟨y469, hy469, hF⟩ := bind_some hF
      refine JL.indexSL (R := R_Span) sl_24 (SL.mono R_Span_mono hs426 hd_7) rfl hy469 .none rfl ?_
      rintro b470 o471 cs472 hc473 - rfl
      refine JL.fieldAddr fo_39_0 rfl .none rfl ?_
      refine JL.loadH 0 az_3 rfl hc473 rfl .none rfl ?_
      refine JL.fieldAddr fo_76_1 rfl .none rfl ?_
      refine JL.loadOwn 0 az_24 rfl rfl rfl .none rfl ?_
      refine JL.move .none rfl ?_
      obtain ⟨y474, hy474, hF⟩ := bind_some hF
      refine JL.indexSL (R := R_Span) sl_24 (SL.mono R_Span_mono hs426 hd_7) rfl hy474 .none rfl ?_
      rintro b475 o476 cs477 hc478 - rfl
      refine JL.fieldAddr fo_39_1 rfl .none rfl ?_
      refine JL.loadH 1 az_3 rfl hc478 rfl .none rfl ?_
      obtain ⟨y479, hy479, hF⟩ := bind_some hF
      refine JL.callS (c_ref05_within n H426 y469.Low 0 y474.High y479 hy479) rfl en_82 .none rfl ?_
      refine JL.not rfl .none rfl ?_
      refine JL.move .none rfl ?_
      obtain ⟨p485, hp485, hF⟩ := bind_some hF
      refine JL.cut 8 (fun f => f 1 = .pointer (some ⟨b1, 0, none⟩) ∧ f 3 = .int .i64 i_425 ∧ f 53 = .bool p485) ?_ ?_
      ·intro hJ486
       rcases ite_some hp485 with ⟨hc487, hF⟩ | ⟨hc487, hF⟩
       ·skip
        refine JL.skip (.bool rfl rfl rfl hc487) rfl ?_
        refine JL.skip (.bool rfl rfl rfl hc487) rfl ?_
        refine JL.skip (.bool rfl rfl rfl hc487) rfl ?_
        refine JL.skip (.bool rfl rfl rfl hc487) rfl ?_
        refine JL.skip (.bool rfl rfl rfl hc487) rfl ?_
        refine JL.skip (.bool rfl rfl rfl hc487) rfl ?_
        refine JL.skip (.bool rfl rfl rfl hc487) rfl ?_
        refine JL.pick_t (b := (!y479)) rfl hc487 .none rfl ?_
        obtain rfl := Option.some.inj hF
        exact hJ486 _ ⟨rfl, rfl, rfl⟩
       ·skip
        refine JL.fieldAddr fo_76_1 rfl (.some rfl rfl rfl hc487) rfl ?_
        refine JL.loadOwn 0 az_24 rfl rfl rfl (.some rfl rfl rfl hc487) rfl ?_
        refine JL.move (.some rfl rfl rfl hc487) rfl ?_
        obtain ⟨y488, hy488, hF⟩ := bind_some hF
        refine JL.indexSL (R := R_Span) sl_24 (SL.mono R_Span_mono hs426 hd_7) rfl hy488 (.some rfl rfl rfl hc487) rfl ?_
        rintro b489 o490 cs491 hc492 - rfl
        refine JL.fieldAddr fo_39_1 rfl (.some rfl rfl rfl hc487) rfl ?_
        refine JL.loadH 1 az_3 rfl hc492 rfl (.some rfl rfl rfl hc487) rfl ?_
        refine JL.bin rfl rfl rfl (.some rfl rfl rfl hc487) rfl ?_
        refine JL.pick_f (b := (!y479)) rfl hc487 .none rfl ?_
        obtain rfl := Option.some.inj hF
        exact hJ486 _ ⟨rfl, rfl, rfl⟩
      ·rintro f ⟨hf1, hf3, hf53⟩
       refine (JL.norm (i := 1) hf1 (JL.norm (i := 3) hf3 (JL.norm (i := 53) hf53 ?_)))
       refine JL.move .none rfl ?_
       obtain ⟨p499, hp499, hF⟩ := bind_some hF
       refine JL.cut 8 (fun f => f 1 = .pointer (some ⟨b1, 0, none⟩) ∧ f 3 = .int .i64 i_425 ∧ f 62 = .bool p499) ?_ ?_
       ·intro hJ500
        rcases ite_some hp499 with ⟨hc501, hF⟩ | ⟨hc501, hF⟩
        ·skip
         refine JL.skip (.bool rfl rfl rfl hc501) rfl ?_
         refine JL.skip (.bool rfl rfl rfl hc501) rfl ?_
         refine JL.skip (.bool rfl rfl rfl hc501) rfl ?_
         refine JL.skip (.bool rfl rfl rfl hc501) rfl ?_
         refine JL.skip (.bool rfl rfl rfl hc501) rfl ?_
         refine JL.skip (.bool rfl rfl rfl hc501) rfl ?_
         refine JL.skip (.bool rfl rfl rfl hc501) rfl ?_
         refine JL.pick_t (b := p485) rfl hc501 .none rfl ?_
         obtain rfl := Option.some.inj hF
         exact hJ500 _ ⟨rfl, rfl, rfl⟩
        ·skip
         refine JL.fieldAddr fo_76_2 rfl (.some rfl rfl rfl hc501) rfl ?_
         refine JL.loadOwn 0 az_23 rfl rfl rfl (.some rfl rfl rfl hc501) rfl ?_
         refine JL.move (.some rfl rfl rfl hc501) rfl ?_
         obtain ⟨y502, hy502, hF⟩ := bind_some hF
         refine JL.indexSL (R := RInt) sl_23 (SL.mono RInt.mono hs426 hd_8) rfl hy502 (.some rfl rfl rfl hc501) rfl ?_
         rintro b503 o504 cs505 hc506 - rfl
         refine JL.loadH 0 az_3 rfl hc506 rfl (.some rfl rfl rfl hc501) rfl ?_
         obtain ⟨y507, hy507, hF⟩ := bind_some hF
         refine JL.callS (c_ref05_within n H426 y502 0 99 y507 hy507) rfl en_82 (.some rfl rfl rfl hc501) rfl ?_
         refine JL.not rfl (.some rfl rfl rfl hc501) rfl ?_
         refine JL.pick_f (b := p485) rfl hc501 .none rfl ?_
         obtain rfl := Option.some.inj hF
         exact hJ500 _ ⟨rfl, rfl, rfl⟩
       ·rintro f ⟨hf1, hf3, hf62⟩
        refine (JL.norm (i := 1) hf1 (JL.norm (i := 3) hf3 (JL.norm (i := 62) hf62 ?_)))
        refine JL.doneQ hQ ?_
        refine JQ.go ?_
        rcases ite_some hF with ⟨hc508, hF⟩ | ⟨hc508, hF⟩
        ·refine JC.cond_t (b := p499) rfl hc508 ?_
         refine JC.seq (JC.region (by rfl) ?_)
         intro hQ
         refine JL.assign .none rfl ?_
         refine JL.done hQ (JQ.go (JC.ret (JQ.ret_block (JQ.ret_then (JQ.ret_then (JQ.ret_block (JQ.ret_join (JQ.ret_then ?_))))))))
         obtain rfl := Option.some.inj hF
         have ehr427 := hr427 _ rfl
         subst ehr427
         have hF := hKr260
         try dsimp only at hF
         obtain rfl := Option.some.inj hF
         exact JQ.outS rfl (.tmp .nil) rfl
        ·refine JC.cond_f (b := p499) rfl hc508 ?_
         refine JC.skip (JQ.normal_block (JQ.go (JC.region (by rfl) ?_)))
         intro hQ
         refine JL.move .none rfl ?_
         refine JL.bin rfl rfl rfl .none rfl ?_
         refine JL.assign .none rfl ?_
         refine JL.done hQ ?_
         obtain rfl := Option.some.inj hF
         exact JQ.next rfl ⟨rfl, rfl, rfl, rfl, hs426⟩
     ·refine JC.cond_f (b := decide (i_425 < (d.Ribs.length : Int))) rfl hc429 ?_
      refine JC.exit (JQ.exit_then (JQ.exit_then (JQ.exit_block ?_)))
      obtain rfl := Option.some.inj hF
      have ehr427 := hr427 _ rfl
      subst ehr427
      refine JQ.mask [false] [] ?_
      exact JQ.join () ⟨rfl, rfl, hs426, rfl⟩
    ·rintro _ H259 f bs gs ⟨rfl, rfl, hs259, rfl⟩
     have hF := hKr260
     try dsimp only at hF
     refine JQ.go (JC.seq (JC.region (by rfl) ?_))
     intro hQ
     refine JL.assign .none rfl ?_
     refine JL.done hQ (JQ.go (JC.ret ?_))
     obtain rfl := Option.some.inj hF
     exact JQ.outS rfl (.tmp .nil) rfl
-- 146 ferrule/ferruleref13.within
def F_ref13_within (n : Nat) (n_ : Int) (low : Int) (high : Int) : Option Bool :=
 (F_ref01_Within n n_ low high).bind fun y1 => some y1
theorem c_ref13_within (n : Nat) (H : Hp) (n_ : Int) (low : Int) (high : Int) (y : Bool) (hF : F_ref13_within n n_ low high = some y) : SC Try.prog 146 [.int .i64 n_, .int .i64 low, .int .i64 high] (.bool y) H := by
 rw [F_ref13_within] at hF
 refine SC.of (N := 11) Try.func146 rfl rfl rfl fun w => ?_
 refine JC.seq (JC.region (by rfl) ?_)
 intro hQ
 refine JL.assign .none rfl ?_
 refine JL.done hQ (JQ.go (JC.seq (JC.region (by rfl) ?_)))
 intro hQ
 refine JL.move .none rfl ?_
 refine JL.move .none rfl ?_
 refine JL.move .none rfl ?_
 obtain ⟨y1, hy1, hF⟩ := bind_some hF
 refine JL.callS (c_ref01_Within n H n_ low high y1 hy1) rfl en_66 .none rfl ?_
 refine JL.assign .none rfl ?_
 refine JL.done hQ (JQ.go (JC.ret ?_))
 obtain rfl := Option.some.inj hF
 exact JQ.outS rfl (.tmp .nil) rfl
-- 34 ferrule/ferruleref05.IsRib
def F_ref05_IsRib (n : Nat) (d : Canopy) (n_ : Int) : Option Bool :=
 (F_ref05_within n n_ 0 (w64 ((d.Ribs.length : Int) - 1))).bind fun y2 => some y2
theorem c_ref05_IsRib (n : Nat) (H : Hp) (d : Canopy) (d_v0 : Value) (hd_0 : SL H 7 R_Section d_v0 d.Frame.Sections) (d_v7 : Value) (hd_7 : SL H 2 R_Span d_v7 d.Ribs) (d_v8 : Value) (hd_8 : SL H 1 RInt d_v8 d.Shares) (n_ : Int) (y : Bool) (hF : F_ref05_IsRib n d n_ = some y) : SC Try.prog 34 [.agg [d_v0, .int .i64 d.Frame.Low, .int .i64 d.Frame.High, .int .i64 d.Frame.Ease.Num, .int .i64 d.Frame.Ease.Den, .int .i64 d.Frame.Rod, .int .i64 d.Frame.Case, d_v7, d_v8].toArray, .int .i64 n_] (.bool y) H := by
 rw [F_ref05_IsRib] at hF
 refine SC.of (N := 11) Try.func34 rfl rfl rfl fun w => ?_
 refine JC.seq (JC.region (by rfl) ?_)
 intro hQ
 refine JL.box (cs := [d_v0, .int .i64 d.Frame.Low, .int .i64 d.Frame.High, .int .i64 d.Frame.Ease.Num, .int .i64 d.Frame.Ease.Den, .int .i64 d.Frame.Rod, .int .i64 d.Frame.Case, d_v7, d_v8]) rfl .none rfl ?_
 intro b1
 refine JL.assign .none rfl ?_
 refine JL.done hQ (JQ.go (JC.seq (JC.region (by rfl) ?_)))
 intro hQ
 refine JL.move .none rfl ?_
 refine JL.fieldAddr fo_76_1 rfl .none rfl ?_
 refine JL.loadOwn 0 az_24 rfl rfl rfl .none rfl ?_
 refine JL.lenSL (R := R_Span) ul_24 hd_7 .none rfl ?_
 refine JL.bin rfl rfl rfl .none rfl ?_
 obtain ⟨y2, hy2, hF⟩ := bind_some hF
 refine JL.callS (c_ref05_within n H n_ 0 (w64 ((d.Ribs.length : Int) - 1)) y2 hy2) rfl en_82 .none rfl ?_
 refine JL.assign .none rfl ?_
 refine JL.done hQ (JQ.go (JC.ret ?_))
 obtain rfl := Option.some.inj hF
 exact JQ.outS rfl (.tmp .nil) rfl
-- 93 ferrule/ferruleref13.Check
def F_ref13_Check_s1 (n : Nat) (r : Run) : Int → Option (Int ⊕ (Int ⊕ Unit))
 | i_117 => if decide (i_117 < (r.Blows.length : Int)) = true then ((geti r.Blows i_117).bind fun y122 => (F_ref05_IsRib n r.Canopy y122.At).bind fun y128 => (if (!y128) = true then (some true) else ((F_ref13_within n y122.Force.Low 0 y122.Force.High).bind fun y133 => some (!y133)) : Option Bool).bind fun p130 => if ((p130 || (decide (99 < y122.Force.High))) || (decide (9 < (w64 (y122.Force.High - y122.Force.Low))))) = true then (some (Sum.inr (Sum.inl 130))) else (some (Sum.inl (w64 (i_117 + 1))))) else (some (Sum.inr (Sum.inr ())))
def F_ref13_Check_s2 (n : Nat) (r : Run) : Int → Option (Int ⊕ (Int ⊕ Unit))
 | i_268 => if decide (i_268 < (r.Meters.length : Int)) = true then ((geti r.Meters i_268).bind fun y273 => (F_ref13_within n y273.Limit 0 99).bind fun y278 => (if (!y278) = true then (some true) else ((geti r.Meters i_268).bind fun y288 => (F_ref13_within n y288.Count 0 8).bind fun y293 => some (!y293)) : Option Bool).bind fun p285 => if p285 = true then (some (Sum.inr (Sum.inl 130))) else (some (Sum.inl (w64 (i_268 + 1))))) else (some (Sum.inr (Sum.inr ())))
def F_ref13_Check (n : Nat) (r : Run) : Option Int :=
 (F_ref05_Check n r.Canopy).bind fun y2 => (if (((y2 != 0) || (decide (8 < (r.Blows.length : Int)))) || (decide (5 < (r.Meters.length : Int)))) = true then (some true) else ((F_ref13_within n r.Wrong 0 5).bind fun y11 => some (!y11)) : Option Bool).bind fun p8 => if p8 = true then (some 130) else ((loopO n (F_ref13_Check_s1 n r) 0).bind fun r76 => match r76 with | .inl o => some o | .inr _ => (loopO n (F_ref13_Check_s2 n r) 0).bind fun r217 => match r217 with | .inl o => some o | .inr _ => some 0)
theorem c_ref13_Check (n : Nat) (H : Hp) (r : Run) (r_v0 : Value) (hr_0 : SL H 7 R_Section r_v0 r.Canopy.Frame.Sections) (r_v7 : Value) (hr_7 : SL H 2 R_Span r_v7 r.Canopy.Ribs) (r_v8 : Value) (hr_8 : SL H 1 RInt r_v8 r.Canopy.Shares) (r_v9 : Value) (hr_9 : SL H 3 R_Blow r_v9 r.Blows) (r_v10 : Value) (hr_10 : SL H 2 R_Meter r_v10 r.Meters) (y : Int) (hF : F_ref13_Check n r = some y) : SC Try.prog 93 [.agg [r_v0, .int .i64 r.Canopy.Frame.Low, .int .i64 r.Canopy.Frame.High, .int .i64 r.Canopy.Frame.Ease.Num, .int .i64 r.Canopy.Frame.Ease.Den, .int .i64 r.Canopy.Frame.Rod, .int .i64 r.Canopy.Frame.Case, r_v7, r_v8, r_v9, r_v10, .int .i64 r.Wrong].toArray] (.int .i64 y) H := by
 rw [F_ref13_Check] at hF
 refine SC.of (N := 97) Try.func93 rfl rfl rfl fun w => ?_
 refine JC.seq (JC.region (by rfl) ?_)
 intro hQ
 refine JL.box (cs := [r_v0, .int .i64 r.Canopy.Frame.Low, .int .i64 r.Canopy.Frame.High, .int .i64 r.Canopy.Frame.Ease.Num, .int .i64 r.Canopy.Frame.Ease.Den, .int .i64 r.Canopy.Frame.Rod, .int .i64 r.Canopy.Frame.Case, r_v7, r_v8, r_v9, r_v10, .int .i64 r.Wrong]) rfl .none rfl ?_
 intro b1
 refine JL.assign .none rfl ?_
 refine JL.done hQ (JQ.go (JC.seq (JC.seq (JC.region (by rfl) ?_))))
 intro hQ
 refine JL.fieldAddr fo_90_0 rfl .none rfl ?_
 refine JL.loadOwn 0 az_76 rfl rfl rfl .none rfl ?_
 obtain ⟨y2, hy2, hF⟩ := bind_some hF
 refine JL.callS (c_ref05_Check n H r.Canopy r_v0 hr_0 r_v7 hr_7 r_v8 hr_8 y2 hy2) rfl en_33 .none rfl ?_
 refine JL.bin rfl rfl rfl .none rfl ?_
 refine JL.move .none rfl ?_
 refine JL.cut 5 (fun f => f 1 = .pointer (some ⟨b1, 0, none⟩) ∧ f 15 = .bool ((y2 != 0) || (decide (8 < (r.Blows.length : Int))))) ?_ ?_
 ·intro hJ3
  rcases bcases (y2 != 0) with hc4 | hc4
  ·skip
   refine JL.skip (.bool rfl rfl rfl hc4) rfl ?_
   refine JL.skip (.bool rfl rfl rfl hc4) rfl ?_
   refine JL.skip (.bool rfl rfl rfl hc4) rfl ?_
   refine JL.skip (.bool rfl rfl rfl hc4) rfl ?_
   refine JL.pick_t (b := (y2 != 0)) rfl hc4 .none rfl ?_
   exact hJ3 _ ⟨rfl, or_t hc4 rfl⟩
  ·skip
   refine JL.fieldAddr fo_90_1 rfl (.some rfl rfl rfl hc4) rfl ?_
   refine JL.loadOwn 0 az_87 rfl rfl rfl (.some rfl rfl rfl hc4) rfl ?_
   refine JL.lenSL (R := R_Blow) ul_87 hr_9 (.some rfl rfl rfl hc4) rfl ?_
   refine JL.bin rfl rfl rfl (.some rfl rfl rfl hc4) rfl ?_
   refine JL.pick_f (b := (y2 != 0)) rfl hc4 .none rfl ?_
   exact hJ3 _ ⟨rfl, or_f hc4 rfl⟩
 ·rintro f ⟨hf1, hf15⟩
  refine (JL.norm (i := 1) hf1 (JL.norm (i := 15) hf15 ?_))
  refine JL.move .none rfl ?_
  refine JL.cut 5 (fun f => f 1 = .pointer (some ⟨b1, 0, none⟩) ∧ f 21 = .bool (((y2 != 0) || (decide (8 < (r.Blows.length : Int)))) || (decide (5 < (r.Meters.length : Int))))) ?_ ?_
  ·intro hJ5
   rcases bcases ((y2 != 0) || (decide (8 < (r.Blows.length : Int)))) with hc6 | hc6
   ·skip
    refine JL.skip (.bool rfl rfl rfl hc6) rfl ?_
    refine JL.skip (.bool rfl rfl rfl hc6) rfl ?_
    refine JL.skip (.bool rfl rfl rfl hc6) rfl ?_
    refine JL.skip (.bool rfl rfl rfl hc6) rfl ?_
    refine JL.pick_t (b := ((y2 != 0) || (decide (8 < (r.Blows.length : Int))))) rfl hc6 .none rfl ?_
    exact hJ5 _ ⟨rfl, or_t hc6 rfl⟩
   ·skip
    refine JL.fieldAddr fo_90_2 rfl (.some rfl rfl rfl hc6) rfl ?_
    refine JL.loadOwn 0 az_88 rfl rfl rfl (.some rfl rfl rfl hc6) rfl ?_
    refine JL.lenSL (R := R_Meter) ul_88 hr_10 (.some rfl rfl rfl hc6) rfl ?_
    refine JL.bin rfl rfl rfl (.some rfl rfl rfl hc6) rfl ?_
    refine JL.pick_f (b := ((y2 != 0) || (decide (8 < (r.Blows.length : Int))))) rfl hc6 .none rfl ?_
    exact hJ5 _ ⟨rfl, or_f hc6 rfl⟩
  ·rintro f ⟨hf1, hf21⟩
   refine (JL.norm (i := 1) hf1 (JL.norm (i := 21) hf21 ?_))
   refine JL.move .none rfl ?_
   obtain ⟨p8, hp8, hF⟩ := bind_some hF
   refine JL.cut 5 (fun f => f 1 = .pointer (some ⟨b1, 0, none⟩) ∧ f 27 = .bool p8) ?_ ?_
   ·intro hJ9
    rcases ite_some hp8 with ⟨hc10, hF⟩ | ⟨hc10, hF⟩
    ·skip
     refine JL.skip (.bool rfl rfl rfl hc10) rfl ?_
     refine JL.skip (.bool rfl rfl rfl hc10) rfl ?_
     refine JL.skip (.bool rfl rfl rfl hc10) rfl ?_
     refine JL.skip (.bool rfl rfl rfl hc10) rfl ?_
     refine JL.pick_t (b := (((y2 != 0) || (decide (8 < (r.Blows.length : Int)))) || (decide (5 < (r.Meters.length : Int))))) rfl hc10 .none rfl ?_
     obtain rfl := Option.some.inj hF
     exact hJ9 _ ⟨rfl, rfl⟩
    ·skip
     refine JL.fieldAddr fo_90_3 rfl (.some rfl rfl rfl hc10) rfl ?_
     refine JL.loadOwn 0 az_3 rfl rfl rfl (.some rfl rfl rfl hc10) rfl ?_
     obtain ⟨y11, hy11, hF⟩ := bind_some hF
     refine JL.callS (c_ref13_within n H r.Wrong 0 5 y11 hy11) rfl en_146 (.some rfl rfl rfl hc10) rfl ?_
     refine JL.not rfl (.some rfl rfl rfl hc10) rfl ?_
     refine JL.pick_f (b := (((y2 != 0) || (decide (8 < (r.Blows.length : Int)))) || (decide (5 < (r.Meters.length : Int))))) rfl hc10 .none rfl ?_
     obtain rfl := Option.some.inj hF
     exact hJ9 _ ⟨rfl, rfl⟩
   ·rintro f ⟨hf1, hf27⟩
    refine (JL.norm (i := 1) hf1 (JL.norm (i := 27) hf27 ?_))
    refine JL.done hQ (JQ.go ?_)
    rcases ite_some hF with ⟨hc12, hF⟩ | ⟨hc12, hF⟩
    ·refine JC.cond_t (b := p8) rfl hc12 ?_
     refine JC.seq (JC.region (by rfl) ?_)
     intro hQ
     refine JL.assign .none rfl ?_
     refine JL.done hQ (JQ.go (JC.ret (JQ.ret_then ?_)))
     obtain rfl := Option.some.inj hF
     exact JQ.outS rfl (.tmp .nil) rfl
    ·refine JC.cond_f (b := p8) rfl hc12 ?_
     refine JC.skip (JQ.go (JC.seq (JC.seq (JC.region (by rfl) ?_))))
     intro hQ
     refine JL.assign .none rfl ?_
     refine JL.done hQ (JQ.go ?_)
     obtain ⟨r76, hlr76, hKr76⟩ := bind_some hF
     refine JC.join (fun (_ : Unit) H75 f bs gs => f 1 = .pointer (some ⟨b1, 0, none⟩) ∧ bs = [(b1, .cells [r_v0, .int .i64 r.Canopy.Frame.Low, .int .i64 r.Canopy.Frame.High, .int .i64 r.Canopy.Frame.Ease.Num, .int .i64 r.Canopy.Frame.Ease.Den, .int .i64 r.Canopy.Frame.Rod, .int .i64 r.Canopy.Frame.Case, r_v7, r_v8, r_v9, r_v10, .int .i64 r.Wrong].toArray 90)] ∧ gs = [] ∧ HSub H H75 ∧ Sum.inr () = r76) ?_ ?_
     ·skip
      refine JC.block (JC.loop hlr76 (fun (i_117 : Int) H118 f bs gs => f 1 = .pointer (some ⟨b1, 0, none⟩) ∧ f 3 = .int .i64 i_117 ∧ bs = [(b1, .cells [r_v0, .int .i64 r.Canopy.Frame.Low, .int .i64 r.Canopy.Frame.High, .int .i64 r.Canopy.Frame.Ease.Num, .int .i64 r.Canopy.Frame.Ease.Den, .int .i64 r.Canopy.Frame.Rod, .int .i64 r.Canopy.Frame.Case, r_v7, r_v8, r_v9, r_v10, .int .i64 r.Wrong].toArray 90)] ∧ gs = [] ∧ HSub H H118) ⟨rfl, rfl, rfl, rfl, (HSub.refl _)⟩ ?_)
      rintro i_117 x120 H118 f bs gs ⟨hf1, hf3, rfl, rfl, hs118⟩ hF hr119
      rw [F_ref13_Check_s1] at hF
      refine (JC.norm (i := 1) hf1 (JC.norm (i := 3) hf3 ?_))
      refine JC.seq (JC.seq (JC.region (by rfl) ?_))
      intro hQ
      refine JL.move .none rfl ?_
      refine JL.fieldAddr fo_90_1 rfl .none rfl ?_
      refine JL.loadOwn 0 az_87 rfl rfl rfl .none rfl ?_
      refine JL.lenSL (R := R_Blow) ul_87 (SL.mono R_Blow_mono hs118 hr_9) .none rfl ?_
      refine JL.bin rfl rfl rfl .none rfl ?_
      refine JL.done hQ (JQ.go ?_)
      rcases ite_some hF with ⟨hc121, hF⟩ | ⟨hc121, hF⟩
      ·refine JC.cond_t (b := decide (i_117 < (r.Blows.length : Int))) rfl hc121 ?_
       refine JC.skip (JQ.go (JC.seq (JC.block (JC.seq (JC.region (by rfl) ?_)))))
       intro hQ
       refine JL.fieldAddr fo_90_1 rfl .none rfl ?_
       refine JL.loadOwn 0 az_87 rfl rfl rfl .none rfl ?_
       refine JL.move .none rfl ?_
       obtain ⟨y122, hy122, hF⟩ := bind_some hF
       refine JL.indexSL (R := R_Blow) sl_87 (SL.mono R_Blow_mono hs118 hr_9) rfl hy122 .none rfl ?_
       rintro b123 o124 cs125 hc126 - rfl
       refine JL.loadH 0 az_98 rfl hc126 rfl .none rfl ?_
       refine JL.alloc ze_98 .none rfl ?_
       intro b127
       refine JL.storeOwn 0 (cs := [.int .i64 y122.At, .int .i64 y122.Force.Low, .int .i64 y122.Force.High]) az_98 rfl rfl rfl (one_cons rfl (one_cons rfl (one_cons rfl one_nil))) rfl rfl .none ?_
       refine JL.done hQ (JQ.go (JC.seq (JC.region (by rfl) ?_)))
       intro hQ
       refine JL.fieldAddr fo_90_0 rfl .none rfl ?_
       refine JL.loadOwn 1 az_76 rfl rfl rfl .none rfl ?_
       refine JL.fieldAddr fo_98_0 rfl .none rfl ?_
       refine JL.loadOwn 0 az_3 rfl rfl rfl .none rfl ?_
       obtain ⟨y128, hy128, hF⟩ := bind_some hF
       refine JL.callS (c_ref05_IsRib n H118 r.Canopy r_v0 (SL.mono R_Section_mono hs118 hr_0) r_v7 (SL.mono R_Span_mono hs118 hr_7) r_v8 (SL.mono RInt.mono hs118 hr_8) y122.At y128 hy128) rfl en_34 .none rfl ?_
       refine JL.not rfl .none rfl ?_
       refine JL.move .none rfl ?_
       obtain ⟨p130, hp130, hF⟩ := bind_some hF
       refine JL.cut 9 (fun f => f 1 = .pointer (some ⟨b1, 0, none⟩) ∧ f 3 = .int .i64 i_117 ∧ f 4 = .pointer (some ⟨b127, 0, none⟩) ∧ f 55 = .bool p130) ?_ ?_
       ·intro hJ131
        rcases ite_some hp130 with ⟨hc132, hF⟩ | ⟨hc132, hF⟩
        ·skip
         refine JL.skip (.bool rfl rfl rfl hc132) rfl ?_
         refine JL.skip (.bool rfl rfl rfl hc132) rfl ?_
         refine JL.skip (.bool rfl rfl rfl hc132) rfl ?_
         refine JL.skip (.bool rfl rfl rfl hc132) rfl ?_
         refine JL.skip (.bool rfl rfl rfl hc132) rfl ?_
         refine JL.skip (.bool rfl rfl rfl hc132) rfl ?_
         refine JL.skip (.bool rfl rfl rfl hc132) rfl ?_
         refine JL.skip (.bool rfl rfl rfl hc132) rfl ?_
         refine JL.pick_t (b := (!y128)) rfl hc132 .none rfl ?_
         obtain rfl := Option.some.inj hF
         exact hJ131 _ ⟨rfl, rfl, rfl, rfl⟩
        ·skip
         refine JL.fieldAddr fo_98_1 rfl (.some rfl rfl rfl hc132) rfl ?_
         refine JL.fieldAddr fo_39_0 rfl (.some rfl rfl rfl hc132) rfl ?_
         refine JL.loadOwn 0 az_3 rfl rfl rfl (.some rfl rfl rfl hc132) rfl ?_
         refine JL.fieldAddr fo_98_1 rfl (.some rfl rfl rfl hc132) rfl ?_
         refine JL.fieldAddr fo_39_1 rfl (.some rfl rfl rfl hc132) rfl ?_
         refine JL.loadOwn 0 az_3 rfl rfl rfl (.some rfl rfl rfl hc132) rfl ?_
         obtain ⟨y133, hy133, hF⟩ := bind_some hF
         refine JL.callS (c_ref13_within n H118 y122.Force.Low 0 y122.Force.High y133 hy133) rfl en_146 (.some rfl rfl rfl hc132) rfl ?_
         refine JL.not rfl (.some rfl rfl rfl hc132) rfl ?_
         refine JL.pick_f (b := (!y128)) rfl hc132 .none rfl ?_
         obtain rfl := Option.some.inj hF
         exact hJ131 _ ⟨rfl, rfl, rfl, rfl⟩
       ·rintro f ⟨hf1, hf3, hf4, hf55⟩
        refine (JL.norm (i := 1) hf1 (JL.norm (i := 3) hf3 (JL.norm (i := 4) hf4 (JL.norm (i := 55) hf55 ?_))))
        refine JL.move .none rfl ?_
        refine JL.cut 5 (fun f => f 1 = .pointer (some ⟨b1, 0, none⟩) ∧ f 3 = .int .i64 i_117 ∧ f 4 = .pointer (some ⟨b127, 0, none⟩) ∧ f 61 = .bool (p130 || (decide (99 < y122.Force.High)))) ?_ ?_
        ·intro hJ134
         rcases bcases p130 with hc135 | hc135
         ·skip
          refine JL.skip (.bool rfl rfl rfl hc135) rfl ?_
          refine JL.skip (.bool rfl rfl rfl hc135) rfl ?_
          refine JL.skip (.bool rfl rfl rfl hc135) rfl ?_
          refine JL.skip (.bool rfl rfl rfl hc135) rfl ?_
          refine JL.pick_t (b := p130) rfl hc135 .none rfl ?_
          exact hJ134 _ ⟨rfl, rfl, rfl, or_t hc135 rfl⟩
         ·skip
          refine JL.fieldAddr fo_98_1 rfl (.some rfl rfl rfl hc135) rfl ?_
          refine JL.fieldAddr fo_39_1 rfl (.some rfl rfl rfl hc135) rfl ?_
          refine JL.loadOwn 0 az_3 rfl rfl rfl (.some rfl rfl rfl hc135) rfl ?_
          refine JL.bin rfl rfl rfl (.some rfl rfl rfl hc135) rfl ?_
          refine JL.pick_f (b := p130) rfl hc135 .none rfl ?_
          exact hJ134 _ ⟨rfl, rfl, rfl, or_f hc135 rfl⟩
        ·rintro f ⟨hf1, hf3, hf4, hf61⟩
         refine (JL.norm (i := 1) hf1 (JL.norm (i := 3) hf3 (JL.norm (i := 4) hf4 (JL.norm (i := 61) hf61 ?_))))
         refine JL.move .none rfl ?_
         refine JL.cut 9 (fun f => f 1 = .pointer (some ⟨b1, 0, none⟩) ∧ f 3 = .int .i64 i_117 ∧ f 71 = .bool ((p130 || (decide (99 < y122.Force.High))) || (decide (9 < (w64 (y122.Force.High - y122.Force.Low)))))) ?_ ?_
         ·intro hJ136
          rcases bcases (p130 || (decide (99 < y122.Force.High))) with hc137 | hc137
          ·skip
           refine JL.skip (.bool rfl rfl rfl hc137) rfl ?_
           refine JL.skip (.bool rfl rfl rfl hc137) rfl ?_
           refine JL.skip (.bool rfl rfl rfl hc137) rfl ?_
           refine JL.skip (.bool rfl rfl rfl hc137) rfl ?_
           refine JL.skip (.bool rfl rfl rfl hc137) rfl ?_
           refine JL.skip (.bool rfl rfl rfl hc137) rfl ?_
           refine JL.skip (.bool rfl rfl rfl hc137) rfl ?_
           refine JL.skip (.bool rfl rfl rfl hc137) rfl ?_
           refine JL.pick_t (b := (p130 || (decide (99 < y122.Force.High)))) rfl hc137 .none rfl ?_
           exact hJ136 _ ⟨rfl, rfl, or_t hc137 rfl⟩
          ·skip
           refine JL.fieldAddr fo_98_1 rfl (.some rfl rfl rfl hc137) rfl ?_
           refine JL.fieldAddr fo_39_1 rfl (.some rfl rfl rfl hc137) rfl ?_
           refine JL.loadOwn 0 az_3 rfl rfl rfl (.some rfl rfl rfl hc137) rfl ?_
           refine JL.fieldAddr fo_98_1 rfl (.some rfl rfl rfl hc137) rfl ?_
           refine JL.fieldAddr fo_39_0 rfl (.some rfl rfl rfl hc137) rfl ?_
           refine JL.loadOwn 0 az_3 rfl rfl rfl (.some rfl rfl rfl hc137) rfl ?_
           refine JL.bin rfl rfl rfl (.some rfl rfl rfl hc137) rfl ?_
           refine JL.bin rfl rfl rfl (.some rfl rfl rfl hc137) rfl ?_
           refine JL.pick_f (b := (p130 || (decide (99 < y122.Force.High)))) rfl hc137 .none rfl ?_
           exact hJ136 _ ⟨rfl, rfl, or_f hc137 rfl⟩
         ·rintro f ⟨hf1, hf3, hf71⟩
          refine (JL.norm (i := 1) hf1 (JL.norm (i := 3) hf3 (JL.norm (i := 71) hf71 ?_)))
          refine JL.done hQ (JQ.go ?_)
          rcases ite_some hF with ⟨hc138, hF⟩ | ⟨hc138, hF⟩
          ·refine JC.cond_t (b := ((p130 || (decide (99 < y122.Force.High))) || (decide (9 < (w64 (y122.Force.High - y122.Force.Low)))))) rfl hc138 ?_
           refine JC.seq (JC.region (by rfl) ?_)
           intro hQ
           refine JL.assign .none rfl ?_
           refine JL.done hQ (JQ.go (JC.ret (JQ.ret_block (JQ.ret_then (JQ.ret_then (JQ.ret_block (JQ.ret_join (JQ.ret_then ?_))))))))
           obtain rfl := Option.some.inj hF
           have ehr119 := hr119 _ rfl
           subst ehr119
           have hF := hKr76
           try dsimp only at hF
           obtain rfl := Option.some.inj hF
           exact JQ.outS rfl (.tmp .nil) rfl
          ·refine JC.cond_f (b := ((p130 || (decide (99 < y122.Force.High))) || (decide (9 < (w64 (y122.Force.High - y122.Force.Low)))))) rfl hc138 ?_
           refine JC.skip (JQ.normal_block (JQ.go (JC.region (by rfl) ?_)))
           intro hQ
           refine JL.move .none rfl ?_
           refine JL.bin rfl rfl rfl .none rfl ?_
           refine JL.assign .none rfl ?_
           refine JL.done hQ ?_
           obtain rfl := Option.some.inj hF
           refine JQ.mask [false, true] [] ?_
           exact JQ.next rfl ⟨rfl, rfl, rfl, rfl, hs118⟩
      ·refine JC.cond_f (b := decide (i_117 < (r.Blows.length : Int))) rfl hc121 ?_
       refine JC.exit (JQ.exit_then (JQ.exit_then (JQ.exit_block ?_)))
       obtain rfl := Option.some.inj hF
       have ehr119 := hr119 _ rfl
       subst ehr119
       exact JQ.join () ⟨rfl, rfl, rfl, hs118, rfl⟩
     ·rintro _ H75 f bs gs ⟨hf1, rfl, rfl, hs75, rfl⟩
      have hF := hKr76
      try dsimp only at hF
      refine (JQ.norm (i := 1) hf1 ?_)
      refine JQ.go (JC.seq (JC.seq (JC.region (by rfl) ?_)))
      intro hQ
      refine JL.assign .none rfl ?_
      refine JL.done hQ (JQ.go ?_)
      obtain ⟨r217, hlr217, hKr217⟩ := bind_some hF
      refine JC.join (fun (_ : Unit) H216 f bs gs => bs = [] ∧ gs = [] ∧ HSub H75 H216 ∧ Sum.inr () = r217) ?_ ?_
      ·skip
       refine JC.block (JC.loop hlr217 (fun (i_268 : Int) H269 f bs gs => f 1 = .pointer (some ⟨b1, 0, none⟩) ∧ f 5 = .int .i64 i_268 ∧ bs = [(b1, .cells [r_v0, .int .i64 r.Canopy.Frame.Low, .int .i64 r.Canopy.Frame.High, .int .i64 r.Canopy.Frame.Ease.Num, .int .i64 r.Canopy.Frame.Ease.Den, .int .i64 r.Canopy.Frame.Rod, .int .i64 r.Canopy.Frame.Case, r_v7, r_v8, r_v9, r_v10, .int .i64 r.Wrong].toArray 90)] ∧ gs = [] ∧ HSub H75 H269) ⟨rfl, rfl, rfl, rfl, (HSub.refl _)⟩ ?_)
       rintro i_268 x271 H269 f bs gs ⟨hf1, hf5, rfl, rfl, hs269⟩ hF hr270
       rw [F_ref13_Check_s2] at hF
       refine (JC.norm (i := 1) hf1 (JC.norm (i := 5) hf5 ?_))
       refine JC.seq (JC.seq (JC.region (by rfl) ?_))
       intro hQ
       refine JL.move .none rfl ?_
       refine JL.fieldAddr fo_90_2 rfl .none rfl ?_
       refine JL.loadOwn 0 az_88 rfl rfl rfl .none rfl ?_
       refine JL.lenSL (R := R_Meter) ul_88 (SL.mono R_Meter_mono (HSub.trans hs75 hs269) hr_10) .none rfl ?_
       refine JL.bin rfl rfl rfl .none rfl ?_
       refine JL.done hQ (JQ.go ?_)
       rcases ite_some hF with ⟨hc272, hF⟩ | ⟨hc272, hF⟩
       ·refine JC.cond_t (b := decide (i_268 < (r.Meters.length : Int))) rfl hc272 ?_
        refine JC.skip (JQ.go (JC.seq (JC.block (JC.seq (JC.region (by rfl) ?_)))))
        intro hQ
        refine JL.fieldAddr fo_90_2 rfl .none rfl ?_
        refine JL.loadOwn 0 az_88 rfl rfl rfl .none rfl ?_
        refine JL.move .none rfl ?_
        obtain ⟨y273, hy273, hF⟩ := bind_some hF
        refine JL.indexSL (R := R_Meter) sl_88 (SL.mono R_Meter_mono (HSub.trans hs75 hs269) hr_10) rfl hy273 .none rfl ?_
        rintro b274 o275 cs276 hc277 - rfl
        refine JL.fieldAddr fo_206_0 rfl .none rfl ?_
        refine JL.loadH 0 az_3 rfl hc277 rfl .none rfl ?_
        obtain ⟨y278, hy278, hF⟩ := bind_some hF
        refine JL.callS (c_ref13_within n H269 y273.Limit 0 99 y278 hy278) rfl en_146 .none rfl ?_
        refine JL.not rfl .none rfl ?_
        refine JL.move .none rfl ?_
        obtain ⟨p285, hp285, hF⟩ := bind_some hF
        refine JL.cut 9 (fun f => f 1 = .pointer (some ⟨b1, 0, none⟩) ∧ f 5 = .int .i64 i_268 ∧ f 96 = .bool p285) ?_ ?_
        ·intro hJ286
         rcases ite_some hp285 with ⟨hc287, hF⟩ | ⟨hc287, hF⟩
         ·skip
          refine JL.skip (.bool rfl rfl rfl hc287) rfl ?_
          refine JL.skip (.bool rfl rfl rfl hc287) rfl ?_
          refine JL.skip (.bool rfl rfl rfl hc287) rfl ?_
          refine JL.skip (.bool rfl rfl rfl hc287) rfl ?_
          refine JL.skip (.bool rfl rfl rfl hc287) rfl ?_
          refine JL.skip (.bool rfl rfl rfl hc287) rfl ?_
          refine JL.skip (.bool rfl rfl rfl hc287) rfl ?_
          refine JL.skip (.bool rfl rfl rfl hc287) rfl ?_
          refine JL.pick_t (b := (!y278)) rfl hc287 .none rfl ?_
          obtain rfl := Option.some.inj hF
          exact hJ286 _ ⟨rfl, rfl, rfl⟩
         ·skip
          refine JL.fieldAddr fo_90_2 rfl (.some rfl rfl rfl hc287) rfl ?_
          refine JL.loadOwn 0 az_88 rfl rfl rfl (.some rfl rfl rfl hc287) rfl ?_
          refine JL.move (.some rfl rfl rfl hc287) rfl ?_
          obtain ⟨y288, hy288, hF⟩ := bind_some hF
          refine JL.indexSL (R := R_Meter) sl_88 (SL.mono R_Meter_mono (HSub.trans hs75 hs269) hr_10) rfl hy288 (.some rfl rfl rfl hc287) rfl ?_
          rintro b289 o290 cs291 hc292 - rfl
          refine JL.fieldAddr fo_206_1 rfl (.some rfl rfl rfl hc287) rfl ?_
          refine JL.loadH 1 az_3 rfl hc292 rfl (.some rfl rfl rfl hc287) rfl ?_
          obtain ⟨y293, hy293, hF⟩ := bind_some hF
          refine JL.callS (c_ref13_within n H269 y288.Count 0 8 y293 hy293) rfl en_146 (.some rfl rfl rfl hc287) rfl ?_
          refine JL.not rfl (.some rfl rfl rfl hc287) rfl ?_
          refine JL.pick_f (b := (!y278)) rfl hc287 .none rfl ?_
          obtain rfl := Option.some.inj hF
          exact hJ286 _ ⟨rfl, rfl, rfl⟩
        ·rintro f ⟨hf1, hf5, hf96⟩
         refine (JL.norm (i := 1) hf1 (JL.norm (i := 5) hf5 (JL.norm (i := 96) hf96 ?_)))
         refine JL.done hQ (JQ.go ?_)
         rcases ite_some hF with ⟨hc294, hF⟩ | ⟨hc294, hF⟩
         ·refine JC.cond_t (b := p285) rfl hc294 ?_
          refine JC.seq (JC.region (by rfl) ?_)
          intro hQ
          refine JL.assign .none rfl ?_
          refine JL.done hQ (JQ.go (JC.ret (JQ.ret_block (JQ.ret_then (JQ.ret_then (JQ.ret_block (JQ.ret_join (JQ.ret_then ?_))))))))
          obtain rfl := Option.some.inj hF
          have ehr270 := hr270 _ rfl
          subst ehr270
          have hF := hKr217
          try dsimp only at hF
          obtain rfl := Option.some.inj hF
          exact JQ.outS rfl (.tmp .nil) rfl
         ·refine JC.cond_f (b := p285) rfl hc294 ?_
          refine JC.skip (JQ.normal_block (JQ.go (JC.region (by rfl) ?_)))
          intro hQ
          refine JL.move .none rfl ?_
          refine JL.bin rfl rfl rfl .none rfl ?_
          refine JL.assign .none rfl ?_
          refine JL.done hQ ?_
          obtain rfl := Option.some.inj hF
          exact JQ.next rfl ⟨rfl, rfl, rfl, rfl, hs269⟩
       ·refine JC.cond_f (b := decide (i_268 < (r.Meters.length : Int))) rfl hc272 ?_
        refine JC.exit (JQ.exit_then (JQ.exit_then (JQ.exit_block ?_)))
        obtain rfl := Option.some.inj hF
        have ehr270 := hr270 _ rfl
        subst ehr270
        refine JQ.mask [false] [] ?_
        exact JQ.join () ⟨rfl, rfl, hs269, rfl⟩
      ·rintro _ H216 f bs gs ⟨rfl, rfl, hs216, rfl⟩
       have hF := hKr217
       try dsimp only at hF
       refine JQ.go (JC.seq (JC.region (by rfl) ?_))
       intro hQ
       refine JL.assign .none rfl ?_
       refine JL.done hQ (JQ.go (JC.ret ?_))
       obtain rfl := Option.some.inj hF
       exact JQ.outS rfl (.tmp .nil) rfl
-- 92 ferrule/ferrulelaw13.Far
def F_law13_Far_s1 (n : Nat) (r : Run) : Int × Int → Option ((Int × Int) ⊕ (Bool ⊕ Unit))
 | (n_139, i_140) => if decide (i_140 < (r.Blows.length : Int)) = true then ((geti r.Blows i_140).bind fun y155 => (geti r.Blows i_140).bind fun y160 => if decide (600 < (w64 (n_139 * (w64 ((w64 (y155.Force.High - y160.Force.Low)) + 1))))) = true then (some (Sum.inr (Sum.inl true))) else (some (Sum.inl ((w64 (n_139 * (w64 ((w64 (y155.Force.High - y160.Force.Low)) + 1)))), (w64 (i_140 + 1)))))) else (some (Sum.inr (Sum.inr ())))
def F_law13_Far (n : Nat) (r : Run) : Option Bool :=
 (F_law05_Far n r.Canopy).bind fun y2 => if ((y2 || (decide (40 < (r.Blows.length : Int)))) || (decide (40 < (r.Meters.length : Int)))) = true then (some true) else ((F_ref13_Check n r).bind fun y8 => if (y8 != 0) = true then (some false) else ((loopO n (F_law13_Far_s1 n r) (1, 0)).bind fun r88 => match r88 with | .inl o => some o | .inr _ => some false))
theorem c_law13_Far (n : Nat) (H : Hp) (r : Run) (r_v0 : Value) (hr_0 : SL H 7 R_Section r_v0 r.Canopy.Frame.Sections) (r_v7 : Value) (hr_7 : SL H 2 R_Span r_v7 r.Canopy.Ribs) (r_v8 : Value) (hr_8 : SL H 1 RInt r_v8 r.Canopy.Shares) (r_v9 : Value) (hr_9 : SL H 3 R_Blow r_v9 r.Blows) (r_v10 : Value) (hr_10 : SL H 2 R_Meter r_v10 r.Meters) (y : Bool) (hF : F_law13_Far n r = some y) : SC Try.prog 92 [.agg [r_v0, .int .i64 r.Canopy.Frame.Low, .int .i64 r.Canopy.Frame.High, .int .i64 r.Canopy.Frame.Ease.Num, .int .i64 r.Canopy.Frame.Ease.Den, .int .i64 r.Canopy.Frame.Rod, .int .i64 r.Canopy.Frame.Case, r_v7, r_v8, r_v9, r_v10, .int .i64 r.Wrong].toArray] (.bool y) H := by
 rw [F_law13_Far] at hF
 refine SC.of (N := 50) Try.func92 rfl rfl rfl fun w => ?_
 refine JC.seq (JC.region (by rfl) ?_)
 intro hQ
 refine JL.box (cs := [r_v0, .int .i64 r.Canopy.Frame.Low, .int .i64 r.Canopy.Frame.High, .int .i64 r.Canopy.Frame.Ease.Num, .int .i64 r.Canopy.Frame.Ease.Den, .int .i64 r.Canopy.Frame.Rod, .int .i64 r.Canopy.Frame.Case, r_v7, r_v8, r_v9, r_v10, .int .i64 r.Wrong]) rfl .none rfl ?_
 intro b1
 refine JL.assign .none rfl ?_
 refine JL.done hQ (JQ.go (JC.seq (JC.seq (JC.region (by rfl) ?_))))
 intro hQ
 refine JL.fieldAddr fo_90_0 rfl .none rfl ?_
 refine JL.loadOwn 0 az_76 rfl rfl rfl .none rfl ?_
 obtain ⟨y2, hy2, hF⟩ := bind_some hF
 refine JL.callS (c_law05_Far n H r.Canopy r_v0 hr_0 r_v7 hr_7 r_v8 hr_8 y2 hy2) rfl en_32 .none rfl ?_
 refine JL.move .none rfl ?_
 refine JL.cut 5 (fun f => f 1 = .pointer (some ⟨b1, 0, none⟩) ∧ f 13 = .bool (y2 || (decide (40 < (r.Blows.length : Int))))) ?_ ?_
 ·intro hJ3
  rcases bcases y2 with hc4 | hc4
  ·skip
   refine JL.skip (.bool rfl rfl rfl hc4) rfl ?_
   refine JL.skip (.bool rfl rfl rfl hc4) rfl ?_
   refine JL.skip (.bool rfl rfl rfl hc4) rfl ?_
   refine JL.skip (.bool rfl rfl rfl hc4) rfl ?_
   refine JL.pick_t (b := y2) rfl hc4 .none rfl ?_
   exact hJ3 _ ⟨rfl, or_t hc4 rfl⟩
  ·skip
   refine JL.fieldAddr fo_90_1 rfl (.some rfl rfl rfl hc4) rfl ?_
   refine JL.loadOwn 0 az_87 rfl rfl rfl (.some rfl rfl rfl hc4) rfl ?_
   refine JL.lenSL (R := R_Blow) ul_87 hr_9 (.some rfl rfl rfl hc4) rfl ?_
   refine JL.bin rfl rfl rfl (.some rfl rfl rfl hc4) rfl ?_
   refine JL.pick_f (b := y2) rfl hc4 .none rfl ?_
   exact hJ3 _ ⟨rfl, or_f hc4 rfl⟩
 ·rintro f ⟨hf1, hf13⟩
  refine (JL.norm (i := 1) hf1 (JL.norm (i := 13) hf13 ?_))
  refine JL.move .none rfl ?_
  refine JL.cut 5 (fun f => f 1 = .pointer (some ⟨b1, 0, none⟩) ∧ f 19 = .bool ((y2 || (decide (40 < (r.Blows.length : Int)))) || (decide (40 < (r.Meters.length : Int))))) ?_ ?_
  ·intro hJ5
   rcases bcases (y2 || (decide (40 < (r.Blows.length : Int)))) with hc6 | hc6
   ·skip
    refine JL.skip (.bool rfl rfl rfl hc6) rfl ?_
    refine JL.skip (.bool rfl rfl rfl hc6) rfl ?_
    refine JL.skip (.bool rfl rfl rfl hc6) rfl ?_
    refine JL.skip (.bool rfl rfl rfl hc6) rfl ?_
    refine JL.pick_t (b := (y2 || (decide (40 < (r.Blows.length : Int))))) rfl hc6 .none rfl ?_
    exact hJ5 _ ⟨rfl, or_t hc6 rfl⟩
   ·skip
    refine JL.fieldAddr fo_90_2 rfl (.some rfl rfl rfl hc6) rfl ?_
    refine JL.loadOwn 0 az_88 rfl rfl rfl (.some rfl rfl rfl hc6) rfl ?_
    refine JL.lenSL (R := R_Meter) ul_88 hr_10 (.some rfl rfl rfl hc6) rfl ?_
    refine JL.bin rfl rfl rfl (.some rfl rfl rfl hc6) rfl ?_
    refine JL.pick_f (b := (y2 || (decide (40 < (r.Blows.length : Int))))) rfl hc6 .none rfl ?_
    exact hJ5 _ ⟨rfl, or_f hc6 rfl⟩
  ·rintro f ⟨hf1, hf19⟩
   refine (JL.norm (i := 1) hf1 (JL.norm (i := 19) hf19 ?_))
   refine JL.done hQ (JQ.go ?_)
   rcases ite_some hF with ⟨hc7, hF⟩ | ⟨hc7, hF⟩
   ·refine JC.cond_t (b := ((y2 || (decide (40 < (r.Blows.length : Int)))) || (decide (40 < (r.Meters.length : Int))))) rfl hc7 ?_
    refine JC.seq (JC.region (by rfl) ?_)
    intro hQ
    refine JL.assign .none rfl ?_
    refine JL.done hQ (JQ.go (JC.ret (JQ.ret_then ?_)))
    obtain rfl := Option.some.inj hF
    exact JQ.outS rfl (.tmp .nil) rfl
   ·refine JC.cond_f (b := ((y2 || (decide (40 < (r.Blows.length : Int)))) || (decide (40 < (r.Meters.length : Int))))) rfl hc7 ?_
    refine JC.skip (JQ.go (JC.seq (JC.seq (JC.region (by rfl) ?_))))
    intro hQ
    refine JL.loadOwn 0 az_90 rfl rfl rfl .none rfl ?_
    obtain ⟨y8, hy8, hF⟩ := bind_some hF
    refine JL.callS (c_ref13_Check n H r r_v0 hr_0 r_v7 hr_7 r_v8 hr_8 r_v9 hr_9 r_v10 hr_10 y8 hy8) rfl en_93 .none rfl ?_
    refine JL.bin rfl rfl rfl .none rfl ?_
    refine JL.done hQ (JQ.go ?_)
    rcases ite_some hF with ⟨hc9, hF⟩ | ⟨hc9, hF⟩
    ·refine JC.cond_t (b := (y8 != 0)) rfl hc9 ?_
     refine JC.seq (JC.region (by rfl) ?_)
     intro hQ
     refine JL.assign .none rfl ?_
     refine JL.done hQ (JQ.go (JC.ret (JQ.ret_then ?_)))
     obtain rfl := Option.some.inj hF
     exact JQ.outS rfl (.tmp .nil) rfl
    ·refine JC.cond_f (b := (y8 != 0)) rfl hc9 ?_
     refine JC.skip (JQ.go (JC.seq (JC.region (by rfl) ?_)))
     intro hQ
     refine JL.assign .none rfl ?_
     refine JL.done hQ (JQ.go (JC.seq (JC.seq (JC.region (by rfl) ?_))))
     intro hQ
     refine JL.assign .none rfl ?_
     refine JL.done hQ (JQ.go ?_)
     obtain ⟨r88, hlr88, hKr88⟩ := bind_some hF
     refine JC.join (fun (_ : Unit) H87 f bs gs => bs = [] ∧ gs = [] ∧ HSub H H87 ∧ Sum.inr () = r88) ?_ ?_
     ·skip
      refine JC.block (JC.loop hlr88 (fun (x : Int × Int) H141 f bs gs => match x with | (n_139, i_140) => f 1 = .pointer (some ⟨b1, 0, none⟩) ∧ f 3 = .int .i64 n_139 ∧ f 4 = .int .i64 i_140 ∧ bs = [(b1, .cells [r_v0, .int .i64 r.Canopy.Frame.Low, .int .i64 r.Canopy.Frame.High, .int .i64 r.Canopy.Frame.Ease.Num, .int .i64 r.Canopy.Frame.Ease.Den, .int .i64 r.Canopy.Frame.Rod, .int .i64 r.Canopy.Frame.Case, r_v7, r_v8, r_v9, r_v10, .int .i64 r.Wrong].toArray 90)] ∧ gs = [] ∧ HSub H H141) ⟨rfl, rfl, rfl, rfl, rfl, (HSub.refl _)⟩ ?_)
      rintro ⟨n_139, i_140⟩ x143 H141 f bs gs ⟨hf1, hf3, hf4, rfl, rfl, hs141⟩ hF hr142
      rw [F_law13_Far_s1] at hF
      refine (JC.norm (i := 1) hf1 (JC.norm (i := 3) hf3 (JC.norm (i := 4) hf4 ?_)))
      refine JC.seq (JC.seq (JC.region (by rfl) ?_))
      intro hQ
      refine JL.move .none rfl ?_
      refine JL.fieldAddr fo_90_1 rfl .none rfl ?_
      refine JL.loadOwn 0 az_87 rfl rfl rfl .none rfl ?_
      refine JL.lenSL (R := R_Blow) ul_87 (SL.mono R_Blow_mono hs141 hr_9) .none rfl ?_
      refine JL.bin rfl rfl rfl .none rfl ?_
      refine JL.done hQ (JQ.go ?_)
      rcases ite_some hF with ⟨hc144, hF⟩ | ⟨hc144, hF⟩
      ·refine JC.cond_t (b := decide (i_140 < (r.Blows.length : Int))) rfl hc144 ?_
       refine JC.skip (JQ.go (JC.seq (JC.block (JC.seq (JC.draw (by rfl) mo_ (by kernel_rfl) ?_)))))
       intro hQ
       refine JL.move .none rfl ?_
       refine JL.fieldAddr fo_90_1 rfl .none rfl ?_
       refine JL.loadOwn 0 az_87 rfl rfl rfl .none rfl ?_
       refine JL.move .none rfl ?_
       obtain ⟨y155, hy155, hF⟩ := bind_some hF
       refine JL.indexSL (R := R_Blow) sl_87 (SL.mono R_Blow_mono hs141 hr_9) rfl hy155 .none rfl ?_
       rintro b156 o157 cs158 hc159 - rfl
       refine JL.fieldAddr fo_98_1 rfl .none rfl ?_
       refine JL.fieldAddr fo_39_1 rfl .none rfl ?_
       refine JL.loadH 2 az_3 rfl hc159 rfl .none rfl ?_
       refine JL.fieldAddr fo_90_1 rfl .none rfl ?_
       refine JL.loadOwn 0 az_87 rfl rfl rfl .none rfl ?_
       refine JL.move .none rfl ?_
       obtain ⟨y160, hy160, hF⟩ := bind_some hF
       refine JL.indexSL (R := R_Blow) sl_87 (SL.mono R_Blow_mono hs141 hr_9) rfl hy160 .none rfl ?_
       rintro b161 o162 cs163 hc164 - rfl
       refine JL.fieldAddr fo_98_1 rfl .none rfl ?_
       refine JL.fieldAddr fo_39_0 rfl .none rfl ?_
       refine JL.loadH 1 az_3 rfl hc164 rfl .none rfl ?_
       refine JL.bin rfl rfl rfl .none rfl ?_
       refine JL.bin rfl rfl rfl .none rfl ?_
       refine JL.bin rfl rfl rfl .none rfl ?_
       refine JL.assign .none rfl ?_
       refine JL.doneQ hQ ?_
       refine JQ.go (JC.fresh (fun f => f 1 = .pointer (some ⟨b1, 0, none⟩) ∧ f 3 = .int .i64 (w64 (n_139 * (w64 ((w64 (y155.Force.High - y160.Force.Low)) + 1)))) ∧ f 4 = .int .i64 i_140) ⟨rfl, rfl, rfl⟩ ?_)
       rintro f ⟨hf1, hf3, hf4⟩
       refine (JC.norm (i := 1) hf1 (JC.norm (i := 3) hf3 (JC.norm (i := 4) hf4 ?_)))
       refine JC.seq (JC.region (by rfl) ?_)
       intro hQ
       refine JL.move .none rfl ?_
       refine JL.bin rfl rfl rfl .none rfl ?_
       refine JL.done hQ (JQ.go ?_)
       rcases ite_some hF with ⟨hc165, hF⟩ | ⟨hc165, hF⟩
       ·refine JC.cond_t (b := decide (600 < (w64 (n_139 * (w64 ((w64 (y155.Force.High - y160.Force.Low)) + 1)))))) rfl hc165 ?_
        refine JC.seq (JC.region (by rfl) ?_)
        intro hQ
        refine JL.assign .none rfl ?_
        refine JL.done hQ (JQ.go (JC.ret (JQ.ret_block (JQ.ret_then (JQ.ret_then (JQ.ret_block (JQ.ret_join (JQ.ret_then ?_))))))))
        obtain rfl := Option.some.inj hF
        have ehr142 := hr142 _ rfl
        subst ehr142
        have hF := hKr88
        try dsimp only at hF
        obtain rfl := Option.some.inj hF
        exact JQ.outS rfl (.tmp .nil) rfl
       ·refine JC.cond_f (b := decide (600 < (w64 (n_139 * (w64 ((w64 (y155.Force.High - y160.Force.Low)) + 1)))))) rfl hc165 ?_
        refine JC.skip (JQ.normal_block (JQ.go (JC.region (by rfl) ?_)))
        intro hQ
        refine JL.move .none rfl ?_
        refine JL.bin rfl rfl rfl .none rfl ?_
        refine JL.assign .none rfl ?_
        refine JL.done hQ ?_
        obtain rfl := Option.some.inj hF
        exact JQ.next rfl ⟨rfl, rfl, rfl, rfl, rfl, hs141⟩
      ·refine JC.cond_f (b := decide (i_140 < (r.Blows.length : Int))) rfl hc144 ?_
       refine JC.exit (JQ.exit_then (JQ.exit_then (JQ.exit_block ?_)))
       obtain rfl := Option.some.inj hF
       have ehr142 := hr142 _ rfl
       subst ehr142
       refine JQ.mask [false] [] ?_
       exact JQ.join () ⟨rfl, rfl, hs141, rfl⟩
     ·rintro _ H87 f bs gs ⟨rfl, rfl, hs87, rfl⟩
      have hF := hKr88
      try dsimp only at hF
      refine JQ.go (JC.seq (JC.region (by rfl) ?_))
      intro hQ
      refine JL.assign .none rfl ?_
      refine JL.done hQ (JQ.go (JC.ret ?_))
      obtain rfl := Option.some.inj hF
      exact JQ.outS rfl (.tmp .nil) rfl
end Go.Proofs.Yteihdclpiekmaaa
end
section
set_option maxRecDepth 100000
set_option maxHeartbeats 40000000
namespace Go.Proofs.Yteihdclpiekmaaa
open Go Go.RowKit Go.Dec
set_option linter.unusedVariables false
-- 40 ferrule/ferruletop.isRun
def F_top_isRun (n : Nat) (r : Run) : Option Bool :=
 (F_law13_Far n r).bind fun y2 => (if (!y2) = true then ((F_ref13_Check n r).bind fun y7 => some (y7 == 0)) else (some false) : Option Bool).bind fun p4 => some p4
theorem c_top_isRun (n : Nat) (H : Hp) (r : Run) (r_v0 : Value) (hr_0 : SL H 7 R_Section r_v0 r.Canopy.Frame.Sections) (r_v7 : Value) (hr_7 : SL H 2 R_Span r_v7 r.Canopy.Ribs) (r_v8 : Value) (hr_8 : SL H 1 RInt r_v8 r.Canopy.Shares) (r_v9 : Value) (hr_9 : SL H 3 R_Blow r_v9 r.Blows) (r_v10 : Value) (hr_10 : SL H 2 R_Meter r_v10 r.Meters) (y : Bool) (hF : F_top_isRun n r = some y) : SC Try.prog 40 [.agg [r_v0, .int .i64 r.Canopy.Frame.Low, .int .i64 r.Canopy.Frame.High, .int .i64 r.Canopy.Frame.Ease.Num, .int .i64 r.Canopy.Frame.Ease.Den, .int .i64 r.Canopy.Frame.Rod, .int .i64 r.Canopy.Frame.Case, r_v7, r_v8, r_v9, r_v10, .int .i64 r.Wrong].toArray] (.bool y) H := by
 rw [F_top_isRun] at hF
 refine SC.of (N := 11) Try.func40 rfl rfl rfl fun w => ?_
 refine JC.seq (JC.region (by rfl) ?_)
 intro hQ
 refine JL.box (cs := [r_v0, .int .i64 r.Canopy.Frame.Low, .int .i64 r.Canopy.Frame.High, .int .i64 r.Canopy.Frame.Ease.Num, .int .i64 r.Canopy.Frame.Ease.Den, .int .i64 r.Canopy.Frame.Rod, .int .i64 r.Canopy.Frame.Case, r_v7, r_v8, r_v9, r_v10, .int .i64 r.Wrong]) rfl .none rfl ?_
 intro b1
 refine JL.assign .none rfl ?_
 refine JL.done hQ (JQ.go (JC.seq (JC.region (by rfl) ?_)))
 intro hQ
 refine JL.loadOwn 0 az_90 rfl rfl rfl .none rfl ?_
 obtain ⟨y2, hy2, hF⟩ := bind_some hF
 refine JL.callS (c_law13_Far n H r r_v0 hr_0 r_v7 hr_7 r_v8 hr_8 r_v9 hr_9 r_v10 hr_10 y2 hy2) rfl en_92 .none rfl ?_
 refine JL.not rfl .none rfl ?_
 refine JL.move .none rfl ?_
 obtain ⟨p4, hp4, hF⟩ := bind_some hF
 refine JL.cut 4 (fun f => f 10 = .bool p4) ?_ ?_
 ·intro hJ5
  rcases ite_some hp4 with ⟨hc6, hF⟩ | ⟨hc6, hF⟩
  ·skip
   refine JL.loadOwn 0 az_90 rfl rfl rfl (.some rfl rfl rfl hc6) rfl ?_
   obtain ⟨y7, hy7, hF⟩ := bind_some hF
   refine JL.callS (c_ref13_Check n H r r_v0 hr_0 r_v7 hr_7 r_v8 hr_8 r_v9 hr_9 r_v10 hr_10 y7 hy7) rfl en_93 (.some rfl rfl rfl hc6) rfl ?_
   refine JL.bin rfl rfl rfl (.some rfl rfl rfl hc6) rfl ?_
   refine JL.pick_t (b := (!y2)) rfl hc6 .none rfl ?_
   obtain rfl := Option.some.inj hF
   exact hJ5 _ (rfl)
  ·skip
   refine JL.skip (.bool rfl rfl rfl hc6) rfl ?_
   refine JL.skip (.bool rfl rfl rfl hc6) rfl ?_
   refine JL.skip (.bool rfl rfl rfl hc6) rfl ?_
   refine JL.pick_f (b := (!y2)) rfl hc6 .none rfl ?_
   obtain rfl := Option.some.inj hF
   exact hJ5 _ (rfl)
 ·rintro f hf10
  refine (JL.norm (i := 10) hf10 ?_)
  refine JL.assign .none rfl ?_
  refine JL.done hQ (JQ.go (JC.ret ?_))
  obtain rfl := Option.some.inj hF
  exact JQ.outS rfl (.tmp .nil) rfl
-- 69 ferrule/ferrulelaw01.Example
def F_law01_Example (n : Nat)  : Option Frame :=
 some (Frame.mk [(Section.mk (Span.mk 50 52) (Span.mk 60 60) 0 (Frac.mk 1 1)), (Section.mk (Span.mk 40 40) (Span.mk 45 46) 5 (Frac.mk 1 2))] 20 100 (Frac.mk 1 20) 300 351)
theorem c_law01_Example (n : Nat) (H : Hp)  (y : Frame) (hF : F_law01_Example n = some y) : HC Try.prog 69 [] H (fun H' v => ∃ ra_v0 : Value, v = .agg [ra_v0, .int .i64 y.Low, .int .i64 y.High, .int .i64 y.Ease.Num, .int .i64 y.Ease.Den, .int .i64 y.Rod, .int .i64 y.Case].toArray ∧ SL H' 7 R_Section ra_v0 y.Sections) := by
 rw [F_law01_Example] at hF
 refine HC.of (N := 12) Try.func69 rfl rfl rfl fun w => ?_
 refine JC.seq (JC.region (by rfl) ?_)
 intro hQ
 refine JL.alloc ze_53 .none rfl ?_
 intro b1
 refine JL.done hQ (JQ.go (JC.seq (JC.region (by rfl) ?_)))
 intro hQ
 refine JL.build (l := [.int .i64 50, .int .i64 52]) (by kernel_rfl) .none rfl ?_
 refine JL.build (l := [.int .i64 60, .int .i64 60]) (by kernel_rfl) .none rfl ?_
 refine JL.build (l := [.int .i64 1, .int .i64 1]) (by kernel_rfl) .none rfl ?_
 refine JL.build (l := [.int .i64 50, .int .i64 52, .int .i64 60, .int .i64 60, .int .i64 0, .int .i64 1, .int .i64 1]) (by kernel_rfl) .none rfl ?_
 refine JL.build (l := [.int .i64 40, .int .i64 40]) (by kernel_rfl) .none rfl ?_
 refine JL.build (l := [.int .i64 45, .int .i64 46]) (by kernel_rfl) .none rfl ?_
 refine JL.build (l := [.int .i64 1, .int .i64 2]) (by kernel_rfl) .none rfl ?_
 refine JL.build (l := [.int .i64 40, .int .i64 40, .int .i64 45, .int .i64 46, .int .i64 5, .int .i64 1, .int .i64 2]) (by kernel_rfl) .none rfl ?_
 refine JL.buildSlice (e := 68) (l := [.int .i64 50, .int .i64 52, .int .i64 60, .int .i64 60, .int .i64 0, .int .i64 1, .int .i64 1, .int .i64 40, .int .i64 40, .int .i64 45, .int .i64 46, .int .i64 5, .int .i64 1, .int .i64 2]) (by kernel_rfl) .none rfl ?_
 intro b2
 refine JL.build (l := [.int .i64 1, .int .i64 20]) (by kernel_rfl) .none rfl ?_
 refine JL.build (l := [.slice (some ⟨b2, 0, none⟩) 2 2, .int .i64 20, .int .i64 100, .int .i64 1, .int .i64 20, .int .i64 300, .int .i64 351]) (by kernel_rfl) .none rfl ?_
 refine JL.storeOwn 1 (cs := [.slice (some ⟨b2, 0, none⟩) 2 2, .int .i64 20, .int .i64 100, .int .i64 1, .int .i64 20, .int .i64 300, .int .i64 351]) az_53 rfl rfl rfl (one_cons rfl (one_cons rfl (one_cons rfl (one_cons rfl (one_cons rfl (one_cons rfl (one_cons rfl one_nil))))))) rfl rfl .none ?_
 refine JL.done hQ (JQ.go (JC.ret (JQ.freezeC 0 (l := [.int .i64 50, .int .i64 52, .int .i64 60, .int .i64 60, .int .i64 0, .int .i64 1, .int .i64 1, .int .i64 40, .int .i64 40, .int .i64 45, .int .i64 46, .int .i64 5, .int .i64 1, .int .i64 2]) rfl ?_)))
 intro H3 hs3 hc4
 have hg5 : SL H3 7 R_Section (.slice (some ⟨b2, 0, none⟩) 2 2) [(Section.mk (Span.mk 50 52) (Span.mk 60 60) 0 (Frac.mk 1 1)), (Section.mk (Span.mk 40 40) (Span.mk 45 46) 5 (Frac.mk 1 2))] := CH.sl (l := [(Section.mk (Span.mk 50 52) (Span.mk 60 60) 0 (Frac.mk 1 1)), (Section.mk (Span.mk 40 40) (Span.mk 45 46) 5 (Frac.mk 1 2))]) (CH.cons (cs := [.int .i64 50, .int .i64 52, .int .i64 60, .int .i64 60, .int .i64 0, .int .i64 1, .int .i64 1]) rfl rfl (CH.cons (cs := [.int .i64 40, .int .i64 40, .int .i64 45, .int .i64 46, .int .i64 5, .int .i64 1, .int .i64 2]) rfl rfl CH.nil)) hc4 ⟨by simp, by simp⟩
 obtain rfl := Option.some.inj hF
 exact JQ.outH rfl (.cell 0 az_53 rfl rfl rfl .nil) ⟨(.slice (some ⟨b2, 0, none⟩) 2 2), rfl, hg5⟩
-- 83 ferrule/ferrulelaw05.Example
def F_law05_Example (n : Nat)  : Option Canopy :=
 (F_law01_Example n).bind fun y2 => some (Canopy.mk y2 [(Span.mk 100 110), (Span.mk 60 60), (Span.mk 50 55), (Span.mk 40 40), (Span.mk 50 50), (Span.mk 60 60)] [10, 6, 3, 1, 3, 6])
theorem c_law05_Example (n : Nat) (H : Hp)  (y : Canopy) (hF : F_law05_Example n = some y) : HC Try.prog 83 [] H (fun H' v => ∃ ra_v0 ra_v7 ra_v8 : Value, v = .agg [ra_v0, .int .i64 y.Frame.Low, .int .i64 y.Frame.High, .int .i64 y.Frame.Ease.Num, .int .i64 y.Frame.Ease.Den, .int .i64 y.Frame.Rod, .int .i64 y.Frame.Case, ra_v7, ra_v8].toArray ∧ SL H' 7 R_Section ra_v0 y.Frame.Sections ∧ SL H' 2 R_Span ra_v7 y.Ribs ∧ SL H' 1 RInt ra_v8 y.Shares) := by
 rw [F_law05_Example] at hF
 refine HC.of (N := 11) Try.func83 rfl rfl rfl fun w => ?_
 refine JC.seq (JC.region (by rfl) ?_)
 intro hQ
 refine JL.alloc ze_76 .none rfl ?_
 intro b1
 refine JL.done hQ (JQ.go (JC.seq (JC.region (by rfl) ?_)))
 intro hQ
 obtain ⟨y2, hy2, hF⟩ := bind_some hF
 refine JL.callH (c_law01_Example n H y2 hy2) rfl en_69 .none rfl ?_
 rintro H3 vv4 hs3 ⟨y2a_v0, rfl, hy2a_0⟩
 refine JL.build (l := [.int .i64 100, .int .i64 110]) (by kernel_rfl) .none rfl ?_
 refine JL.build (l := [.int .i64 60, .int .i64 60]) (by kernel_rfl) .none rfl ?_
 refine JL.build (l := [.int .i64 50, .int .i64 55]) (by kernel_rfl) .none rfl ?_
 refine JL.build (l := [.int .i64 40, .int .i64 40]) (by kernel_rfl) .none rfl ?_
 refine JL.build (l := [.int .i64 50, .int .i64 50]) (by kernel_rfl) .none rfl ?_
 refine JL.build (l := [.int .i64 60, .int .i64 60]) (by kernel_rfl) .none rfl ?_
 refine JL.buildSlice (e := 39) (l := [.int .i64 100, .int .i64 110, .int .i64 60, .int .i64 60, .int .i64 50, .int .i64 55, .int .i64 40, .int .i64 40, .int .i64 50, .int .i64 50, .int .i64 60, .int .i64 60]) (by kernel_rfl) .none rfl ?_
 intro b5
 refine JL.buildSlice (e := 3) (l := [.int .i64 10, .int .i64 6, .int .i64 3, .int .i64 1, .int .i64 3, .int .i64 6]) (by kernel_rfl) .none rfl ?_
 intro b6
 obtain ⟨a7, c8, rfl, hh9⟩ := hy2a_0
 have hy2a_0 : SL H3 7 R_Section (.slice a7 y2.Sections.length c8) y2.Sections := ⟨a7, c8, rfl, hh9⟩
 refine JL.build (l := [(.slice a7 y2.Sections.length c8), .int .i64 y2.Low, .int .i64 y2.High, .int .i64 y2.Ease.Num, .int .i64 y2.Ease.Den, .int .i64 y2.Rod, .int .i64 y2.Case, .slice (some ⟨b5, 0, none⟩) 6 6, .slice (some ⟨b6, 0, none⟩) 6 6]) (by kernel_rfl) .none rfl ?_
 refine JL.storeOwn 2 (cs := [(.slice a7 y2.Sections.length c8), .int .i64 y2.Low, .int .i64 y2.High, .int .i64 y2.Ease.Num, .int .i64 y2.Ease.Den, .int .i64 y2.Rod, .int .i64 y2.Case, .slice (some ⟨b5, 0, none⟩) 6 6, .slice (some ⟨b6, 0, none⟩) 6 6]) az_76 rfl rfl rfl (one_cons (SL.one hy2a_0) (one_cons rfl (one_cons rfl (one_cons rfl (one_cons rfl (one_cons rfl (one_cons rfl (one_cons rfl (one_cons rfl one_nil))))))))) rfl rfl .none ?_
 refine JL.done hQ (JQ.go (JC.ret (JQ.freezeC 1 (l := [.int .i64 100, .int .i64 110, .int .i64 60, .int .i64 60, .int .i64 50, .int .i64 55, .int .i64 40, .int .i64 40, .int .i64 50, .int .i64 50, .int .i64 60, .int .i64 60]) rfl ?_)))
 intro H10 hs10 hc11
 have hg12 : SL H10 2 R_Span (.slice (some ⟨b5, 0, none⟩) 6 6) [(Span.mk 100 110), (Span.mk 60 60), (Span.mk 50 55), (Span.mk 40 40), (Span.mk 50 50), (Span.mk 60 60)] := CH.sl (l := [(Span.mk 100 110), (Span.mk 60 60), (Span.mk 50 55), (Span.mk 40 40), (Span.mk 50 50), (Span.mk 60 60)]) (CH.cons (cs := [.int .i64 100, .int .i64 110]) rfl rfl (CH.cons (cs := [.int .i64 60, .int .i64 60]) rfl rfl (CH.cons (cs := [.int .i64 50, .int .i64 55]) rfl rfl (CH.cons (cs := [.int .i64 40, .int .i64 40]) rfl rfl (CH.cons (cs := [.int .i64 50, .int .i64 50]) rfl rfl (CH.cons (cs := [.int .i64 60, .int .i64 60]) rfl rfl CH.nil)))))) hc11 ⟨by simp, by simp⟩
 refine JQ.freezeC 0 (l := [.int .i64 10, .int .i64 6, .int .i64 3, .int .i64 1, .int .i64 3, .int .i64 6]) rfl ?_
 intro H13 hs13 hc14
 have hg15 : SL H13 1 RInt (.slice (some ⟨b6, 0, none⟩) 6 6) [10, 6, 3, 1, 3, 6] := CH.sl (l := [10, 6, 3, 1, 3, 6]) (CH.cons (cs := [.int .i64 10]) rfl rfl (CH.cons (cs := [.int .i64 6]) rfl rfl (CH.cons (cs := [.int .i64 3]) rfl rfl (CH.cons (cs := [.int .i64 1]) rfl rfl (CH.cons (cs := [.int .i64 3]) rfl rfl (CH.cons (cs := [.int .i64 6]) rfl rfl CH.nil)))))) hc14 ⟨by simp, by simp⟩
 obtain rfl := Option.some.inj hF
 exact JQ.outH rfl (.cell 0 az_76 rfl rfl rfl .nil) ⟨(.slice a7 y2.Sections.length c8), (.slice (some ⟨b5, 0, none⟩) 6 6), (.slice (some ⟨b6, 0, none⟩) 6 6), rfl, (SL.mono R_Section_mono (HSub.trans hs10 hs13) hy2a_0), (SL.mono R_Span_mono hs13 hg12), hg15⟩
-- 137 ferrule/gusts.within
def F_gusts_within (n : Nat) (n_ : Int) (low : Int) (high : Int) : Option Bool :=
 some ((decide (low ≤ n_)) && (decide (n_ ≤ high)))
theorem c_gusts_within (n : Nat) (H : Hp) (n_ : Int) (low : Int) (high : Int) (y : Bool) (hF : F_gusts_within n n_ low high = some y) : SC Try.prog 137 [.int .i64 n_, .int .i64 low, .int .i64 high] (.bool y) H := by
 rw [F_gusts_within] at hF
 refine SC.of (N := 15) Try.func137 rfl rfl rfl fun w => ?_
 refine JC.seq (JC.region (by rfl) ?_)
 intro hQ
 refine JL.assign .none rfl ?_
 refine JL.done hQ (JQ.go (JC.seq (JC.region (by rfl) ?_)))
 intro hQ
 refine JL.move .none rfl ?_
 refine JL.move .none rfl ?_
 refine JL.bin rfl rfl rfl .none rfl ?_
 refine JL.move .none rfl ?_
 refine JL.cut 4 (fun f => f 14 = .bool ((decide (low ≤ n_)) && (decide (n_ ≤ high)))) ?_ ?_
 ·intro hJ1
  rcases bcases (decide (low ≤ n_)) with hc2 | hc2
  ·skip
   refine JL.move (.some rfl rfl rfl hc2) rfl ?_
   refine JL.move (.some rfl rfl rfl hc2) rfl ?_
   refine JL.bin rfl rfl rfl (.some rfl rfl rfl hc2) rfl ?_
   refine JL.pick_t (b := decide (low ≤ n_)) rfl hc2 .none rfl ?_
   exact hJ1 _ (and_t hc2 rfl)
  ·skip
   refine JL.skip (.bool rfl rfl rfl hc2) rfl ?_
   refine JL.skip (.bool rfl rfl rfl hc2) rfl ?_
   refine JL.skip (.bool rfl rfl rfl hc2) rfl ?_
   refine JL.pick_f (b := decide (low ≤ n_)) rfl hc2 .none rfl ?_
   exact hJ1 _ (and_f hc2 rfl)
 ·rintro f hf14
  refine (JL.norm (i := 14) hf14 ?_)
  refine JL.assign .none rfl ?_
  refine JL.done hQ (JQ.go (JC.ret ?_))
  obtain rfl := Option.some.inj hF
  exact JQ.outS rfl (.tmp .nil) rfl
-- 136 ferrule/gusts.Check$1
def F_gusts_Check_1 (n : Nat) (s : Span) : Option Bool :=
 (F_gusts_within n s.Low 0 s.High).bind fun y2 => some ((!y2) || (decide (99999 < s.High)))
theorem c_gusts_Check_1 (n : Nat) (H : Hp) (s : Span) (y : Bool) (hF : F_gusts_Check_1 n s = some y) : SC Try.prog 136 [.agg [.int .i64 s.Low, .int .i64 s.High].toArray] (.bool y) H := by
 rw [F_gusts_Check_1] at hF
 refine SC.of (N := 14) Try.func136 rfl rfl rfl fun w => ?_
 refine JC.seq (JC.region (by rfl) ?_)
 intro hQ
 refine JL.box (cs := [.int .i64 s.Low, .int .i64 s.High]) rfl .none rfl ?_
 intro b1
 refine JL.assign .none rfl ?_
 refine JL.done hQ (JQ.go (JC.seq (JC.region (by rfl) ?_)))
 intro hQ
 refine JL.fieldAddr fo_39_0 rfl .none rfl ?_
 refine JL.loadOwn 0 az_3 rfl rfl rfl .none rfl ?_
 refine JL.fieldAddr fo_39_1 rfl .none rfl ?_
 refine JL.loadOwn 0 az_3 rfl rfl rfl .none rfl ?_
 obtain ⟨y2, hy2, hF⟩ := bind_some hF
 refine JL.callS (c_gusts_within n H s.Low 0 s.High y2 hy2) rfl en_137 .none rfl ?_
 refine JL.not rfl .none rfl ?_
 refine JL.move .none rfl ?_
 refine JL.cut 4 (fun f => f 13 = .bool ((!y2) || (decide (99999 < s.High)))) ?_ ?_
 ·intro hJ3
  rcases bcases (!y2) with hc4 | hc4
  ·skip
   refine JL.skip (.bool rfl rfl rfl hc4) rfl ?_
   refine JL.skip (.bool rfl rfl rfl hc4) rfl ?_
   refine JL.skip (.bool rfl rfl rfl hc4) rfl ?_
   refine JL.pick_t (b := (!y2)) rfl hc4 .none rfl ?_
   exact hJ3 _ (or_t hc4 rfl)
  ·skip
   refine JL.fieldAddr fo_39_1 rfl (.some rfl rfl rfl hc4) rfl ?_
   refine JL.loadOwn 0 az_3 rfl rfl rfl (.some rfl rfl rfl hc4) rfl ?_
   refine JL.bin rfl rfl rfl (.some rfl rfl rfl hc4) rfl ?_
   refine JL.pick_f (b := (!y2)) rfl hc4 .none rfl ?_
   exact hJ3 _ (or_f hc4 rfl)
 ·rintro f hf13
  refine (JL.norm (i := 13) hf13 ?_)
  refine JL.assign .none rfl ?_
  refine JL.done hQ (JQ.go (JC.ret ?_))
  obtain rfl := Option.some.inj hF
  exact JQ.outS rfl (.tmp .nil) rfl
-- 138 ferrule/gusts.Check$2
def F_gusts_Check_2 (n : Nat) (n_ : Int) : Option Bool :=
 (F_gusts_within n n_ 0 99).bind fun y1 => some (!y1)
theorem c_gusts_Check_2 (n : Nat) (H : Hp) (n_ : Int) (y : Bool) (hF : F_gusts_Check_2 n n_ = some y) : SC Try.prog 138 [.int .i64 n_] (.bool y) H := by
 rw [F_gusts_Check_2] at hF
 refine SC.of (N := 6) Try.func138 rfl rfl rfl fun w => ?_
 refine JC.seq (JC.region (by rfl) ?_)
 intro hQ
 refine JL.assign .none rfl ?_
 refine JL.done hQ (JQ.go (JC.seq (JC.region (by rfl) ?_)))
 intro hQ
 refine JL.move .none rfl ?_
 obtain ⟨y1, hy1, hF⟩ := bind_some hF
 refine JL.callS (c_gusts_within n H n_ 0 99 y1 hy1) rfl en_137 .none rfl ?_
 refine JL.not rfl .none rfl ?_
 refine JL.assign .none rfl ?_
 refine JL.done hQ (JQ.go (JC.ret ?_))
 obtain rfl := Option.some.inj hF
 exact JQ.outS rfl (.tmp .nil) rfl
-- 124 ferrule/frames.within
def F_frames_within (n : Nat) (n_ : Int) (low : Int) (high : Int) : Option Bool :=
 some ((decide (low ≤ n_)) && (decide (n_ ≤ high)))
theorem c_frames_within (n : Nat) (H : Hp) (n_ : Int) (low : Int) (high : Int) (y : Bool) (hF : F_frames_within n n_ low high = some y) : SC Try.prog 124 [.int .i64 n_, .int .i64 low, .int .i64 high] (.bool y) H := by
 rw [F_frames_within] at hF
 refine SC.of (N := 15) Try.func124 rfl rfl rfl fun w => ?_
 refine JC.seq (JC.region (by rfl) ?_)
 intro hQ
 refine JL.assign .none rfl ?_
 refine JL.done hQ (JQ.go (JC.seq (JC.region (by rfl) ?_)))
 intro hQ
 refine JL.move .none rfl ?_
 refine JL.move .none rfl ?_
 refine JL.bin rfl rfl rfl .none rfl ?_
 refine JL.move .none rfl ?_
 refine JL.cut 4 (fun f => f 14 = .bool ((decide (low ≤ n_)) && (decide (n_ ≤ high)))) ?_ ?_
 ·intro hJ1
  rcases bcases (decide (low ≤ n_)) with hc2 | hc2
  ·skip
   refine JL.move (.some rfl rfl rfl hc2) rfl ?_
   refine JL.move (.some rfl rfl rfl hc2) rfl ?_
   refine JL.bin rfl rfl rfl (.some rfl rfl rfl hc2) rfl ?_
   refine JL.pick_t (b := decide (low ≤ n_)) rfl hc2 .none rfl ?_
   exact hJ1 _ (and_t hc2 rfl)
  ·skip
   refine JL.skip (.bool rfl rfl rfl hc2) rfl ?_
   refine JL.skip (.bool rfl rfl rfl hc2) rfl ?_
   refine JL.skip (.bool rfl rfl rfl hc2) rfl ?_
   refine JL.pick_f (b := decide (low ≤ n_)) rfl hc2 .none rfl ?_
   exact hJ1 _ (and_f hc2 rfl)
 ·rintro f hf14
  refine (JL.norm (i := 14) hf14 ?_)
  refine JL.assign .none rfl ?_
  refine JL.done hQ (JQ.go (JC.ret ?_))
  obtain rfl := Option.some.inj hF
  exact JQ.outS rfl (.tmp .nil) rfl
-- 128 ferrule/frames.isPart
def F_frames_isPart (n : Nat) (s : Span) : Option Bool :=
 (F_frames_within n s.Low 1 s.High).bind fun y2 => some ((y2 && (decide (s.High ≤ 2000))) && (decide ((w64 (s.High - s.Low)) ≤ 6)))
theorem c_frames_isPart (n : Nat) (H : Hp) (s : Span) (y : Bool) (hF : F_frames_isPart n s = some y) : SC Try.prog 128 [.agg [.int .i64 s.Low, .int .i64 s.High].toArray] (.bool y) H := by
 rw [F_frames_isPart] at hF
 refine SC.of (N := 21) Try.func128 rfl rfl rfl fun w => ?_
 refine JC.seq (JC.region (by rfl) ?_)
 intro hQ
 refine JL.box (cs := [.int .i64 s.Low, .int .i64 s.High]) rfl .none rfl ?_
 intro b1
 refine JL.assign .none rfl ?_
 refine JL.done hQ (JQ.go (JC.seq (JC.region (by rfl) ?_)))
 intro hQ
 refine JL.fieldAddr fo_39_0 rfl .none rfl ?_
 refine JL.loadOwn 0 az_3 rfl rfl rfl .none rfl ?_
 refine JL.fieldAddr fo_39_1 rfl .none rfl ?_
 refine JL.loadOwn 0 az_3 rfl rfl rfl .none rfl ?_
 obtain ⟨y2, hy2, hF⟩ := bind_some hF
 refine JL.callS (c_frames_within n H s.Low 1 s.High y2 hy2) rfl en_124 .none rfl ?_
 refine JL.move .none rfl ?_
 refine JL.cut 4 (fun f => f 1 = .pointer (some ⟨b1, 0, none⟩) ∧ f 12 = .bool (y2 && (decide (s.High ≤ 2000)))) ?_ ?_
 ·intro hJ3
  rcases bcases y2 with hc4 | hc4
  ·skip
   refine JL.fieldAddr fo_39_1 rfl (.some rfl rfl rfl hc4) rfl ?_
   refine JL.loadOwn 0 az_3 rfl rfl rfl (.some rfl rfl rfl hc4) rfl ?_
   refine JL.bin rfl rfl rfl (.some rfl rfl rfl hc4) rfl ?_
   refine JL.pick_t (b := y2) rfl hc4 .none rfl ?_
   exact hJ3 _ ⟨rfl, and_t hc4 rfl⟩
  ·skip
   refine JL.skip (.bool rfl rfl rfl hc4) rfl ?_
   refine JL.skip (.bool rfl rfl rfl hc4) rfl ?_
   refine JL.skip (.bool rfl rfl rfl hc4) rfl ?_
   refine JL.pick_f (b := y2) rfl hc4 .none rfl ?_
   exact hJ3 _ ⟨rfl, and_f hc4 rfl⟩
 ·rintro f ⟨hf1, hf12⟩
  refine (JL.norm (i := 1) hf1 (JL.norm (i := 12) hf12 ?_))
  refine JL.move .none rfl ?_
  refine JL.cut 7 (fun f => f 20 = .bool ((y2 && (decide (s.High ≤ 2000))) && (decide ((w64 (s.High - s.Low)) ≤ 6)))) ?_ ?_
  ·intro hJ5
   rcases bcases (y2 && (decide (s.High ≤ 2000))) with hc6 | hc6
   ·skip
    refine JL.fieldAddr fo_39_1 rfl (.some rfl rfl rfl hc6) rfl ?_
    refine JL.loadOwn 0 az_3 rfl rfl rfl (.some rfl rfl rfl hc6) rfl ?_
    refine JL.fieldAddr fo_39_0 rfl (.some rfl rfl rfl hc6) rfl ?_
    refine JL.loadOwn 0 az_3 rfl rfl rfl (.some rfl rfl rfl hc6) rfl ?_
    refine JL.bin rfl rfl rfl (.some rfl rfl rfl hc6) rfl ?_
    refine JL.bin rfl rfl rfl (.some rfl rfl rfl hc6) rfl ?_
    refine JL.pick_t (b := (y2 && (decide (s.High ≤ 2000)))) rfl hc6 .none rfl ?_
    exact hJ5 _ (and_t hc6 rfl)
   ·skip
    refine JL.skip (.bool rfl rfl rfl hc6) rfl ?_
    refine JL.skip (.bool rfl rfl rfl hc6) rfl ?_
    refine JL.skip (.bool rfl rfl rfl hc6) rfl ?_
    refine JL.skip (.bool rfl rfl rfl hc6) rfl ?_
    refine JL.skip (.bool rfl rfl rfl hc6) rfl ?_
    refine JL.skip (.bool rfl rfl rfl hc6) rfl ?_
    refine JL.pick_f (b := (y2 && (decide (s.High ≤ 2000)))) rfl hc6 .none rfl ?_
    exact hJ5 _ (and_f hc6 rfl)
  ·rintro f hf20
   refine (JL.norm (i := 20) hf20 ?_)
   refine JL.assign .none rfl ?_
   refine JL.done hQ (JQ.go (JC.ret ?_))
   obtain rfl := Option.some.inj hF
   exact JQ.outS rfl (.tmp .nil) rfl
-- 129 ferrule/frames.isShare
def F_frames_isShare (n : Nat) (f_ : Frac) : Option Bool :=
 (F_frames_within n f_.Den 1 20).bind fun y2 => (if y2 = true then ((F_frames_within n f_.Num 0 f_.Den).bind fun y7 => some y7) else (some false) : Option Bool).bind fun p4 => some p4
theorem c_frames_isShare (n : Nat) (H : Hp) (f_ : Frac) (y : Bool) (hF : F_frames_isShare n f_ = some y) : SC Try.prog 129 [.agg [.int .i64 f_.Num, .int .i64 f_.Den].toArray] (.bool y) H := by
 rw [F_frames_isShare] at hF
 refine SC.of (N := 13) Try.func129 rfl rfl rfl fun w => ?_
 refine JC.seq (JC.region (by rfl) ?_)
 intro hQ
 refine JL.box (cs := [.int .i64 f_.Num, .int .i64 f_.Den]) rfl .none rfl ?_
 intro b1
 refine JL.assign .none rfl ?_
 refine JL.done hQ (JQ.go (JC.seq (JC.region (by rfl) ?_)))
 intro hQ
 refine JL.fieldAddr fo_51_1 rfl .none rfl ?_
 refine JL.loadOwn 0 az_3 rfl rfl rfl .none rfl ?_
 obtain ⟨y2, hy2, hF⟩ := bind_some hF
 refine JL.callS (c_frames_within n H f_.Den 1 20 y2 hy2) rfl en_124 .none rfl ?_
 refine JL.move .none rfl ?_
 obtain ⟨p4, hp4, hF⟩ := bind_some hF
 refine JL.cut 6 (fun f => f 12 = .bool p4) ?_ ?_
 ·intro hJ5
  rcases ite_some hp4 with ⟨hc6, hF⟩ | ⟨hc6, hF⟩
  ·skip
   refine JL.fieldAddr fo_51_0 rfl (.some rfl rfl rfl hc6) rfl ?_
   refine JL.loadOwn 0 az_3 rfl rfl rfl (.some rfl rfl rfl hc6) rfl ?_
   refine JL.fieldAddr fo_51_1 rfl (.some rfl rfl rfl hc6) rfl ?_
   refine JL.loadOwn 0 az_3 rfl rfl rfl (.some rfl rfl rfl hc6) rfl ?_
   obtain ⟨y7, hy7, hF⟩ := bind_some hF
   refine JL.callS (c_frames_within n H f_.Num 0 f_.Den y7 hy7) rfl en_124 (.some rfl rfl rfl hc6) rfl ?_
   refine JL.pick_t (b := y2) rfl hc6 .none rfl ?_
   obtain rfl := Option.some.inj hF
   exact hJ5 _ (rfl)
  ·skip
   refine JL.skip (.bool rfl rfl rfl hc6) rfl ?_
   refine JL.skip (.bool rfl rfl rfl hc6) rfl ?_
   refine JL.skip (.bool rfl rfl rfl hc6) rfl ?_
   refine JL.skip (.bool rfl rfl rfl hc6) rfl ?_
   refine JL.skip (.bool rfl rfl rfl hc6) rfl ?_
   refine JL.pick_f (b := y2) rfl hc6 .none rfl ?_
   obtain rfl := Option.some.inj hF
   exact hJ5 _ (rfl)
 ·rintro f hf12
  refine (JL.norm (i := 12) hf12 ?_)
  refine JL.assign .none rfl ?_
  refine JL.done hQ (JQ.go (JC.ret ?_))
  obtain rfl := Option.some.inj hF
  exact JQ.outS rfl (.tmp .nil) rfl
-- 127 ferrule/frames.Check$1
def F_frames_Check_1 (n : Nat) (s : Section) : Option Bool :=
 (F_frames_isPart n s.Arm).bind fun y2 => (if (!y2) = true then (some true) else ((F_frames_isPart n s.Stretch).bind fun y7 => some (!y7)) : Option Bool).bind fun p4 => (if p4 = true then (some true) else ((F_frames_within n s.Base 0 2000).bind fun y12 => some (!y12)) : Option Bool).bind fun p9 => (if p9 = true then (some true) else ((F_frames_isShare n s.Gear).bind fun y17 => some (!y17)) : Option Bool).bind fun p14 => some p14
theorem c_frames_Check_1 (n : Nat) (H : Hp) (s : Section) (y : Bool) (hF : F_frames_Check_1 n s = some y) : SC Try.prog 127 [.agg [.int .i64 s.Arm.Low, .int .i64 s.Arm.High, .int .i64 s.Stretch.Low, .int .i64 s.Stretch.High, .int .i64 s.Base, .int .i64 s.Gear.Num, .int .i64 s.Gear.Den].toArray] (.bool y) H := by
 rw [F_frames_Check_1] at hF
 refine SC.of (N := 25) Try.func127 rfl rfl rfl fun w => ?_
 refine JC.seq (JC.region (by rfl) ?_)
 intro hQ
 refine JL.box (cs := [.int .i64 s.Arm.Low, .int .i64 s.Arm.High, .int .i64 s.Stretch.Low, .int .i64 s.Stretch.High, .int .i64 s.Base, .int .i64 s.Gear.Num, .int .i64 s.Gear.Den]) rfl .none rfl ?_
 intro b1
 refine JL.assign .none rfl ?_
 refine JL.done hQ (JQ.go (JC.seq (JC.region (by rfl) ?_)))
 intro hQ
 refine JL.fieldAddr fo_68_0 rfl .none rfl ?_
 refine JL.loadOwn 0 az_39 rfl rfl rfl .none rfl ?_
 obtain ⟨y2, hy2, hF⟩ := bind_some hF
 refine JL.callS (c_frames_isPart n H s.Arm y2 hy2) rfl en_128 .none rfl ?_
 refine JL.not rfl .none rfl ?_
 refine JL.move .none rfl ?_
 obtain ⟨p4, hp4, hF⟩ := bind_some hF
 refine JL.cut 5 (fun f => f 1 = .pointer (some ⟨b1, 0, none⟩) ∧ f 12 = .bool p4) ?_ ?_
 ·intro hJ5
  rcases ite_some hp4 with ⟨hc6, hF⟩ | ⟨hc6, hF⟩
  ·skip
   refine JL.skip (.bool rfl rfl rfl hc6) rfl ?_
   refine JL.skip (.bool rfl rfl rfl hc6) rfl ?_
   refine JL.skip (.bool rfl rfl rfl hc6) rfl ?_
   refine JL.skip (.bool rfl rfl rfl hc6) rfl ?_
   refine JL.pick_t (b := (!y2)) rfl hc6 .none rfl ?_
   obtain rfl := Option.some.inj hF
   exact hJ5 _ ⟨rfl, rfl⟩
  ·skip
   refine JL.fieldAddr fo_68_1 rfl (.some rfl rfl rfl hc6) rfl ?_
   refine JL.loadOwn 0 az_39 rfl rfl rfl (.some rfl rfl rfl hc6) rfl ?_
   obtain ⟨y7, hy7, hF⟩ := bind_some hF
   refine JL.callS (c_frames_isPart n H s.Stretch y7 hy7) rfl en_128 (.some rfl rfl rfl hc6) rfl ?_
   refine JL.not rfl (.some rfl rfl rfl hc6) rfl ?_
   refine JL.pick_f (b := (!y2)) rfl hc6 .none rfl ?_
   obtain rfl := Option.some.inj hF
   exact hJ5 _ ⟨rfl, rfl⟩
 ·rintro f ⟨hf1, hf12⟩
  refine (JL.norm (i := 1) hf1 (JL.norm (i := 12) hf12 ?_))
  refine JL.move .none rfl ?_
  obtain ⟨p9, hp9, hF⟩ := bind_some hF
  refine JL.cut 5 (fun f => f 1 = .pointer (some ⟨b1, 0, none⟩) ∧ f 18 = .bool p9) ?_ ?_
  ·intro hJ10
   rcases ite_some hp9 with ⟨hc11, hF⟩ | ⟨hc11, hF⟩
   ·skip
    refine JL.skip (.bool rfl rfl rfl hc11) rfl ?_
    refine JL.skip (.bool rfl rfl rfl hc11) rfl ?_
    refine JL.skip (.bool rfl rfl rfl hc11) rfl ?_
    refine JL.skip (.bool rfl rfl rfl hc11) rfl ?_
    refine JL.pick_t (b := p4) rfl hc11 .none rfl ?_
    obtain rfl := Option.some.inj hF
    exact hJ10 _ ⟨rfl, rfl⟩
   ·skip
    refine JL.fieldAddr fo_68_2 rfl (.some rfl rfl rfl hc11) rfl ?_
    refine JL.loadOwn 0 az_3 rfl rfl rfl (.some rfl rfl rfl hc11) rfl ?_
    obtain ⟨y12, hy12, hF⟩ := bind_some hF
    refine JL.callS (c_frames_within n H s.Base 0 2000 y12 hy12) rfl en_124 (.some rfl rfl rfl hc11) rfl ?_
    refine JL.not rfl (.some rfl rfl rfl hc11) rfl ?_
    refine JL.pick_f (b := p4) rfl hc11 .none rfl ?_
    obtain rfl := Option.some.inj hF
    exact hJ10 _ ⟨rfl, rfl⟩
  ·rintro f ⟨hf1, hf18⟩
   refine (JL.norm (i := 1) hf1 (JL.norm (i := 18) hf18 ?_))
   refine JL.move .none rfl ?_
   obtain ⟨p14, hp14, hF⟩ := bind_some hF
   refine JL.cut 5 (fun f => f 24 = .bool p14) ?_ ?_
   ·intro hJ15
    rcases ite_some hp14 with ⟨hc16, hF⟩ | ⟨hc16, hF⟩
    ·skip
     refine JL.skip (.bool rfl rfl rfl hc16) rfl ?_
     refine JL.skip (.bool rfl rfl rfl hc16) rfl ?_
     refine JL.skip (.bool rfl rfl rfl hc16) rfl ?_
     refine JL.skip (.bool rfl rfl rfl hc16) rfl ?_
     refine JL.pick_t (b := p9) rfl hc16 .none rfl ?_
     obtain rfl := Option.some.inj hF
     exact hJ15 _ (rfl)
    ·skip
     refine JL.fieldAddr fo_68_3 rfl (.some rfl rfl rfl hc16) rfl ?_
     refine JL.loadOwn 0 az_51 rfl rfl rfl (.some rfl rfl rfl hc16) rfl ?_
     obtain ⟨y17, hy17, hF⟩ := bind_some hF
     refine JL.callS (c_frames_isShare n H s.Gear y17 hy17) rfl en_129 (.some rfl rfl rfl hc16) rfl ?_
     refine JL.not rfl (.some rfl rfl rfl hc16) rfl ?_
     refine JL.pick_f (b := p9) rfl hc16 .none rfl ?_
     obtain rfl := Option.some.inj hF
     exact hJ15 _ (rfl)
   ·rintro f hf24
    refine (JL.norm (i := 24) hf24 ?_)
    refine JL.assign .none rfl ?_
    refine JL.done hQ (JQ.go (JC.ret ?_))
    obtain rfl := Option.some.inj hF
    exact JQ.outS rfl (.tmp .nil) rfl
-- 175 slices.IndexFunc[[]ferrule/api.Section,ferrule/api.Section]
def F_slices_IndexFunc___api_Section_api_Section__s1 (n : Nat) (s : List Section) (f_ : Section → Option Bool) : Int → Option (Int ⊕ (Int ⊕ Unit))
 | x_55 => if decide (x_55 < (s.length : Int)) = true then ((geti s x_55).bind fun y60 => (f_ y60).bind fun y65 => if y65 = true then (some (Sum.inr (Sum.inl x_55))) else (some (Sum.inl (w64 (x_55 + 1))))) else (some (Sum.inr (Sum.inr ())))
def F_slices_IndexFunc___api_Section_api_Section_ (n : Nat) (s : List Section) (f_ : Section → Option Bool) : Option Int :=
 (loopO n (F_slices_IndexFunc___api_Section_api_Section__s1 n s f_) 0).bind fun r34 => match r34 with | .inl o => some o | .inr _ => some (-1)
theorem c_slices_IndexFunc___api_Section_api_Section_ (n : Nat) (H : Hp) (s : List Section) (s_v0 : Value) (hs_0 : SL H 7 R_Section s_v0 s) (f_ : Section → Option Bool) (f__k : Nat) (f__c : List Value) (f__e : Ent Try.prog f__k) (f__h : ∀ H', HSub H H' → ∀ (a0_ : Section) (y : Bool), f_ a0_ = some y → SC Try.prog f__k ([.agg [.int .i64 a0_.Arm.Low, .int .i64 a0_.Arm.High, .int .i64 a0_.Stretch.Low, .int .i64 a0_.Stretch.High, .int .i64 a0_.Base, .int .i64 a0_.Gear.Num, .int .i64 a0_.Gear.Den].toArray] ++ f__c) (.bool y) H') (y : Int) (hF : F_slices_IndexFunc___api_Section_api_Section_ n s f_ = some y) : SC Try.prog 175 [s_v0, .func (.func f__k) #[] f__c.toArray] (.int .i64 y) H := by
 rw [F_slices_IndexFunc___api_Section_api_Section_] at hF
 refine SC.of (N := 19) Try.func175 rfl rfl rfl fun w => ?_
 refine JC.seq (JC.region (by rfl) ?_)
 intro hQ
 refine JL.assign .none rfl ?_
 refine JL.done hQ (JQ.go (JC.seq (JC.seq (JC.region (by rfl) ?_))))
 intro hQ
 refine JL.move .none rfl ?_
 refine JL.lenSL (R := R_Section) ul_49 hs_0 .none rfl ?_
 refine JL.move .none rfl ?_
 refine JL.done hQ (JQ.go ?_)
 obtain ⟨r34, hlr34, hKr34⟩ := bind_some hF
 refine JC.join (fun (_ : Unit) H33 f bs gs => bs = [] ∧ gs = [] ∧ HSub H H33 ∧ Sum.inr () = r34) ?_ ?_
 ·skip
  refine JC.block (JC.loop hlr34 (fun (x_55 : Int) H56 f bs gs => f 0 = s_v0 ∧ f 1 = .func (.func f__k) #[] f__c.toArray ∧ f 7 = .int .i64 (s.length : Int) ∧ f 8 = .int .i64 x_55 ∧ bs = [] ∧ gs = [] ∧ HSub H H56) ⟨rfl, rfl, rfl, rfl, rfl, rfl, (HSub.refl _)⟩ ?_)
  rintro x_55 x58 H56 f bs gs ⟨hf0, hf1, hf7, hf8, rfl, rfl, hs56⟩ hF hr57
  rw [F_slices_IndexFunc___api_Section_api_Section__s1] at hF
  refine (JC.norm (i := 0) hf0 (JC.norm (i := 1) hf1 (JC.norm (i := 7) hf7 (JC.norm (i := 8) hf8 ?_))))
  refine JC.seq (JC.region (by rfl) ?_)
  intro hQ
  refine JL.bin rfl rfl rfl .none rfl ?_
  refine JL.done hQ (JQ.go (JC.seq ?_))
  rcases ite_some hF with ⟨hc59, hF⟩ | ⟨hc59, hF⟩
  ·refine JC.cond_t (b := decide (x_55 < (s.length : Int))) rfl hc59 ?_
   refine JC.skip (JQ.go (JC.seq (JC.block (JC.seq (JC.region (by rfl) ?_)))))
   intro hQ
   refine JL.move .none rfl ?_
   refine JL.assign .none rfl ?_
   refine JL.done hQ (JQ.go (JC.seq (JC.region (by rfl) ?_)))
   intro hQ
   refine JL.move .none rfl ?_
   refine JL.move .none rfl ?_
   refine JL.move .none rfl ?_
   obtain ⟨y60, hy60, hF⟩ := bind_some hF
   refine JL.indexSL (R := R_Section) sl_49 (SL.mono R_Section_mono hs56 hs_0) rfl hy60 .none rfl ?_
   rintro b61 o62 cs63 hc64 - rfl
   refine JL.loadH 0 az_68 rfl hc64 rfl .none rfl ?_
   obtain ⟨y65, hy65, hF⟩ := bind_some hF
   refine JL.callV rfl (f__h H56 hs56 y60 y65 hy65) rfl f__e .none rfl ?_
   refine JL.done hQ (JQ.go ?_)
   rcases ite_some hF with ⟨hc66, hF⟩ | ⟨hc66, hF⟩
   ·refine JC.cond_t (b := y65) rfl hc66 ?_
    refine JC.seq (JC.region (by rfl) ?_)
    intro hQ
    refine JL.move .none rfl ?_
    refine JL.assign .none rfl ?_
    refine JL.done hQ (JQ.go (JC.fresh (fun f => f 4 = .int .i64 x_55) rfl ?_))
    rintro f hf4
    refine (JC.norm (i := 4) hf4 ?_)
    refine JC.ret (JQ.ret_block (JQ.ret_then (JQ.ret_then (JQ.ret_block (JQ.ret_join (JQ.ret_then ?_))))))
    obtain rfl := Option.some.inj hF
    have ehr57 := hr57 _ rfl
    subst ehr57
    have hF := hKr34
    try dsimp only at hF
    obtain rfl := Option.some.inj hF
    exact JQ.outS rfl (.tmp .nil) rfl
   ·refine JC.cond_f (b := y65) rfl hc66 ?_
    refine JC.skip (JQ.normal_block (JQ.go (JC.region (by rfl) ?_)))
    intro hQ
    refine JL.bin rfl rfl rfl .none rfl ?_
    refine JL.move .none rfl ?_
    refine JL.done hQ ?_
    obtain rfl := Option.some.inj hF
    exact JQ.next rfl ⟨rfl, rfl, rfl, rfl, rfl, rfl, hs56⟩
  ·refine JC.cond_f (b := decide (x_55 < (s.length : Int))) rfl hc59 ?_
   refine JC.exit (JQ.exit_then (JQ.exit_then (JQ.exit_block ?_)))
   obtain rfl := Option.some.inj hF
   have ehr57 := hr57 _ rfl
   subst ehr57
   exact JQ.join () ⟨rfl, rfl, hs56, rfl⟩
 ·rintro _ H33 f bs gs ⟨rfl, rfl, hs33, rfl⟩
  have hF := hKr34
  try dsimp only at hF
  refine JQ.go (JC.seq (JC.region (by rfl) ?_))
  intro hQ
  refine JL.assign .none rfl ?_
  refine JL.done hQ (JQ.go (JC.ret ?_))
  obtain rfl := Option.some.inj hF
  exact JQ.outS rfl (.tmp .nil) rfl
-- 130 slices.ContainsFunc[[]ferrule/api.Section,ferrule/api.Section]
def F_slices_ContainsFunc___api_Section_api_Section_ (n : Nat) (s : List Section) (f_ : Section → Option Bool) : Option Bool :=
 (F_slices_IndexFunc___api_Section_api_Section_ n s f_).bind fun y1 => some (decide (0 ≤ y1))
theorem c_slices_ContainsFunc___api_Section_api_Section_ (n : Nat) (H : Hp) (s : List Section) (s_v0 : Value) (hs_0 : SL H 7 R_Section s_v0 s) (f_ : Section → Option Bool) (f__k : Nat) (f__c : List Value) (f__e : Ent Try.prog f__k) (f__h : ∀ H', HSub H H' → ∀ (a0_ : Section) (y : Bool), f_ a0_ = some y → SC Try.prog f__k ([.agg [.int .i64 a0_.Arm.Low, .int .i64 a0_.Arm.High, .int .i64 a0_.Stretch.Low, .int .i64 a0_.Stretch.High, .int .i64 a0_.Base, .int .i64 a0_.Gear.Num, .int .i64 a0_.Gear.Den].toArray] ++ f__c) (.bool y) H') (y : Bool) (hF : F_slices_ContainsFunc___api_Section_api_Section_ n s f_ = some y) : SC Try.prog 130 [s_v0, .func (.func f__k) #[] f__c.toArray] (.bool y) H := by
 rw [F_slices_ContainsFunc___api_Section_api_Section_] at hF
 refine SC.of (N := 9) Try.func130 rfl rfl rfl fun w => ?_
 refine JC.seq (JC.region (by rfl) ?_)
 intro hQ
 refine JL.assign .none rfl ?_
 refine JL.done hQ (JQ.go (JC.seq (JC.region (by rfl) ?_)))
 intro hQ
 refine JL.move .none rfl ?_
 refine JL.move .none rfl ?_
 obtain ⟨y1, hy1, hF⟩ := bind_some hF
 refine JL.callS (c_slices_IndexFunc___api_Section_api_Section_ n H s s_v0 hs_0 f_ f__k f__c f__e (fun H' hs' => f__h H' hs') y1 hy1) rfl en_175 .none rfl ?_
 refine JL.bin rfl rfl rfl .none rfl ?_
 refine JL.assign .none rfl ?_
 refine JL.done hQ (JQ.go (JC.ret ?_))
 obtain rfl := Option.some.inj hF
 exact JQ.outS rfl (.tmp .nil) rfl
-- 79 ferrule/frames.Check
def F_frames_Check (n : Nat) (f_ : Frame) : Option Int :=
 (F_frames_within n f_.Low 1 f_.High).bind fun y2 => (F_frames_within n (f_.Sections.length : Int) 1 3).bind fun y7 => (if (!y7) = true then (some true) else ((F_slices_ContainsFunc___api_Section_api_Section_ n f_.Sections (fun a0_ => F_frames_Check_1 n a0_)).bind fun y12 => some y12) : Option Bool).bind fun p9 => (if (p9 || (!((y2 && (decide (f_.High ≤ 2000))) && (decide ((w64 (f_.High - f_.Low)) ≤ 200))))) = true then (some true) else ((F_frames_isShare n f_.Ease).bind fun y19 => some (!y19)) : Option Bool).bind fun p16 => (if p16 = true then (some true) else ((F_frames_within n f_.Rod 0 4000).bind fun y24 => some (!y24)) : Option Bool).bind fun p21 => (if p21 = true then (some true) else ((F_frames_within n f_.Case 0 4000).bind fun y29 => some (!y29)) : Option Bool).bind fun p26 => if p26 = true then (some 10) else (some 0)
theorem c_frames_Check (n : Nat) (H : Hp) (f_ : Frame) (f__v0 : Value) (hf__0 : SL H 7 R_Section f__v0 f_.Sections) (y : Int) (hF : F_frames_Check n f_ = some y) : SC Try.prog 79 [.agg [f__v0, .int .i64 f_.Low, .int .i64 f_.High, .int .i64 f_.Ease.Num, .int .i64 f_.Ease.Den, .int .i64 f_.Rod, .int .i64 f_.Case].toArray] (.int .i64 y) H := by
 rw [F_frames_Check] at hF
 refine SC.of (N := 56) Try.func79 rfl rfl rfl fun w => ?_
 refine JC.seq (JC.region (by rfl) ?_)
 intro hQ
 refine JL.box (cs := [f__v0, .int .i64 f_.Low, .int .i64 f_.High, .int .i64 f_.Ease.Num, .int .i64 f_.Ease.Den, .int .i64 f_.Rod, .int .i64 f_.Case]) rfl .none rfl ?_
 intro b1
 refine JL.assign .none rfl ?_
 refine JL.done hQ (JQ.go (JC.seq (JC.region (by rfl) ?_)))
 intro hQ
 refine JL.assign .none rfl ?_
 refine JL.done hQ (JQ.go (JC.seq (JC.region (by rfl) ?_)))
 intro hQ
 refine JL.fieldAddr fo_53_1 rfl .none rfl ?_
 refine JL.loadOwn 0 az_3 rfl rfl rfl .none rfl ?_
 refine JL.fieldAddr fo_53_2 rfl .none rfl ?_
 refine JL.loadOwn 0 az_3 rfl rfl rfl .none rfl ?_
 obtain ⟨y2, hy2, hF⟩ := bind_some hF
 refine JL.callS (c_frames_within n H f_.Low 1 f_.High y2 hy2) rfl en_124 .none rfl ?_
 refine JL.move .none rfl ?_
 refine JL.cut 4 (fun f => f 1 = .pointer (some ⟨b1, 0, none⟩) ∧ f 3 = .func (.func 127) #[] [].toArray ∧ f 14 = .bool (y2 && (decide (f_.High ≤ 2000)))) ?_ ?_
 ·intro hJ3
  rcases bcases y2 with hc4 | hc4
  ·skip
   refine JL.fieldAddr fo_53_2 rfl (.some rfl rfl rfl hc4) rfl ?_
   refine JL.loadOwn 0 az_3 rfl rfl rfl (.some rfl rfl rfl hc4) rfl ?_
   refine JL.bin rfl rfl rfl (.some rfl rfl rfl hc4) rfl ?_
   refine JL.pick_t (b := y2) rfl hc4 .none rfl ?_
   exact hJ3 _ ⟨rfl, rfl, and_t hc4 rfl⟩
  ·skip
   refine JL.skip (.bool rfl rfl rfl hc4) rfl ?_
   refine JL.skip (.bool rfl rfl rfl hc4) rfl ?_
   refine JL.skip (.bool rfl rfl rfl hc4) rfl ?_
   refine JL.pick_f (b := y2) rfl hc4 .none rfl ?_
   exact hJ3 _ ⟨rfl, rfl, and_f hc4 rfl⟩
 ·rintro f ⟨hf1, hf3, hf14⟩
  refine (JL.norm (i := 1) hf1 (JL.norm (i := 3) hf3 (JL.norm (i := 14) hf14 ?_)))
  refine JL.move .none rfl ?_
  refine JL.cut 7 (fun f => f 1 = .pointer (some ⟨b1, 0, none⟩) ∧ f 3 = .func (.func 127) #[] [].toArray ∧ f 22 = .bool ((y2 && (decide (f_.High ≤ 2000))) && (decide ((w64 (f_.High - f_.Low)) ≤ 200)))) ?_ ?_
  ·intro hJ5
   rcases bcases (y2 && (decide (f_.High ≤ 2000))) with hc6 | hc6
   ·skip
    refine JL.fieldAddr fo_53_2 rfl (.some rfl rfl rfl hc6) rfl ?_
    refine JL.loadOwn 0 az_3 rfl rfl rfl (.some rfl rfl rfl hc6) rfl ?_
    refine JL.fieldAddr fo_53_1 rfl (.some rfl rfl rfl hc6) rfl ?_
    refine JL.loadOwn 0 az_3 rfl rfl rfl (.some rfl rfl rfl hc6) rfl ?_
    refine JL.bin rfl rfl rfl (.some rfl rfl rfl hc6) rfl ?_
    refine JL.bin rfl rfl rfl (.some rfl rfl rfl hc6) rfl ?_
    refine JL.pick_t (b := (y2 && (decide (f_.High ≤ 2000)))) rfl hc6 .none rfl ?_
    exact hJ5 _ ⟨rfl, rfl, and_t hc6 rfl⟩
   ·skip
    refine JL.skip (.bool rfl rfl rfl hc6) rfl ?_
    refine JL.skip (.bool rfl rfl rfl hc6) rfl ?_
    refine JL.skip (.bool rfl rfl rfl hc6) rfl ?_
    refine JL.skip (.bool rfl rfl rfl hc6) rfl ?_
    refine JL.skip (.bool rfl rfl rfl hc6) rfl ?_
    refine JL.skip (.bool rfl rfl rfl hc6) rfl ?_
    refine JL.pick_f (b := (y2 && (decide (f_.High ≤ 2000)))) rfl hc6 .none rfl ?_
    exact hJ5 _ ⟨rfl, rfl, and_f hc6 rfl⟩
  ·rintro f ⟨hf1, hf3, hf22⟩
   refine (JL.norm (i := 1) hf1 (JL.norm (i := 3) hf3 (JL.norm (i := 22) hf22 ?_)))
   refine JL.assign .none rfl ?_
   refine JL.done hQ (JQ.go (JC.seq (JC.seq (JC.region (by rfl) ?_))))
   intro hQ
   refine JL.fieldAddr fo_53_0 rfl .none rfl ?_
   refine JL.loadOwn 0 az_49 rfl rfl rfl .none rfl ?_
   refine JL.lenSL (R := R_Section) ul_49 hf__0 .none rfl ?_
   obtain ⟨y7, hy7, hF⟩ := bind_some hF
   refine JL.callS (c_frames_within n H (f_.Sections.length : Int) 1 3 y7 hy7) rfl en_124 .none rfl ?_
   refine JL.not rfl .none rfl ?_
   refine JL.move .none rfl ?_
   obtain ⟨p9, hp9, hF⟩ := bind_some hF
   refine JL.cut 5 (fun f => f 1 = .pointer (some ⟨b1, 0, none⟩) ∧ f 4 = .bool ((y2 && (decide (f_.High ≤ 2000))) && (decide ((w64 (f_.High - f_.Low)) ≤ 200))) ∧ f 33 = .bool p9) ?_ ?_
   ·intro hJ10
    rcases ite_some hp9 with ⟨hc11, hF⟩ | ⟨hc11, hF⟩
    ·skip
     refine JL.skip (.bool rfl rfl rfl hc11) rfl ?_
     refine JL.skip (.bool rfl rfl rfl hc11) rfl ?_
     refine JL.skip (.bool rfl rfl rfl hc11) rfl ?_
     refine JL.skip (.bool rfl rfl rfl hc11) rfl ?_
     refine JL.pick_t (b := (!y7)) rfl hc11 .none rfl ?_
     obtain rfl := Option.some.inj hF
     exact hJ10 _ ⟨rfl, rfl, rfl⟩
    ·skip
     refine JL.fieldAddr fo_53_0 rfl (.some rfl rfl rfl hc11) rfl ?_
     refine JL.loadOwn 0 az_49 rfl rfl rfl (.some rfl rfl rfl hc11) rfl ?_
     refine JL.move (.some rfl rfl rfl hc11) rfl ?_
     obtain ⟨y12, hy12, hF⟩ := bind_some hF
     refine JL.callS (c_slices_ContainsFunc___api_Section_api_Section_ n H f_.Sections f__v0 hf__0 (fun a0_ => F_frames_Check_1 n a0_) 127 [] en_127 (fun H' hs' a0_ y' hy' => c_frames_Check_1 n H' a0_ y' hy') y12 hy12) rfl en_130 (.some rfl rfl rfl hc11) rfl ?_
     refine JL.pick_f (b := (!y7)) rfl hc11 .none rfl ?_
     obtain rfl := Option.some.inj hF
     exact hJ10 _ ⟨rfl, rfl, rfl⟩
   ·rintro f ⟨hf1, hf4, hf33⟩
    refine (JL.norm (i := 1) hf1 (JL.norm (i := 4) hf4 (JL.norm (i := 33) hf33 ?_)))
    refine JL.move .none rfl ?_
    refine JL.cut 3 (fun f => f 1 = .pointer (some ⟨b1, 0, none⟩) ∧ f 37 = .bool (p9 || (!((y2 && (decide (f_.High ≤ 2000))) && (decide ((w64 (f_.High - f_.Low)) ≤ 200)))))) ?_ ?_
    ·intro hJ13
     rcases bcases p9 with hc14 | hc14
     ·skip
      refine JL.skip (.bool rfl rfl rfl hc14) rfl ?_
      refine JL.skip (.bool rfl rfl rfl hc14) rfl ?_
      refine JL.pick_t (b := p9) rfl hc14 .none rfl ?_
      exact hJ13 _ ⟨rfl, or_t hc14 rfl⟩
     ·skip
      refine JL.move (.some rfl rfl rfl hc14) rfl ?_
      refine JL.not rfl (.some rfl rfl rfl hc14) rfl ?_
      refine JL.pick_f (b := p9) rfl hc14 .none rfl ?_
      exact hJ13 _ ⟨rfl, or_f hc14 rfl⟩
    ·rintro f ⟨hf1, hf37⟩
     refine (JL.norm (i := 1) hf1 (JL.norm (i := 37) hf37 ?_))
     refine JL.move .none rfl ?_
     obtain ⟨p16, hp16, hF⟩ := bind_some hF
     refine JL.cut 5 (fun f => f 1 = .pointer (some ⟨b1, 0, none⟩) ∧ f 43 = .bool p16) ?_ ?_
     ·intro hJ17
      rcases ite_some hp16 with ⟨hc18, hF⟩ | ⟨hc18, hF⟩
      ·skip
       refine JL.skip (.bool rfl rfl rfl hc18) rfl ?_
       refine JL.skip (.bool rfl rfl rfl hc18) rfl ?_
       refine JL.skip (.bool rfl rfl rfl hc18) rfl ?_
       refine JL.skip (.bool rfl rfl rfl hc18) rfl ?_
       refine JL.pick_t (b := (p9 || (!((y2 && (decide (f_.High ≤ 2000))) && (decide ((w64 (f_.High - f_.Low)) ≤ 200)))))) rfl hc18 .none rfl ?_
       obtain rfl := Option.some.inj hF
       exact hJ17 _ ⟨rfl, rfl⟩
      ·skip
       refine JL.fieldAddr fo_53_3 rfl (.some rfl rfl rfl hc18) rfl ?_
       refine JL.loadOwn 0 az_51 rfl rfl rfl (.some rfl rfl rfl hc18) rfl ?_
       obtain ⟨y19, hy19, hF⟩ := bind_some hF
       refine JL.callS (c_frames_isShare n H f_.Ease y19 hy19) rfl en_129 (.some rfl rfl rfl hc18) rfl ?_
       refine JL.not rfl (.some rfl rfl rfl hc18) rfl ?_
       refine JL.pick_f (b := (p9 || (!((y2 && (decide (f_.High ≤ 2000))) && (decide ((w64 (f_.High - f_.Low)) ≤ 200)))))) rfl hc18 .none rfl ?_
       obtain rfl := Option.some.inj hF
       exact hJ17 _ ⟨rfl, rfl⟩
     ·rintro f ⟨hf1, hf43⟩
      refine (JL.norm (i := 1) hf1 (JL.norm (i := 43) hf43 ?_))
      refine JL.move .none rfl ?_
      obtain ⟨p21, hp21, hF⟩ := bind_some hF
      refine JL.cut 5 (fun f => f 1 = .pointer (some ⟨b1, 0, none⟩) ∧ f 49 = .bool p21) ?_ ?_
      ·intro hJ22
       rcases ite_some hp21 with ⟨hc23, hF⟩ | ⟨hc23, hF⟩
       ·skip
        refine JL.skip (.bool rfl rfl rfl hc23) rfl ?_
        refine JL.skip (.bool rfl rfl rfl hc23) rfl ?_
        refine JL.skip (.bool rfl rfl rfl hc23) rfl ?_
        refine JL.skip (.bool rfl rfl rfl hc23) rfl ?_
        refine JL.pick_t (b := p16) rfl hc23 .none rfl ?_
        obtain rfl := Option.some.inj hF
        exact hJ22 _ ⟨rfl, rfl⟩
       ·skip
        refine JL.fieldAddr fo_53_4 rfl (.some rfl rfl rfl hc23) rfl ?_
        refine JL.loadOwn 0 az_3 rfl rfl rfl (.some rfl rfl rfl hc23) rfl ?_
        obtain ⟨y24, hy24, hF⟩ := bind_some hF
        refine JL.callS (c_frames_within n H f_.Rod 0 4000 y24 hy24) rfl en_124 (.some rfl rfl rfl hc23) rfl ?_
        refine JL.not rfl (.some rfl rfl rfl hc23) rfl ?_
        refine JL.pick_f (b := p16) rfl hc23 .none rfl ?_
        obtain rfl := Option.some.inj hF
        exact hJ22 _ ⟨rfl, rfl⟩
      ·rintro f ⟨hf1, hf49⟩
       refine (JL.norm (i := 1) hf1 (JL.norm (i := 49) hf49 ?_))
       refine JL.move .none rfl ?_
       obtain ⟨p26, hp26, hF⟩ := bind_some hF
       refine JL.cut 5 (fun f => f 55 = .bool p26) ?_ ?_
       ·intro hJ27
        rcases ite_some hp26 with ⟨hc28, hF⟩ | ⟨hc28, hF⟩
        ·skip
         refine JL.skip (.bool rfl rfl rfl hc28) rfl ?_
         refine JL.skip (.bool rfl rfl rfl hc28) rfl ?_
         refine JL.skip (.bool rfl rfl rfl hc28) rfl ?_
         refine JL.skip (.bool rfl rfl rfl hc28) rfl ?_
         refine JL.pick_t (b := p21) rfl hc28 .none rfl ?_
         obtain rfl := Option.some.inj hF
         exact hJ27 _ (rfl)
        ·skip
         refine JL.fieldAddr fo_53_5 rfl (.some rfl rfl rfl hc28) rfl ?_
         refine JL.loadOwn 0 az_3 rfl rfl rfl (.some rfl rfl rfl hc28) rfl ?_
         obtain ⟨y29, hy29, hF⟩ := bind_some hF
         refine JL.callS (c_frames_within n H f_.Case 0 4000 y29 hy29) rfl en_124 (.some rfl rfl rfl hc28) rfl ?_
         refine JL.not rfl (.some rfl rfl rfl hc28) rfl ?_
         refine JL.pick_f (b := p21) rfl hc28 .none rfl ?_
         obtain rfl := Option.some.inj hF
         exact hJ27 _ (rfl)
       ·rintro f hf55
        refine (JL.norm (i := 55) hf55 ?_)
        refine JL.done hQ (JQ.go ?_)
        rcases ite_some hF with ⟨hc30, hF⟩ | ⟨hc30, hF⟩
        ·refine JC.cond_t (b := p26) rfl hc30 ?_
         refine JC.seq (JC.region (by rfl) ?_)
         intro hQ
         refine JL.assign .none rfl ?_
         refine JL.done hQ (JQ.go (JC.ret (JQ.ret_then ?_)))
         obtain rfl := Option.some.inj hF
         exact JQ.outS rfl (.tmp .nil) rfl
        ·refine JC.cond_f (b := p26) rfl hc30 ?_
         refine JC.skip (JQ.go (JC.seq (JC.region (by rfl) ?_)))
         intro hQ
         refine JL.assign .none rfl ?_
         refine JL.done hQ (JQ.go (JC.ret ?_))
         obtain rfl := Option.some.inj hF
         exact JQ.outS rfl (.tmp .nil) rfl
-- 177 slices.IndexFunc[[]ferrule/api.Span,ferrule/api.Span]
def F_slices_IndexFunc___api_Span_api_Span__s1 (n : Nat) (s : List Span) (f_ : Span → Option Bool) : Int → Option (Int ⊕ (Int ⊕ Unit))
 | x_55 => if decide (x_55 < (s.length : Int)) = true then ((geti s x_55).bind fun y60 => (f_ y60).bind fun y65 => if y65 = true then (some (Sum.inr (Sum.inl x_55))) else (some (Sum.inl (w64 (x_55 + 1))))) else (some (Sum.inr (Sum.inr ())))
def F_slices_IndexFunc___api_Span_api_Span_ (n : Nat) (s : List Span) (f_ : Span → Option Bool) : Option Int :=
 (loopO n (F_slices_IndexFunc___api_Span_api_Span__s1 n s f_) 0).bind fun r34 => match r34 with | .inl o => some o | .inr _ => some (-1)
theorem c_slices_IndexFunc___api_Span_api_Span_ (n : Nat) (H : Hp) (s : List Span) (s_v0 : Value) (hs_0 : SL H 2 R_Span s_v0 s) (f_ : Span → Option Bool) (f__k : Nat) (f__c : List Value) (f__e : Ent Try.prog f__k) (f__h : ∀ H', HSub H H' → ∀ (a0_ : Span) (y : Bool), f_ a0_ = some y → SC Try.prog f__k ([.agg [.int .i64 a0_.Low, .int .i64 a0_.High].toArray] ++ f__c) (.bool y) H') (y : Int) (hF : F_slices_IndexFunc___api_Span_api_Span_ n s f_ = some y) : SC Try.prog 177 [s_v0, .func (.func f__k) #[] f__c.toArray] (.int .i64 y) H := by
 rw [F_slices_IndexFunc___api_Span_api_Span_] at hF
 refine SC.of (N := 19) Try.func177 rfl rfl rfl fun w => ?_
 refine JC.seq (JC.region (by rfl) ?_)
 intro hQ
 refine JL.assign .none rfl ?_
 refine JL.done hQ (JQ.go (JC.seq (JC.seq (JC.region (by rfl) ?_))))
 intro hQ
 refine JL.move .none rfl ?_
 refine JL.lenSL (R := R_Span) ul_24 hs_0 .none rfl ?_
 refine JL.move .none rfl ?_
 refine JL.done hQ (JQ.go ?_)
 obtain ⟨r34, hlr34, hKr34⟩ := bind_some hF
 refine JC.join (fun (_ : Unit) H33 f bs gs => bs = [] ∧ gs = [] ∧ HSub H H33 ∧ Sum.inr () = r34) ?_ ?_
 ·skip
  refine JC.block (JC.loop hlr34 (fun (x_55 : Int) H56 f bs gs => f 0 = s_v0 ∧ f 1 = .func (.func f__k) #[] f__c.toArray ∧ f 7 = .int .i64 (s.length : Int) ∧ f 8 = .int .i64 x_55 ∧ bs = [] ∧ gs = [] ∧ HSub H H56) ⟨rfl, rfl, rfl, rfl, rfl, rfl, (HSub.refl _)⟩ ?_)
  rintro x_55 x58 H56 f bs gs ⟨hf0, hf1, hf7, hf8, rfl, rfl, hs56⟩ hF hr57
  rw [F_slices_IndexFunc___api_Span_api_Span__s1] at hF
  refine (JC.norm (i := 0) hf0 (JC.norm (i := 1) hf1 (JC.norm (i := 7) hf7 (JC.norm (i := 8) hf8 ?_))))
  refine JC.seq (JC.region (by rfl) ?_)
  intro hQ
  refine JL.bin rfl rfl rfl .none rfl ?_
  refine JL.done hQ (JQ.go (JC.seq ?_))
  rcases ite_some hF with ⟨hc59, hF⟩ | ⟨hc59, hF⟩
  ·refine JC.cond_t (b := decide (x_55 < (s.length : Int))) rfl hc59 ?_
   refine JC.skip (JQ.go (JC.seq (JC.block (JC.seq (JC.region (by rfl) ?_)))))
   intro hQ
   refine JL.move .none rfl ?_
   refine JL.assign .none rfl ?_
   refine JL.done hQ (JQ.go (JC.seq (JC.region (by rfl) ?_)))
   intro hQ
   refine JL.move .none rfl ?_
   refine JL.move .none rfl ?_
   refine JL.move .none rfl ?_
   obtain ⟨y60, hy60, hF⟩ := bind_some hF
   refine JL.indexSL (R := R_Span) sl_24 (SL.mono R_Span_mono hs56 hs_0) rfl hy60 .none rfl ?_
   rintro b61 o62 cs63 hc64 - rfl
   refine JL.loadH 0 az_39 rfl hc64 rfl .none rfl ?_
   obtain ⟨y65, hy65, hF⟩ := bind_some hF
   refine JL.callV rfl (f__h H56 hs56 y60 y65 hy65) rfl f__e .none rfl ?_
   refine JL.done hQ (JQ.go ?_)
   rcases ite_some hF with ⟨hc66, hF⟩ | ⟨hc66, hF⟩
   ·refine JC.cond_t (b := y65) rfl hc66 ?_
    refine JC.seq (JC.region (by rfl) ?_)
    intro hQ
    refine JL.move .none rfl ?_
    refine JL.assign .none rfl ?_
    refine JL.done hQ (JQ.go (JC.fresh (fun f => f 4 = .int .i64 x_55) rfl ?_))
    rintro f hf4
    refine (JC.norm (i := 4) hf4 ?_)
    refine JC.ret (JQ.ret_block (JQ.ret_then (JQ.ret_then (JQ.ret_block (JQ.ret_join (JQ.ret_then ?_))))))
    obtain rfl := Option.some.inj hF
    have ehr57 := hr57 _ rfl
    subst ehr57
    have hF := hKr34
    try dsimp only at hF
    obtain rfl := Option.some.inj hF
    exact JQ.outS rfl (.tmp .nil) rfl
   ·refine JC.cond_f (b := y65) rfl hc66 ?_
    refine JC.skip (JQ.normal_block (JQ.go (JC.region (by rfl) ?_)))
    intro hQ
    refine JL.bin rfl rfl rfl .none rfl ?_
    refine JL.move .none rfl ?_
    refine JL.done hQ ?_
    obtain rfl := Option.some.inj hF
    exact JQ.next rfl ⟨rfl, rfl, rfl, rfl, rfl, rfl, hs56⟩
  ·refine JC.cond_f (b := decide (x_55 < (s.length : Int))) rfl hc59 ?_
   refine JC.exit (JQ.exit_then (JQ.exit_then (JQ.exit_block ?_)))
   obtain rfl := Option.some.inj hF
   have ehr57 := hr57 _ rfl
   subst ehr57
   exact JQ.join () ⟨rfl, rfl, hs56, rfl⟩
 ·rintro _ H33 f bs gs ⟨rfl, rfl, hs33, rfl⟩
  have hF := hKr34
  try dsimp only at hF
  refine JQ.go (JC.seq (JC.region (by rfl) ?_))
  intro hQ
  refine JL.assign .none rfl ?_
  refine JL.done hQ (JQ.go (JC.ret ?_))
  obtain rfl := Option.some.inj hF
  exact JQ.outS rfl (.tmp .nil) rfl
-- 139 slices.ContainsFunc[[]ferrule/api.Span,ferrule/api.Span]
def F_slices_ContainsFunc___api_Span_api_Span_ (n : Nat) (s : List Span) (f_ : Span → Option Bool) : Option Bool :=
 (F_slices_IndexFunc___api_Span_api_Span_ n s f_).bind fun y1 => some (decide (0 ≤ y1))
theorem c_slices_ContainsFunc___api_Span_api_Span_ (n : Nat) (H : Hp) (s : List Span) (s_v0 : Value) (hs_0 : SL H 2 R_Span s_v0 s) (f_ : Span → Option Bool) (f__k : Nat) (f__c : List Value) (f__e : Ent Try.prog f__k) (f__h : ∀ H', HSub H H' → ∀ (a0_ : Span) (y : Bool), f_ a0_ = some y → SC Try.prog f__k ([.agg [.int .i64 a0_.Low, .int .i64 a0_.High].toArray] ++ f__c) (.bool y) H') (y : Bool) (hF : F_slices_ContainsFunc___api_Span_api_Span_ n s f_ = some y) : SC Try.prog 139 [s_v0, .func (.func f__k) #[] f__c.toArray] (.bool y) H := by
 rw [F_slices_ContainsFunc___api_Span_api_Span_] at hF
 refine SC.of (N := 9) Try.func139 rfl rfl rfl fun w => ?_
 refine JC.seq (JC.region (by rfl) ?_)
 intro hQ
 refine JL.assign .none rfl ?_
 refine JL.done hQ (JQ.go (JC.seq (JC.region (by rfl) ?_)))
 intro hQ
 refine JL.move .none rfl ?_
 refine JL.move .none rfl ?_
 obtain ⟨y1, hy1, hF⟩ := bind_some hF
 refine JL.callS (c_slices_IndexFunc___api_Span_api_Span_ n H s s_v0 hs_0 f_ f__k f__c f__e (fun H' hs' => f__h H' hs') y1 hy1) rfl en_177 .none rfl ?_
 refine JL.bin rfl rfl rfl .none rfl ?_
 refine JL.assign .none rfl ?_
 refine JL.done hQ (JQ.go (JC.ret ?_))
 obtain rfl := Option.some.inj hF
 exact JQ.outS rfl (.tmp .nil) rfl
end Go.Proofs.Yteihdclpiekmaaa
end
