/-
  Printed by a program: functions of the translation as plain functions, and their contracts.
-/
import Derived.Test.YteihdclpiekmaaaLfMan
namespace Go.Proofs.Yteihdclpiekmaaa
open Go Go.RowKit Go.Dec
set_option linter.unusedVariables false
-- 33 ferrule/ferruleref05.Check
def F_ref05_Check_s1 (n : Nat) (d : Canopy) : Int → Option (Int ⊕ (Int ⊕ Unit))
  | i_425 => if decide (i_425 < (d.Ribs.length : Int)) = true then ((geti d.Ribs i_425).bind fun y469 => (geti d.Ribs i_425).bind fun y474 => (F_ref05_within n y469.Low 0 y474.High).bind fun y479 => (if (!y479) = true then (some true) else ((geti d.Ribs i_425).bind fun y488 => some (decide (99999 < y488.High))) : Option Bool).bind fun p485 => (if p485 = true then (some true) else ((geti d.Shares i_425).bind fun y502 => (F_ref05_within n y502 0 99).bind fun y507 => some (!y507)) : Option Bool).bind fun p499 => if p499 = true then (some (Sum.inr (Sum.inl 50))) else (some (Sum.inl (w64 (i_425 + 1))))) else (some (Sum.inr (Sum.inr ())))
def F_ref05_Check (n : Nat) (d : Canopy) : Option Int :=
  (F_ref01_Check n d.Frame).bind fun y2 => (if (y2 != 0) = true then (some true) else ((F_ref05_within n (d.Ribs.length : Int) 3 10).bind fun y7 => some (!y7)) : Option Bool).bind fun p4 => if (p4 || ((d.Shares.length : Int) != (d.Ribs.length : Int))) = true then (some 50) else ((loopO n (F_ref05_Check_s1 n d) 0).bind fun r260 => match r260 with | .inl o => some o | .inr _ => some 0)
set_option maxRecDepth 100000 in
set_option maxHeartbeats 40000000 in
theorem c_ref05_Check (n : Nat) (H : Hp) (d : Canopy) (d_v0 : Value) (hd_0 : SL H 7 R_Section d_v0 d.Frame.Sections) (d_v7 : Value) (hd_7 : SL H 2 R_Span d_v7 d.Ribs) (d_v8 : Value) (hd_8 : SL H 1 RInt d_v8 d.Shares) (y : Int) (hF : F_ref05_Check n d = some y) : SC Try.prog 33 [.agg [d_v0, .int .i64 d.Frame.Low, .int .i64 d.Frame.High, .int .i64 d.Frame.Ease.Num, .int .i64 d.Frame.Ease.Den, .int .i64 d.Frame.Rod, .int .i64 d.Frame.Case, d_v7, d_v8].toArray] (.int .i64 y) H := by
  rw [F_ref05_Check] at hF
  refine SC.of (N := 63) Try.func33 rfl rfl rfl fun w => ?_
  refine JC.seq ?_
  refine JC.region (by rfl) ?_
  intro hQ
  refine JL.box (cs := [d_v0, .int .i64 d.Frame.Low, .int .i64 d.Frame.High, .int .i64 d.Frame.Ease.Num, .int .i64 d.Frame.Ease.Den, .int .i64 d.Frame.Rod, .int .i64 d.Frame.Case, d_v7, d_v8]) rfl .none rfl ?_
  intro b1
  refine JL.assign .none rfl ?_
  refine JL.done hQ ?_
  refine JQ.go ?_
  refine JC.seq ?_
  refine JC.seq ?_
  refine JC.region (by rfl) ?_
  intro hQ
  refine JL.fieldAddr fo_76_0 rfl .none rfl ?_
  refine JL.loadOwn 0 az_53 rfl rfl rfl .none rfl ?_
  obtain ⟨y2, hy2, hF⟩ := bind_some hF
  refine JL.callS (c_ref01_Check n H d.Frame d_v0 hd_0 y2 hy2) rfl en_21 .none rfl ?_
  refine JL.bin rfl rfl rfl .none rfl ?_
  refine JL.move .none rfl ?_
  obtain ⟨p4, hp4, hF⟩ := bind_some hF
  refine JL.cut 6 (fun f => f 1 = .pointer (some ⟨b1, 0, none⟩) ∧ f 14 = .bool p4) ?_ ?_
  · intro hJ5
    rcases ite_some hp4 with ⟨hc6, hF⟩ | ⟨hc6, hF⟩
    · skip
      refine JL.skip (.bool rfl rfl rfl hc6) rfl ?_
      refine JL.skip (.bool rfl rfl rfl hc6) rfl ?_
      refine JL.skip (.bool rfl rfl rfl hc6) rfl ?_
      refine JL.skip (.bool rfl rfl rfl hc6) rfl ?_
      refine JL.skip (.bool rfl rfl rfl hc6) rfl ?_
      refine JL.pick_t (b := (y2 != 0)) rfl hc6 .none rfl ?_
      obtain rfl := Option.some.inj hF
      exact hJ5 _ ⟨rfl, rfl⟩
    · skip
      refine JL.fieldAddr fo_76_1 rfl (.some rfl rfl rfl hc6) rfl ?_
      refine JL.loadOwn 0 az_24 rfl rfl rfl (.some rfl rfl rfl hc6) rfl ?_
      refine JL.lenSL (R := R_Span) ul_24 hd_7 (.some rfl rfl rfl hc6) rfl ?_
      obtain ⟨y7, hy7, hF⟩ := bind_some hF
      refine JL.callS (c_ref05_within n H (d.Ribs.length : Int) 3 10 y7 hy7) rfl en_82 (.some rfl rfl rfl hc6) rfl ?_
      refine JL.not rfl (.some rfl rfl rfl hc6) rfl ?_
      refine JL.pick_f (b := (y2 != 0)) rfl hc6 .none rfl ?_
      obtain rfl := Option.some.inj hF
      exact hJ5 _ ⟨rfl, rfl⟩
  · rintro f ⟨hf1, hf14⟩
    refine (JL.norm (i := 1) hf1 (JL.norm (i := 14) hf14 ?_))
    refine JL.move .none rfl ?_
    refine JL.cut 8 (fun f => f 1 = .pointer (some ⟨b1, 0, none⟩) ∧ f 23 = .bool (p4 || ((d.Shares.length : Int) != (d.Ribs.length : Int)))) ?_ ?_
    · intro hJ8
      rcases bcases p4 with hc9 | hc9
      · skip
        refine JL.skip (.bool rfl rfl rfl hc9) rfl ?_
        refine JL.skip (.bool rfl rfl rfl hc9) rfl ?_
        refine JL.skip (.bool rfl rfl rfl hc9) rfl ?_
        refine JL.skip (.bool rfl rfl rfl hc9) rfl ?_
        refine JL.skip (.bool rfl rfl rfl hc9) rfl ?_
        refine JL.skip (.bool rfl rfl rfl hc9) rfl ?_
        refine JL.skip (.bool rfl rfl rfl hc9) rfl ?_
        refine JL.pick_t (b := p4) rfl hc9 .none rfl ?_
        exact hJ8 _ ⟨rfl, or_t hc9 rfl⟩
      · skip
        refine JL.fieldAddr fo_76_2 rfl (.some rfl rfl rfl hc9) rfl ?_
        refine JL.loadOwn 0 az_23 rfl rfl rfl (.some rfl rfl rfl hc9) rfl ?_
        refine JL.lenSL (R := RInt) ul_23 hd_8 (.some rfl rfl rfl hc9) rfl ?_
        refine JL.fieldAddr fo_76_1 rfl (.some rfl rfl rfl hc9) rfl ?_
        refine JL.loadOwn 0 az_24 rfl rfl rfl (.some rfl rfl rfl hc9) rfl ?_
        refine JL.lenSL (R := R_Span) ul_24 hd_7 (.some rfl rfl rfl hc9) rfl ?_
        refine JL.bin rfl rfl rfl (.some rfl rfl rfl hc9) rfl ?_
        refine JL.pick_f (b := p4) rfl hc9 .none rfl ?_
        exact hJ8 _ ⟨rfl, or_f hc9 rfl⟩
    · rintro f ⟨hf1, hf23⟩
      refine (JL.norm (i := 1) hf1 (JL.norm (i := 23) hf23 ?_))
      refine JL.done hQ ?_
      refine JQ.go ?_
      rcases ite_some hF with ⟨hc10, hF⟩ | ⟨hc10, hF⟩
      · refine JC.cond_t (b := (p4 || ((d.Shares.length : Int) != (d.Ribs.length : Int)))) rfl hc10 ?_
        refine JC.seq ?_
        refine JC.region (by rfl) ?_
        intro hQ
        refine JL.assign .none rfl ?_
        refine JL.done hQ ?_
        refine JQ.go ?_
        refine JC.ret ?_
        refine JQ.ret_then ?_
        obtain rfl := Option.some.inj hF
        exact JQ.outS rfl (.tmp .nil) rfl
      · refine JC.cond_f (b := (p4 || ((d.Shares.length : Int) != (d.Ribs.length : Int)))) rfl hc10 ?_
        refine JC.skip ?_
        refine JQ.go ?_
        refine JC.seq ?_
        refine JC.seq ?_
        refine JC.region (by rfl) ?_
        intro hQ
        refine JL.assign .none rfl ?_
        refine JL.done hQ ?_
        refine JQ.go ?_
        obtain ⟨r260, hlr260, hKr260⟩ := bind_some hF
        refine JC.join (fun (_ : Unit) H259 f bs gs => bs = [] ∧ gs = [] ∧ HSub H H259 ∧ Sum.inr () = r260) ?_ ?_
        · skip
          refine JC.block ?_
          refine JC.loop hlr260 (fun (i_425 : Int) H426 f bs gs => f 1 = .pointer (some ⟨b1, 0, none⟩) ∧ f 3 = .int .i64 i_425 ∧ bs = [(b1, .cells [d_v0, .int .i64 d.Frame.Low, .int .i64 d.Frame.High, .int .i64 d.Frame.Ease.Num, .int .i64 d.Frame.Ease.Den, .int .i64 d.Frame.Rod, .int .i64 d.Frame.Case, d_v7, d_v8].toArray 76)] ∧ gs = [] ∧ HSub H H426) ⟨rfl, rfl, rfl, rfl, (HSub.refl _)⟩ ?_
          rintro i_425 x428 H426 f bs gs ⟨hf1, hf3, rfl, rfl, hs426⟩ hF hr427
          rw [F_ref05_Check_s1] at hF
          refine (JC.norm (i := 1) hf1 (JC.norm (i := 3) hf3 ?_))
          refine JC.seq ?_
          refine JC.seq ?_
          refine JC.region (by rfl) ?_
          intro hQ
          refine JL.move .none rfl ?_
          refine JL.fieldAddr fo_76_1 rfl .none rfl ?_
          refine JL.loadOwn 0 az_24 rfl rfl rfl .none rfl ?_
          refine JL.lenSL (R := R_Span) ul_24 (SL.mono R_Span_mono hs426 hd_7) .none rfl ?_
          refine JL.bin rfl rfl rfl .none rfl ?_
          refine JL.done hQ ?_
          refine JQ.go ?_
          rcases ite_some hF with ⟨hc429, hF⟩ | ⟨hc429, hF⟩
          · refine JC.cond_t (b := decide (i_425 < (d.Ribs.length : Int))) rfl hc429 ?_
            refine JC.skip ?_
            refine JQ.go ?_
            refine JC.seq ?_
            refine JC.block ?_
            refine JC.seq ?_
            refine JC.draw (by rfl) mo_ (by kernel_rfl) ?_
            intro hQ
            refine JL.fieldAddr fo_76_1 rfl .none rfl ?_
            refine JL.loadOwn 0 az_24 rfl rfl rfl .none rfl ?_
            refine JL.move .none rfl ?_
            obtain ⟨y469, hy469, hF⟩ := bind_some hF
            refine JL.indexSL (R := R_Span) sl_24 (SL.mono R_Span_mono hs426 hd_7) rfl hy469 .none rfl ?_
            rintro b470 o471 cs472 hc473 - rfl
            refine JL.fieldAddr fo_39_0 rfl .none rfl ?_
            refine JL.loadH 0 az_3 rfl hc473 rfl .none rfl ?_
            refine JL.fieldAddr fo_76_1 rfl .none rfl ?_
            refine JL.loadOwn 0 az_24 rfl rfl rfl .none rfl ?_
            refine JL.move .none rfl ?_
            obtain ⟨y474, hy474, hF⟩ := bind_some hF
            refine JL.indexSL (R := R_Span) sl_24 (SL.mono R_Span_mono hs426 hd_7) rfl hy474 .none rfl ?_
            rintro b475 o476 cs477 hc478 - rfl
            refine JL.fieldAddr fo_39_1 rfl .none rfl ?_
            refine JL.loadH 1 az_3 rfl hc478 rfl .none rfl ?_
            obtain ⟨y479, hy479, hF⟩ := bind_some hF
            refine JL.callS (c_ref05_within n H426 y469.Low 0 y474.High y479 hy479) rfl en_82 .none rfl ?_
            refine JL.not rfl .none rfl ?_
            refine JL.move .none rfl ?_
            obtain ⟨p485, hp485, hF⟩ := bind_some hF
            refine JL.cut 8 (fun f => f 1 = .pointer (some ⟨b1, 0, none⟩) ∧ f 3 = .int .i64 i_425 ∧ f 53 = .bool p485) ?_ ?_
            · intro hJ486
              rcases ite_some hp485 with ⟨hc487, hF⟩ | ⟨hc487, hF⟩
              · skip
                refine JL.skip (.bool rfl rfl rfl hc487) rfl ?_
                refine JL.skip (.bool rfl rfl rfl hc487) rfl ?_
                refine JL.skip (.bool rfl rfl rfl hc487) rfl ?_
                refine JL.skip (.bool rfl rfl rfl hc487) rfl ?_
                refine JL.skip (.bool rfl rfl rfl hc487) rfl ?_
                refine JL.skip (.bool rfl rfl rfl hc487) rfl ?_
                refine JL.skip (.bool rfl rfl rfl hc487) rfl ?_
                refine JL.pick_t (b := (!y479)) rfl hc487 .none rfl ?_
                obtain rfl := Option.some.inj hF
                exact hJ486 _ ⟨rfl, rfl, rfl⟩
              · skip
                refine JL.fieldAddr fo_76_1 rfl (.some rfl rfl rfl hc487) rfl ?_
                refine JL.loadOwn 0 az_24 rfl rfl rfl (.some rfl rfl rfl hc487) rfl ?_
                refine JL.move (.some rfl rfl rfl hc487) rfl ?_
                obtain ⟨y488, hy488, hF⟩ := bind_some hF
                refine JL.indexSL (R := R_Span) sl_24 (SL.mono R_Span_mono hs426 hd_7) rfl hy488 (.some rfl rfl rfl hc487) rfl ?_
                rintro b489 o490 cs491 hc492 - rfl
                refine JL.fieldAddr fo_39_1 rfl (.some rfl rfl rfl hc487) rfl ?_
                refine JL.loadH 1 az_3 rfl hc492 rfl (.some rfl rfl rfl hc487) rfl ?_
                refine JL.bin rfl rfl rfl (.some rfl rfl rfl hc487) rfl ?_
                refine JL.pick_f (b := (!y479)) rfl hc487 .none rfl ?_
                obtain rfl := Option.some.inj hF
                exact hJ486 _ ⟨rfl, rfl, rfl⟩
            · rintro f ⟨hf1, hf3, hf53⟩
              refine (JL.norm (i := 1) hf1 (JL.norm (i := 3) hf3 (JL.norm (i := 53) hf53 ?_)))
              refine JL.move .none rfl ?_
              obtain ⟨p499, hp499, hF⟩ := bind_some hF
              refine JL.cut 8 (fun f => f 1 = .pointer (some ⟨b1, 0, none⟩) ∧ f 3 = .int .i64 i_425 ∧ f 62 = .bool p499) ?_ ?_
              · intro hJ500
                rcases ite_some hp499 with ⟨hc501, hF⟩ | ⟨hc501, hF⟩
                · skip
                  refine JL.skip (.bool rfl rfl rfl hc501) rfl ?_
                  refine JL.skip (.bool rfl rfl rfl hc501) rfl ?_
                  refine JL.skip (.bool rfl rfl rfl hc501) rfl ?_
                  refine JL.skip (.bool rfl rfl rfl hc501) rfl ?_
                  refine JL.skip (.bool rfl rfl rfl hc501) rfl ?_
                  refine JL.skip (.bool rfl rfl rfl hc501) rfl ?_
                  refine JL.skip (.bool rfl rfl rfl hc501) rfl ?_
                  refine JL.pick_t (b := p485) rfl hc501 .none rfl ?_
                  obtain rfl := Option.some.inj hF
                  exact hJ500 _ ⟨rfl, rfl, rfl⟩
                · skip
                  refine JL.fieldAddr fo_76_2 rfl (.some rfl rfl rfl hc501) rfl ?_
                  refine JL.loadOwn 0 az_23 rfl rfl rfl (.some rfl rfl rfl hc501) rfl ?_
                  refine JL.move (.some rfl rfl rfl hc501) rfl ?_
                  obtain ⟨y502, hy502, hF⟩ := bind_some hF
                  refine JL.indexSL (R := RInt) sl_23 (SL.mono RInt.mono hs426 hd_8) rfl hy502 (.some rfl rfl rfl hc501) rfl ?_
                  rintro b503 o504 cs505 hc506 - rfl
                  refine JL.loadH 0 az_3 rfl hc506 rfl (.some rfl rfl rfl hc501) rfl ?_
                  obtain ⟨y507, hy507, hF⟩ := bind_some hF
                  refine JL.callS (c_ref05_within n H426 y502 0 99 y507 hy507) rfl en_82 (.some rfl rfl rfl hc501) rfl ?_
                  refine JL.not rfl (.some rfl rfl rfl hc501) rfl ?_
                  refine JL.pick_f (b := p485) rfl hc501 .none rfl ?_
                  obtain rfl := Option.some.inj hF
                  exact hJ500 _ ⟨rfl, rfl, rfl⟩
              · rintro f ⟨hf1, hf3, hf62⟩
                refine (JL.norm (i := 1) hf1 (JL.norm (i := 3) hf3 (JL.norm (i := 62) hf62 ?_)))
                refine JL.doneQ hQ ?_
                refine JQ.go ?_
                rcases ite_some hF with ⟨hc508, hF⟩ | ⟨hc508, hF⟩
                · refine JC.cond_t (b := p499) rfl hc508 ?_
                  refine JC.seq ?_
                  refine JC.region (by rfl) ?_
                  intro hQ
                  refine JL.assign .none rfl ?_
                  refine JL.done hQ ?_
                  refine JQ.go ?_
                  refine JC.ret ?_
                  refine JQ.ret_block ?_
                  refine JQ.ret_then ?_
                  refine JQ.ret_then ?_
                  refine JQ.ret_block ?_
                  refine JQ.ret_join ?_
                  refine JQ.ret_then ?_
                  obtain rfl := Option.some.inj hF
                  have ehr427 := hr427 _ rfl
                  subst ehr427
                  have hF := hKr260
                  try dsimp only at hF
                  obtain rfl := Option.some.inj hF
                  exact JQ.outS rfl (.tmp .nil) rfl
                · refine JC.cond_f (b := p499) rfl hc508 ?_
                  refine JC.skip ?_
                  refine JQ.normal_block ?_
                  refine JQ.go ?_
                  refine JC.region (by rfl) ?_
                  intro hQ
                  refine JL.move .none rfl ?_
                  refine JL.bin rfl rfl rfl .none rfl ?_
                  refine JL.assign .none rfl ?_
                  refine JL.done hQ ?_
                  obtain rfl := Option.some.inj hF
                  exact JQ.next rfl ⟨rfl, rfl, rfl, rfl, hs426⟩
          · refine JC.cond_f (b := decide (i_425 < (d.Ribs.length : Int))) rfl hc429 ?_
            refine JC.exit ?_
            refine JQ.exit_then ?_
            refine JQ.exit_then ?_
            refine JQ.exit_block ?_
            obtain rfl := Option.some.inj hF
            have ehr427 := hr427 _ rfl
            subst ehr427
            refine JQ.mask [false] [] ?_
            exact JQ.join () ⟨rfl, rfl, hs426, rfl⟩
        · rintro _ H259 f bs gs ⟨rfl, rfl, hs259, rfl⟩
          have hF := hKr260
          try dsimp only at hF
          refine JQ.go ?_
          refine JC.seq ?_
          refine JC.region (by rfl) ?_
          intro hQ
          refine JL.assign .none rfl ?_
          refine JL.done hQ ?_
          refine JQ.go ?_
          refine JC.ret ?_
          obtain rfl := Option.some.inj hF
          exact JQ.outS rfl (.tmp .nil) rfl

-- 34 ferrule/ferruleref05.IsRib
def F_ref05_IsRib (n : Nat) (d : Canopy) (n_ : Int) : Option Bool :=
  (F_ref05_within n n_ 0 (w64 ((d.Ribs.length : Int) - 1))).bind fun y2 => some y2
set_option maxRecDepth 100000 in
set_option maxHeartbeats 40000000 in
theorem c_ref05_IsRib (n : Nat) (H : Hp) (d : Canopy) (d_v0 : Value) (hd_0 : SL H 7 R_Section d_v0 d.Frame.Sections) (d_v7 : Value) (hd_7 : SL H 2 R_Span d_v7 d.Ribs) (d_v8 : Value) (hd_8 : SL H 1 RInt d_v8 d.Shares) (n_ : Int) (y : Bool) (hF : F_ref05_IsRib n d n_ = some y) : SC Try.prog 34 [.agg [d_v0, .int .i64 d.Frame.Low, .int .i64 d.Frame.High, .int .i64 d.Frame.Ease.Num, .int .i64 d.Frame.Ease.Den, .int .i64 d.Frame.Rod, .int .i64 d.Frame.Case, d_v7, d_v8].toArray, .int .i64 n_] (.bool y) H := by
  rw [F_ref05_IsRib] at hF
  refine SC.of (N := 11) Try.func34 rfl rfl rfl fun w => ?_
  refine JC.seq ?_
  refine JC.region (by rfl) ?_
  intro hQ
  refine JL.box (cs := [d_v0, .int .i64 d.Frame.Low, .int .i64 d.Frame.High, .int .i64 d.Frame.Ease.Num, .int .i64 d.Frame.Ease.Den, .int .i64 d.Frame.Rod, .int .i64 d.Frame.Case, d_v7, d_v8]) rfl .none rfl ?_
  intro b1
  refine JL.assign .none rfl ?_
  refine JL.done hQ ?_
  refine JQ.go ?_
  refine JC.seq ?_
  refine JC.region (by rfl) ?_
  intro hQ
  refine JL.move .none rfl ?_
  refine JL.fieldAddr fo_76_1 rfl .none rfl ?_
  refine JL.loadOwn 0 az_24 rfl rfl rfl .none rfl ?_
  refine JL.lenSL (R := R_Span) ul_24 hd_7 .none rfl ?_
  refine JL.bin rfl rfl rfl .none rfl ?_
  obtain ⟨y2, hy2, hF⟩ := bind_some hF
  refine JL.callS (c_ref05_within n H n_ 0 (w64 ((d.Ribs.length : Int) - 1)) y2 hy2) rfl en_82 .none rfl ?_
  refine JL.assign .none rfl ?_
  refine JL.done hQ ?_
  refine JQ.go ?_
  refine JC.ret ?_
  obtain rfl := Option.some.inj hF
  exact JQ.outS rfl (.tmp .nil) rfl

-- 69 ferrule/ferrulelaw01.Example
def F_law01_Example (n : Nat)  : Option Frame :=
  some (Frame.mk [(Section.mk (Span.mk 50 52) (Span.mk 60 60) 0 (Frac.mk 1 1)), (Section.mk (Span.mk 40 40) (Span.mk 45 46) 5 (Frac.mk 1 2))] 20 100 (Frac.mk 1 20) 300 351)
set_option maxRecDepth 100000 in
set_option maxHeartbeats 40000000 in
theorem c_law01_Example (n : Nat) (H : Hp)  (y : Frame) (hF : F_law01_Example n = some y) : HC Try.prog 69 [] H (fun H' v => ∃ ra_v0 : Value, v = .agg [ra_v0, .int .i64 y.Low, .int .i64 y.High, .int .i64 y.Ease.Num, .int .i64 y.Ease.Den, .int .i64 y.Rod, .int .i64 y.Case].toArray ∧ SL H' 7 R_Section ra_v0 y.Sections) := by
  rw [F_law01_Example] at hF
  refine HC.of (N := 12) Try.func69 rfl rfl rfl fun w => ?_
  refine JC.seq ?_
  refine JC.region (by rfl) ?_
  intro hQ
  refine JL.alloc ze_53 .none rfl ?_
  intro b1
  refine JL.done hQ ?_
  refine JQ.go ?_
  refine JC.seq ?_
  refine JC.region (by rfl) ?_
  intro hQ
  refine JL.build (l := [.int .i64 50, .int .i64 52]) (by kernel_rfl) .none rfl ?_
  refine JL.build (l := [.int .i64 60, .int .i64 60]) (by kernel_rfl) .none rfl ?_
  refine JL.build (l := [.int .i64 1, .int .i64 1]) (by kernel_rfl) .none rfl ?_
  refine JL.build (l := [.int .i64 50, .int .i64 52, .int .i64 60, .int .i64 60, .int .i64 0, .int .i64 1, .int .i64 1]) (by kernel_rfl) .none rfl ?_
  refine JL.build (l := [.int .i64 40, .int .i64 40]) (by kernel_rfl) .none rfl ?_
  refine JL.build (l := [.int .i64 45, .int .i64 46]) (by kernel_rfl) .none rfl ?_
  refine JL.build (l := [.int .i64 1, .int .i64 2]) (by kernel_rfl) .none rfl ?_
  refine JL.build (l := [.int .i64 40, .int .i64 40, .int .i64 45, .int .i64 46, .int .i64 5, .int .i64 1, .int .i64 2]) (by kernel_rfl) .none rfl ?_
  refine JL.buildSlice (e := 68) (l := [.int .i64 50, .int .i64 52, .int .i64 60, .int .i64 60, .int .i64 0, .int .i64 1, .int .i64 1, .int .i64 40, .int .i64 40, .int .i64 45, .int .i64 46, .int .i64 5, .int .i64 1, .int .i64 2]) (by kernel_rfl) .none rfl ?_
  intro b2
  refine JL.build (l := [.int .i64 1, .int .i64 20]) (by kernel_rfl) .none rfl ?_
  refine JL.build (l := [.slice (some ⟨b2, 0, none⟩) 2 2, .int .i64 20, .int .i64 100, .int .i64 1, .int .i64 20, .int .i64 300, .int .i64 351]) (by kernel_rfl) .none rfl ?_
  refine JL.storeOwn 1 (cs := [.slice (some ⟨b2, 0, none⟩) 2 2, .int .i64 20, .int .i64 100, .int .i64 1, .int .i64 20, .int .i64 300, .int .i64 351]) az_53 rfl rfl rfl (one_cons rfl (one_cons rfl (one_cons rfl (one_cons rfl (one_cons rfl (one_cons rfl (one_cons rfl one_nil))))))) rfl rfl .none ?_
  refine JL.done hQ ?_
  refine JQ.go ?_
  refine JC.ret ?_
  refine JQ.freezeC 0 (l := [.int .i64 50, .int .i64 52, .int .i64 60, .int .i64 60, .int .i64 0, .int .i64 1, .int .i64 1, .int .i64 40, .int .i64 40, .int .i64 45, .int .i64 46, .int .i64 5, .int .i64 1, .int .i64 2]) rfl ?_
  intro H3 hs3 hc4
  have hg5 : SL H3 7 R_Section (.slice (some ⟨b2, 0, none⟩) 2 2) [(Section.mk (Span.mk 50 52) (Span.mk 60 60) 0 (Frac.mk 1 1)), (Section.mk (Span.mk 40 40) (Span.mk 45 46) 5 (Frac.mk 1 2))] := CH.sl (l := [(Section.mk (Span.mk 50 52) (Span.mk 60 60) 0 (Frac.mk 1 1)), (Section.mk (Span.mk 40 40) (Span.mk 45 46) 5 (Frac.mk 1 2))]) (CH.cons (cs := [.int .i64 50, .int .i64 52, .int .i64 60, .int .i64 60, .int .i64 0, .int .i64 1, .int .i64 1]) rfl rfl (CH.cons (cs := [.int .i64 40, .int .i64 40, .int .i64 45, .int .i64 46, .int .i64 5, .int .i64 1, .int .i64 2]) rfl rfl CH.nil)) hc4 ⟨by simp, by simp⟩
  obtain rfl := Option.some.inj hF
  exact JQ.outH rfl (.cell 0 az_53 rfl rfl rfl .nil) ⟨(.slice (some ⟨b2, 0, none⟩) 2 2), rfl, hg5⟩

-- 124 ferrule/frames.within
def F_frames_within (n : Nat) (n_ : Int) (low : Int) (high : Int) : Option Bool :=
  some ((decide (low ≤ n_)) && (decide (n_ ≤ high)))
set_option maxRecDepth 100000 in
set_option maxHeartbeats 40000000 in
theorem c_frames_within (n : Nat) (H : Hp) (n_ : Int) (low : Int) (high : Int) (y : Bool) (hF : F_frames_within n n_ low high = some y) : SC Try.prog 124 [.int .i64 n_, .int .i64 low, .int .i64 high] (.bool y) H := by
  rw [F_frames_within] at hF
  refine SC.of (N := 15) Try.func124 rfl rfl rfl fun w => ?_
  refine JC.seq ?_
  refine JC.region (by rfl) ?_
  intro hQ
  refine JL.assign .none rfl ?_
  refine JL.done hQ ?_
  refine JQ.go ?_
  refine JC.seq ?_
  refine JC.region (by rfl) ?_
  intro hQ
  refine JL.move .none rfl ?_
  refine JL.move .none rfl ?_
  refine JL.bin rfl rfl rfl .none rfl ?_
  refine JL.move .none rfl ?_
  refine JL.cut 4 (fun f => f 14 = .bool ((decide (low ≤ n_)) && (decide (n_ ≤ high)))) ?_ ?_
  · intro hJ1
    rcases bcases (decide (low ≤ n_)) with hc2 | hc2
    · skip
      refine JL.move (.some rfl rfl rfl hc2) rfl ?_
      refine JL.move (.some rfl rfl rfl hc2) rfl ?_
      refine JL.bin rfl rfl rfl (.some rfl rfl rfl hc2) rfl ?_
      refine JL.pick_t (b := decide (low ≤ n_)) rfl hc2 .none rfl ?_
      exact hJ1 _ (and_t hc2 rfl)
    · skip
      refine JL.skip (.bool rfl rfl rfl hc2) rfl ?_
      refine JL.skip (.bool rfl rfl rfl hc2) rfl ?_
      refine JL.skip (.bool rfl rfl rfl hc2) rfl ?_
      refine JL.pick_f (b := decide (low ≤ n_)) rfl hc2 .none rfl ?_
      exact hJ1 _ (and_f hc2 rfl)
  · rintro f hf14
    refine (JL.norm (i := 14) hf14 ?_)
    refine JL.assign .none rfl ?_
    refine JL.done hQ ?_
    refine JQ.go ?_
    refine JC.ret ?_
    obtain rfl := Option.some.inj hF
    exact JQ.outS rfl (.tmp .nil) rfl

-- 128 ferrule/frames.isPart
def F_frames_isPart (n : Nat) (s : Span) : Option Bool :=
  (F_frames_within n s.Low 1 s.High).bind fun y2 => some ((y2 && (decide (s.High ≤ 2000))) && (decide ((w64 (s.High - s.Low)) ≤ 6)))
set_option maxRecDepth 100000 in
set_option maxHeartbeats 40000000 in
theorem c_frames_isPart (n : Nat) (H : Hp) (s : Span) (y : Bool) (hF : F_frames_isPart n s = some y) : SC Try.prog 128 [.agg [.int .i64 s.Low, .int .i64 s.High].toArray] (.bool y) H := by
  rw [F_frames_isPart] at hF
  refine SC.of (N := 21) Try.func128 rfl rfl rfl fun w => ?_
  refine JC.seq ?_
  refine JC.region (by rfl) ?_
  intro hQ
  refine JL.box (cs := [.int .i64 s.Low, .int .i64 s.High]) rfl .none rfl ?_
  intro b1
  refine JL.assign .none rfl ?_
  refine JL.done hQ ?_
  refine JQ.go ?_
  refine JC.seq ?_
  refine JC.region (by rfl) ?_
  intro hQ
  refine JL.fieldAddr fo_39_0 rfl .none rfl ?_
  refine JL.loadOwn 0 az_3 rfl rfl rfl .none rfl ?_
  refine JL.fieldAddr fo_39_1 rfl .none rfl ?_
  refine JL.loadOwn 0 az_3 rfl rfl rfl .none rfl ?_
  obtain ⟨y2, hy2, hF⟩ := bind_some hF
  refine JL.callS (c_frames_within n H s.Low 1 s.High y2 hy2) rfl en_124 .none rfl ?_
  refine JL.move .none rfl ?_
  refine JL.cut 4 (fun f => f 1 = .pointer (some ⟨b1, 0, none⟩) ∧ f 12 = .bool (y2 && (decide (s.High ≤ 2000)))) ?_ ?_
  · intro hJ3
    rcases bcases y2 with hc4 | hc4
    · skip
      refine JL.fieldAddr fo_39_1 rfl (.some rfl rfl rfl hc4) rfl ?_
      refine JL.loadOwn 0 az_3 rfl rfl rfl (.some rfl rfl rfl hc4) rfl ?_
      refine JL.bin rfl rfl rfl (.some rfl rfl rfl hc4) rfl ?_
      refine JL.pick_t (b := y2) rfl hc4 .none rfl ?_
      exact hJ3 _ ⟨rfl, and_t hc4 rfl⟩
    · skip
      refine JL.skip (.bool rfl rfl rfl hc4) rfl ?_
      refine JL.skip (.bool rfl rfl rfl hc4) rfl ?_
      refine JL.skip (.bool rfl rfl rfl hc4) rfl ?_
      refine JL.pick_f (b := y2) rfl hc4 .none rfl ?_
      exact hJ3 _ ⟨rfl, and_f hc4 rfl⟩
  · rintro f ⟨hf1, hf12⟩
    refine (JL.norm (i := 1) hf1 (JL.norm (i := 12) hf12 ?_))
    refine JL.move .none rfl ?_
    refine JL.cut 7 (fun f => f 20 = .bool ((y2 && (decide (s.High ≤ 2000))) && (decide ((w64 (s.High - s.Low)) ≤ 6)))) ?_ ?_
    · intro hJ5
      rcases bcases (y2 && (decide (s.High ≤ 2000))) with hc6 | hc6
      · skip
        refine JL.fieldAddr fo_39_1 rfl (.some rfl rfl rfl hc6) rfl ?_
        refine JL.loadOwn 0 az_3 rfl rfl rfl (.some rfl rfl rfl hc6) rfl ?_
        refine JL.fieldAddr fo_39_0 rfl (.some rfl rfl rfl hc6) rfl ?_
        refine JL.loadOwn 0 az_3 rfl rfl rfl (.some rfl rfl rfl hc6) rfl ?_
        refine JL.bin rfl rfl rfl (.some rfl rfl rfl hc6) rfl ?_
        refine JL.bin rfl rfl rfl (.some rfl rfl rfl hc6) rfl ?_
        refine JL.pick_t (b := (y2 && (decide (s.High ≤ 2000)))) rfl hc6 .none rfl ?_
        exact hJ5 _ (and_t hc6 rfl)
      · skip
        refine JL.skip (.bool rfl rfl rfl hc6) rfl ?_
        refine JL.skip (.bool rfl rfl rfl hc6) rfl ?_
        refine JL.skip (.bool rfl rfl rfl hc6) rfl ?_
        refine JL.skip (.bool rfl rfl rfl hc6) rfl ?_
        refine JL.skip (.bool rfl rfl rfl hc6) rfl ?_
        refine JL.skip (.bool rfl rfl rfl hc6) rfl ?_
        refine JL.pick_f (b := (y2 && (decide (s.High ≤ 2000)))) rfl hc6 .none rfl ?_
        exact hJ5 _ (and_f hc6 rfl)
    · rintro f hf20
      refine (JL.norm (i := 20) hf20 ?_)
      refine JL.assign .none rfl ?_
      refine JL.done hQ ?_
      refine JQ.go ?_
      refine JC.ret ?_
      obtain rfl := Option.some.inj hF
      exact JQ.outS rfl (.tmp .nil) rfl

-- 129 ferrule/frames.isShare
def F_frames_isShare (n : Nat) (f_ : Frac) : Option Bool :=
  (F_frames_within n f_.Den 1 20).bind fun y2 => (if y2 = true then ((F_frames_within n f_.Num 0 f_.Den).bind fun y7 => some y7) else (some false) : Option Bool).bind fun p4 => some p4
set_option maxRecDepth 100000 in
set_option maxHeartbeats 40000000 in
theorem c_frames_isShare (n : Nat) (H : Hp) (f_ : Frac) (y : Bool) (hF : F_frames_isShare n f_ = some y) : SC Try.prog 129 [.agg [.int .i64 f_.Num, .int .i64 f_.Den].toArray] (.bool y) H := by
  rw [F_frames_isShare] at hF
  refine SC.of (N := 13) Try.func129 rfl rfl rfl fun w => ?_
  refine JC.seq ?_
  refine JC.region (by rfl) ?_
  intro hQ
  refine JL.box (cs := [.int .i64 f_.Num, .int .i64 f_.Den]) rfl .none rfl ?_
  intro b1
  refine JL.assign .none rfl ?_
  refine JL.done hQ ?_
  refine JQ.go ?_
  refine JC.seq ?_
  refine JC.region (by rfl) ?_
  intro hQ
  refine JL.fieldAddr fo_51_1 rfl .none rfl ?_
  refine JL.loadOwn 0 az_3 rfl rfl rfl .none rfl ?_
  obtain ⟨y2, hy2, hF⟩ := bind_some hF
  refine JL.callS (c_frames_within n H f_.Den 1 20 y2 hy2) rfl en_124 .none rfl ?_
  refine JL.move .none rfl ?_
  obtain ⟨p4, hp4, hF⟩ := bind_some hF
  refine JL.cut 6 (fun f => f 12 = .bool p4) ?_ ?_
  · intro hJ5
    rcases ite_some hp4 with ⟨hc6, hF⟩ | ⟨hc6, hF⟩
    · skip
      refine JL.fieldAddr fo_51_0 rfl (.some rfl rfl rfl hc6) rfl ?_
      refine JL.loadOwn 0 az_3 rfl rfl rfl (.some rfl rfl rfl hc6) rfl ?_
      refine JL.fieldAddr fo_51_1 rfl (.some rfl rfl rfl hc6) rfl ?_
      refine JL.loadOwn 0 az_3 rfl rfl rfl (.some rfl rfl rfl hc6) rfl ?_
      obtain ⟨y7, hy7, hF⟩ := bind_some hF
      refine JL.callS (c_frames_within n H f_.Num 0 f_.Den y7 hy7) rfl en_124 (.some rfl rfl rfl hc6) rfl ?_
      refine JL.pick_t (b := y2) rfl hc6 .none rfl ?_
      obtain rfl := Option.some.inj hF
      exact hJ5 _ (rfl)
    · skip
      refine JL.skip (.bool rfl rfl rfl hc6) rfl ?_
      refine JL.skip (.bool rfl rfl rfl hc6) rfl ?_
      refine JL.skip (.bool rfl rfl rfl hc6) rfl ?_
      refine JL.skip (.bool rfl rfl rfl hc6) rfl ?_
      refine JL.skip (.bool rfl rfl rfl hc6) rfl ?_
      refine JL.pick_f (b := y2) rfl hc6 .none rfl ?_
      obtain rfl := Option.some.inj hF
      exact hJ5 _ (rfl)
  · rintro f hf12
    refine (JL.norm (i := 12) hf12 ?_)
    refine JL.assign .none rfl ?_
    refine JL.done hQ ?_
    refine JQ.go ?_
    refine JC.ret ?_
    obtain rfl := Option.some.inj hF
    exact JQ.outS rfl (.tmp .nil) rfl

-- 127 ferrule/frames.Check$1
def F_frames_Check_1 (n : Nat) (s : Section) : Option Bool :=
  (F_frames_isPart n s.Arm).bind fun y2 => (if (!y2) = true then (some true) else ((F_frames_isPart n s.Stretch).bind fun y7 => some (!y7)) : Option Bool).bind fun p4 => (if p4 = true then (some true) else ((F_frames_within n s.Base 0 2000).bind fun y12 => some (!y12)) : Option Bool).bind fun p9 => (if p9 = true then (some true) else ((F_frames_isShare n s.Gear).bind fun y17 => some (!y17)) : Option Bool).bind fun p14 => some p14
set_option maxRecDepth 100000 in
set_option maxHeartbeats 40000000 in
theorem c_frames_Check_1 (n : Nat) (H : Hp) (s : Section) (y : Bool) (hF : F_frames_Check_1 n s = some y) : SC Try.prog 127 [.agg [.int .i64 s.Arm.Low, .int .i64 s.Arm.High, .int .i64 s.Stretch.Low, .int .i64 s.Stretch.High, .int .i64 s.Base, .int .i64 s.Gear.Num, .int .i64 s.Gear.Den].toArray] (.bool y) H := by
  rw [F_frames_Check_1] at hF
  refine SC.of (N := 25) Try.func127 rfl rfl rfl fun w => ?_
  refine JC.seq ?_
  refine JC.region (by rfl) ?_
  intro hQ
  refine JL.box (cs := [.int .i64 s.Arm.Low, .int .i64 s.Arm.High, .int .i64 s.Stretch.Low, .int .i64 s.Stretch.High, .int .i64 s.Base, .int .i64 s.Gear.Num, .int .i64 s.Gear.Den]) rfl .none rfl ?_
  intro b1
  refine JL.assign .none rfl ?_
  refine JL.done hQ ?_
  refine JQ.go ?_
  refine JC.seq ?_
  refine JC.region (by rfl) ?_
  intro hQ
  refine JL.fieldAddr fo_68_0 rfl .none rfl ?_
  refine JL.loadOwn 0 az_39 rfl rfl rfl .none rfl ?_
  obtain ⟨y2, hy2, hF⟩ := bind_some hF
  refine JL.callS (c_frames_isPart n H s.Arm y2 hy2) rfl en_128 .none rfl ?_
  refine JL.not rfl .none rfl ?_
  refine JL.move .none rfl ?_
  obtain ⟨p4, hp4, hF⟩ := bind_some hF
  refine JL.cut 5 (fun f => f 1 = .pointer (some ⟨b1, 0, none⟩) ∧ f 12 = .bool p4) ?_ ?_
  · intro hJ5
    rcases ite_some hp4 with ⟨hc6, hF⟩ | ⟨hc6, hF⟩
    · skip
      refine JL.skip (.bool rfl rfl rfl hc6) rfl ?_
      refine JL.skip (.bool rfl rfl rfl hc6) rfl ?_
      refine JL.skip (.bool rfl rfl rfl hc6) rfl ?_
      refine JL.skip (.bool rfl rfl rfl hc6) rfl ?_
      refine JL.pick_t (b := (!y2)) rfl hc6 .none rfl ?_
      obtain rfl := Option.some.inj hF
      exact hJ5 _ ⟨rfl, rfl⟩
    · skip
      refine JL.fieldAddr fo_68_1 rfl (.some rfl rfl rfl hc6) rfl ?_
      refine JL.loadOwn 0 az_39 rfl rfl rfl (.some rfl rfl rfl hc6) rfl ?_
      obtain ⟨y7, hy7, hF⟩ := bind_some hF
      refine JL.callS (c_frames_isPart n H s.Stretch y7 hy7) rfl en_128 (.some rfl rfl rfl hc6) rfl ?_
      refine JL.not rfl (.some rfl rfl rfl hc6) rfl ?_
      refine JL.pick_f (b := (!y2)) rfl hc6 .none rfl ?_
      obtain rfl := Option.some.inj hF
      exact hJ5 _ ⟨rfl, rfl⟩
  · rintro f ⟨hf1, hf12⟩
    refine (JL.norm (i := 1) hf1 (JL.norm (i := 12) hf12 ?_))
    refine JL.move .none rfl ?_
    obtain ⟨p9, hp9, hF⟩ := bind_some hF
    refine JL.cut 5 (fun f => f 1 = .pointer (some ⟨b1, 0, none⟩) ∧ f 18 = .bool p9) ?_ ?_
    · intro hJ10
      rcases ite_some hp9 with ⟨hc11, hF⟩ | ⟨hc11, hF⟩
      · skip
        refine JL.skip (.bool rfl rfl rfl hc11) rfl ?_
        refine JL.skip (.bool rfl rfl rfl hc11) rfl ?_
        refine JL.skip (.bool rfl rfl rfl hc11) rfl ?_
        refine JL.skip (.bool rfl rfl rfl hc11) rfl ?_
        refine JL.pick_t (b := p4) rfl hc11 .none rfl ?_
        obtain rfl := Option.some.inj hF
        exact hJ10 _ ⟨rfl, rfl⟩
      · skip
        refine JL.fieldAddr fo_68_2 rfl (.some rfl rfl rfl hc11) rfl ?_
        refine JL.loadOwn 0 az_3 rfl rfl rfl (.some rfl rfl rfl hc11) rfl ?_
        obtain ⟨y12, hy12, hF⟩ := bind_some hF
        refine JL.callS (c_frames_within n H s.Base 0 2000 y12 hy12) rfl en_124 (.some rfl rfl rfl hc11) rfl ?_
        refine JL.not rfl (.some rfl rfl rfl hc11) rfl ?_
        refine JL.pick_f (b := p4) rfl hc11 .none rfl ?_
        obtain rfl := Option.some.inj hF
        exact hJ10 _ ⟨rfl, rfl⟩
    · rintro f ⟨hf1, hf18⟩
      refine (JL.norm (i := 1) hf1 (JL.norm (i := 18) hf18 ?_))
      refine JL.move .none rfl ?_
      obtain ⟨p14, hp14, hF⟩ := bind_some hF
      refine JL.cut 5 (fun f => f 24 = .bool p14) ?_ ?_
      · intro hJ15
        rcases ite_some hp14 with ⟨hc16, hF⟩ | ⟨hc16, hF⟩
        · skip
          refine JL.skip (.bool rfl rfl rfl hc16) rfl ?_
          refine JL.skip (.bool rfl rfl rfl hc16) rfl ?_
          refine JL.skip (.bool rfl rfl rfl hc16) rfl ?_
          refine JL.skip (.bool rfl rfl rfl hc16) rfl ?_
          refine JL.pick_t (b := p9) rfl hc16 .none rfl ?_
          obtain rfl := Option.some.inj hF
          exact hJ15 _ (rfl)
        · skip
          refine JL.fieldAddr fo_68_3 rfl (.some rfl rfl rfl hc16) rfl ?_
          refine JL.loadOwn 0 az_51 rfl rfl rfl (.some rfl rfl rfl hc16) rfl ?_
          obtain ⟨y17, hy17, hF⟩ := bind_some hF
          refine JL.callS (c_frames_isShare n H s.Gear y17 hy17) rfl en_129 (.some rfl rfl rfl hc16) rfl ?_
          refine JL.not rfl (.some rfl rfl rfl hc16) rfl ?_
          refine JL.pick_f (b := p9) rfl hc16 .none rfl ?_
          obtain rfl := Option.some.inj hF
          exact hJ15 _ (rfl)
      · rintro f hf24
        refine (JL.norm (i := 24) hf24 ?_)
        refine JL.assign .none rfl ?_
        refine JL.done hQ ?_
        refine JQ.go ?_
        refine JC.ret ?_
        obtain rfl := Option.some.inj hF
        exact JQ.outS rfl (.tmp .nil) rfl

-- 175 slices.IndexFunc[[]ferrule/api.Section,ferrule/api.Section]
def F_slices_IndexFunc___api_Section_api_Section__s1 (n : Nat) (s : List Section) (f_ : Section → Option Bool) : Int → Option (Int ⊕ (Int ⊕ Unit))
  | x_55 => if decide (x_55 < (s.length : Int)) = true then ((geti s x_55).bind fun y60 => (f_ y60).bind fun y65 => if y65 = true then (some (Sum.inr (Sum.inl x_55))) else (some (Sum.inl (w64 (x_55 + 1))))) else (some (Sum.inr (Sum.inr ())))
def F_slices_IndexFunc___api_Section_api_Section_ (n : Nat) (s : List Section) (f_ : Section → Option Bool) : Option Int :=
  (loopO n (F_slices_IndexFunc___api_Section_api_Section__s1 n s f_) 0).bind fun r34 => match r34 with | .inl o => some o | .inr _ => some (-1)
set_option maxRecDepth 100000 in
set_option maxHeartbeats 40000000 in
theorem c_slices_IndexFunc___api_Section_api_Section_ (n : Nat) (H : Hp) (s : List Section) (s_v0 : Value) (hs_0 : SL H 7 R_Section s_v0 s) (f_ : Section → Option Bool) (f__k : Nat) (f__c : List Value) (f__e : Ent Try.prog f__k) (f__h : ∀ H', HSub H H' → ∀ (a0_ : Section) (y : Bool), f_ a0_ = some y → SC Try.prog f__k ([.agg [.int .i64 a0_.Arm.Low, .int .i64 a0_.Arm.High, .int .i64 a0_.Stretch.Low, .int .i64 a0_.Stretch.High, .int .i64 a0_.Base, .int .i64 a0_.Gear.Num, .int .i64 a0_.Gear.Den].toArray] ++ f__c) (.bool y) H') (y : Int) (hF : F_slices_IndexFunc___api_Section_api_Section_ n s f_ = some y) : SC Try.prog 175 [s_v0, .func (.func f__k) #[] f__c.toArray] (.int .i64 y) H := by
  rw [F_slices_IndexFunc___api_Section_api_Section_] at hF
  refine SC.of (N := 19) Try.func175 rfl rfl rfl fun w => ?_
  refine JC.seq ?_
  refine JC.region (by rfl) ?_
  intro hQ
  refine JL.assign .none rfl ?_
  refine JL.done hQ ?_
  refine JQ.go ?_
  refine JC.seq ?_
  refine JC.seq ?_
  refine JC.region (by rfl) ?_
  intro hQ
  refine JL.move .none rfl ?_
  refine JL.lenSL (R := R_Section) ul_49 hs_0 .none rfl ?_
  refine JL.move .none rfl ?_
  refine JL.done hQ ?_
  refine JQ.go ?_
  obtain ⟨r34, hlr34, hKr34⟩ := bind_some hF
  refine JC.join (fun (_ : Unit) H33 f bs gs => bs = [] ∧ gs = [] ∧ HSub H H33 ∧ Sum.inr () = r34) ?_ ?_
  · skip
    refine JC.block ?_
    refine JC.loop hlr34 (fun (x_55 : Int) H56 f bs gs => f 0 = s_v0 ∧ f 1 = .func (.func f__k) #[] f__c.toArray ∧ f 7 = .int .i64 (s.length : Int) ∧ f 8 = .int .i64 x_55 ∧ bs = [] ∧ gs = [] ∧ HSub H H56) ⟨rfl, rfl, rfl, rfl, rfl, rfl, (HSub.refl _)⟩ ?_
    rintro x_55 x58 H56 f bs gs ⟨hf0, hf1, hf7, hf8, rfl, rfl, hs56⟩ hF hr57
    rw [F_slices_IndexFunc___api_Section_api_Section__s1] at hF
    refine (JC.norm (i := 0) hf0 (JC.norm (i := 1) hf1 (JC.norm (i := 7) hf7 (JC.norm (i := 8) hf8 ?_))))
    refine JC.seq ?_
    refine JC.region (by rfl) ?_
    intro hQ
    refine JL.bin rfl rfl rfl .none rfl ?_
    refine JL.done hQ ?_
    refine JQ.go ?_
    refine JC.seq ?_
    rcases ite_some hF with ⟨hc59, hF⟩ | ⟨hc59, hF⟩
    · refine JC.cond_t (b := decide (x_55 < (s.length : Int))) rfl hc59 ?_
      refine JC.skip ?_
      refine JQ.go ?_
      refine JC.seq ?_
      refine JC.block ?_
      refine JC.seq ?_
      refine JC.region (by rfl) ?_
      intro hQ
      refine JL.move .none rfl ?_
      refine JL.assign .none rfl ?_
      refine JL.done hQ ?_
      refine JQ.go ?_
      refine JC.seq ?_
      refine JC.region (by rfl) ?_
      intro hQ
      refine JL.move .none rfl ?_
      refine JL.move .none rfl ?_
      refine JL.move .none rfl ?_
      obtain ⟨y60, hy60, hF⟩ := bind_some hF
      refine JL.indexSL (R := R_Section) sl_49 (SL.mono R_Section_mono hs56 hs_0) rfl hy60 .none rfl ?_
      rintro b61 o62 cs63 hc64 - rfl
      refine JL.loadH 0 az_68 rfl hc64 rfl .none rfl ?_
      obtain ⟨y65, hy65, hF⟩ := bind_some hF
      refine JL.callV rfl (f__h H56 hs56 y60 y65 hy65) rfl f__e .none rfl ?_
      refine JL.done hQ ?_
      refine JQ.go ?_
      rcases ite_some hF with ⟨hc66, hF⟩ | ⟨hc66, hF⟩
      · refine JC.cond_t (b := y65) rfl hc66 ?_
        refine JC.seq ?_
        refine JC.region (by rfl) ?_
        intro hQ
        refine JL.move .none rfl ?_
        refine JL.assign .none rfl ?_
        refine JL.done hQ ?_
        refine JQ.go ?_
        refine JC.fresh (fun f => f 4 = .int .i64 x_55) rfl ?_
        rintro f hf4
        refine (JC.norm (i := 4) hf4 ?_)
        refine JC.ret ?_
        refine JQ.ret_block ?_
        refine JQ.ret_then ?_
        refine JQ.ret_then ?_
        refine JQ.ret_block ?_
        refine JQ.ret_join ?_
        refine JQ.ret_then ?_
        obtain rfl := Option.some.inj hF
        have ehr57 := hr57 _ rfl
        subst ehr57
        have hF := hKr34
        try dsimp only at hF
        obtain rfl := Option.some.inj hF
        exact JQ.outS rfl (.tmp .nil) rfl
      · refine JC.cond_f (b := y65) rfl hc66 ?_
        refine JC.skip ?_
        refine JQ.normal_block ?_
        refine JQ.go ?_
        refine JC.region (by rfl) ?_
        intro hQ
        refine JL.bin rfl rfl rfl .none rfl ?_
        refine JL.move .none rfl ?_
        refine JL.done hQ ?_
        obtain rfl := Option.some.inj hF
        exact JQ.next rfl ⟨rfl, rfl, rfl, rfl, rfl, rfl, hs56⟩
    · refine JC.cond_f (b := decide (x_55 < (s.length : Int))) rfl hc59 ?_
      refine JC.exit ?_
      refine JQ.exit_then ?_
      refine JQ.exit_then ?_
      refine JQ.exit_block ?_
      obtain rfl := Option.some.inj hF
      have ehr57 := hr57 _ rfl
      subst ehr57
      exact JQ.join () ⟨rfl, rfl, hs56, rfl⟩
  · rintro _ H33 f bs gs ⟨rfl, rfl, hs33, rfl⟩
    have hF := hKr34
    try dsimp only at hF
    refine JQ.go ?_
    refine JC.seq ?_
    refine JC.region (by rfl) ?_
    intro hQ
    refine JL.assign .none rfl ?_
    refine JL.done hQ ?_
    refine JQ.go ?_
    refine JC.ret ?_
    obtain rfl := Option.some.inj hF
    exact JQ.outS rfl (.tmp .nil) rfl

-- 130 slices.ContainsFunc[[]ferrule/api.Section,ferrule/api.Section]
def F_slices_ContainsFunc___api_Section_api_Section_ (n : Nat) (s : List Section) (f_ : Section → Option Bool) : Option Bool :=
  (F_slices_IndexFunc___api_Section_api_Section_ n s f_).bind fun y1 => some (decide (0 ≤ y1))
set_option maxRecDepth 100000 in
set_option maxHeartbeats 40000000 in
theorem c_slices_ContainsFunc___api_Section_api_Section_ (n : Nat) (H : Hp) (s : List Section) (s_v0 : Value) (hs_0 : SL H 7 R_Section s_v0 s) (f_ : Section → Option Bool) (f__k : Nat) (f__c : List Value) (f__e : Ent Try.prog f__k) (f__h : ∀ H', HSub H H' → ∀ (a0_ : Section) (y : Bool), f_ a0_ = some y → SC Try.prog f__k ([.agg [.int .i64 a0_.Arm.Low, .int .i64 a0_.Arm.High, .int .i64 a0_.Stretch.Low, .int .i64 a0_.Stretch.High, .int .i64 a0_.Base, .int .i64 a0_.Gear.Num, .int .i64 a0_.Gear.Den].toArray] ++ f__c) (.bool y) H') (y : Bool) (hF : F_slices_ContainsFunc___api_Section_api_Section_ n s f_ = some y) : SC Try.prog 130 [s_v0, .func (.func f__k) #[] f__c.toArray] (.bool y) H := by
  rw [F_slices_ContainsFunc___api_Section_api_Section_] at hF
  refine SC.of (N := 9) Try.func130 rfl rfl rfl fun w => ?_
  refine JC.seq ?_
  refine JC.region (by rfl) ?_
  intro hQ
  refine JL.assign .none rfl ?_
  refine JL.done hQ ?_
  refine JQ.go ?_
  refine JC.seq ?_
  refine JC.region (by rfl) ?_
  intro hQ
  refine JL.move .none rfl ?_
  refine JL.move .none rfl ?_
  obtain ⟨y1, hy1, hF⟩ := bind_some hF
  refine JL.callS (c_slices_IndexFunc___api_Section_api_Section_ n H s s_v0 hs_0 f_ f__k f__c f__e (fun H' hs' => f__h H' hs') y1 hy1) rfl en_175 .none rfl ?_
  refine JL.bin rfl rfl rfl .none rfl ?_
  refine JL.assign .none rfl ?_
  refine JL.done hQ ?_
  refine JQ.go ?_
  refine JC.ret ?_
  obtain rfl := Option.some.inj hF
  exact JQ.outS rfl (.tmp .nil) rfl

-- 79 ferrule/frames.Check
def F_frames_Check (n : Nat) (f_ : Frame) : Option Int :=
  (F_frames_within n f_.Low 1 f_.High).bind fun y2 => (F_frames_within n (f_.Sections.length : Int) 1 3).bind fun y7 => (if (!y7) = true then (some true) else ((F_slices_ContainsFunc___api_Section_api_Section_ n f_.Sections (fun a0_ => F_frames_Check_1 n a0_)).bind fun y12 => some y12) : Option Bool).bind fun p9 => (if (p9 || (!((y2 && (decide (f_.High ≤ 2000))) && (decide ((w64 (f_.High - f_.Low)) ≤ 200))))) = true then (some true) else ((F_frames_isShare n f_.Ease).bind fun y19 => some (!y19)) : Option Bool).bind fun p16 => (if p16 = true then (some true) else ((F_frames_within n f_.Rod 0 4000).bind fun y24 => some (!y24)) : Option Bool).bind fun p21 => (if p21 = true then (some true) else ((F_frames_within n f_.Case 0 4000).bind fun y29 => some (!y29)) : Option Bool).bind fun p26 => if p26 = true then (some 10) else (some 0)
set_option maxRecDepth 100000 in
set_option maxHeartbeats 40000000 in
theorem c_frames_Check (n : Nat) (H : Hp) (f_ : Frame) (f__v0 : Value) (hf__0 : SL H 7 R_Section f__v0 f_.Sections) (y : Int) (hF : F_frames_Check n f_ = some y) : SC Try.prog 79 [.agg [f__v0, .int .i64 f_.Low, .int .i64 f_.High, .int .i64 f_.Ease.Num, .int .i64 f_.Ease.Den, .int .i64 f_.Rod, .int .i64 f_.Case].toArray] (.int .i64 y) H := by
  rw [F_frames_Check] at hF
  refine SC.of (N := 56) Try.func79 rfl rfl rfl fun w => ?_
  refine JC.seq ?_
  refine JC.region (by rfl) ?_
  intro hQ
  refine JL.box (cs := [f__v0, .int .i64 f_.Low, .int .i64 f_.High, .int .i64 f_.Ease.Num, .int .i64 f_.Ease.Den, .int .i64 f_.Rod, .int .i64 f_.Case]) rfl .none rfl ?_
  intro b1
  refine JL.assign .none rfl ?_
  refine JL.done hQ ?_
  refine JQ.go ?_
  refine JC.seq ?_
  refine JC.region (by rfl) ?_
  intro hQ
  refine JL.assign .none rfl ?_
  refine JL.done hQ ?_
  refine JQ.go ?_
  refine JC.seq ?_
  refine JC.region (by rfl) ?_
  intro hQ
  refine JL.fieldAddr fo_53_1 rfl .none rfl ?_
  refine JL.loadOwn 0 az_3 rfl rfl rfl .none rfl ?_
  refine JL.fieldAddr fo_53_2 rfl .none rfl ?_
  refine JL.loadOwn 0 az_3 rfl rfl rfl .none rfl ?_
  obtain ⟨y2, hy2, hF⟩ := bind_some hF
  refine JL.callS (c_frames_within n H f_.Low 1 f_.High y2 hy2) rfl en_124 .none rfl ?_
  refine JL.move .none rfl ?_
  refine JL.cut 4 (fun f => f 1 = .pointer (some ⟨b1, 0, none⟩) ∧ f 3 = .func (.func 127) #[] [].toArray ∧ f 14 = .bool (y2 && (decide (f_.High ≤ 2000)))) ?_ ?_
  · intro hJ3
    rcases bcases y2 with hc4 | hc4
    · skip
      refine JL.fieldAddr fo_53_2 rfl (.some rfl rfl rfl hc4) rfl ?_
      refine JL.loadOwn 0 az_3 rfl rfl rfl (.some rfl rfl rfl hc4) rfl ?_
      refine JL.bin rfl rfl rfl (.some rfl rfl rfl hc4) rfl ?_
      refine JL.pick_t (b := y2) rfl hc4 .none rfl ?_
      exact hJ3 _ ⟨rfl, rfl, and_t hc4 rfl⟩
    · skip
      refine JL.skip (.bool rfl rfl rfl hc4) rfl ?_
      refine JL.skip (.bool rfl rfl rfl hc4) rfl ?_
      refine JL.skip (.bool rfl rfl rfl hc4) rfl ?_
      refine JL.pick_f (b := y2) rfl hc4 .none rfl ?_
      exact hJ3 _ ⟨rfl, rfl, and_f hc4 rfl⟩
  · rintro f ⟨hf1, hf3, hf14⟩
    refine (JL.norm (i := 1) hf1 (JL.norm (i := 3) hf3 (JL.norm (i := 14) hf14 ?_)))
    refine JL.move .none rfl ?_
    refine JL.cut 7 (fun f => f 1 = .pointer (some ⟨b1, 0, none⟩) ∧ f 3 = .func (.func 127) #[] [].toArray ∧ f 22 = .bool ((y2 && (decide (f_.High ≤ 2000))) && (decide ((w64 (f_.High - f_.Low)) ≤ 200)))) ?_ ?_
    · intro hJ5
      rcases bcases (y2 && (decide (f_.High ≤ 2000))) with hc6 | hc6
      · skip
        refine JL.fieldAddr fo_53_2 rfl (.some rfl rfl rfl hc6) rfl ?_
        refine JL.loadOwn 0 az_3 rfl rfl rfl (.some rfl rfl rfl hc6) rfl ?_
        refine JL.fieldAddr fo_53_1 rfl (.some rfl rfl rfl hc6) rfl ?_
        refine JL.loadOwn 0 az_3 rfl rfl rfl (.some rfl rfl rfl hc6) rfl ?_
        refine JL.bin rfl rfl rfl (.some rfl rfl rfl hc6) rfl ?_
        refine JL.bin rfl rfl rfl (.some rfl rfl rfl hc6) rfl ?_
        refine JL.pick_t (b := (y2 && (decide (f_.High ≤ 2000)))) rfl hc6 .none rfl ?_
        exact hJ5 _ ⟨rfl, rfl, and_t hc6 rfl⟩
      · skip
        refine JL.skip (.bool rfl rfl rfl hc6) rfl ?_
        refine JL.skip (.bool rfl rfl rfl hc6) rfl ?_
        refine JL.skip (.bool rfl rfl rfl hc6) rfl ?_
        refine JL.skip (.bool rfl rfl rfl hc6) rfl ?_
        refine JL.skip (.bool rfl rfl rfl hc6) rfl ?_
        refine JL.skip (.bool rfl rfl rfl hc6) rfl ?_
        refine JL.pick_f (b := (y2 && (decide (f_.High ≤ 2000)))) rfl hc6 .none rfl ?_
        exact hJ5 _ ⟨rfl, rfl, and_f hc6 rfl⟩
    · rintro f ⟨hf1, hf3, hf22⟩
      refine (JL.norm (i := 1) hf1 (JL.norm (i := 3) hf3 (JL.norm (i := 22) hf22 ?_)))
      refine JL.assign .none rfl ?_
      refine JL.done hQ ?_
      refine JQ.go ?_
      refine JC.seq ?_
      refine JC.seq ?_
      refine JC.region (by rfl) ?_
      intro hQ
      refine JL.fieldAddr fo_53_0 rfl .none rfl ?_
      refine JL.loadOwn 0 az_49 rfl rfl rfl .none rfl ?_
      refine JL.lenSL (R := R_Section) ul_49 hf__0 .none rfl ?_
      obtain ⟨y7, hy7, hF⟩ := bind_some hF
      refine JL.callS (c_frames_within n H (f_.Sections.length : Int) 1 3 y7 hy7) rfl en_124 .none rfl ?_
      refine JL.not rfl .none rfl ?_
      refine JL.move .none rfl ?_
      obtain ⟨p9, hp9, hF⟩ := bind_some hF
      refine JL.cut 5 (fun f => f 1 = .pointer (some ⟨b1, 0, none⟩) ∧ f 4 = .bool ((y2 && (decide (f_.High ≤ 2000))) && (decide ((w64 (f_.High - f_.Low)) ≤ 200))) ∧ f 33 = .bool p9) ?_ ?_
      · intro hJ10
        rcases ite_some hp9 with ⟨hc11, hF⟩ | ⟨hc11, hF⟩
        · skip
          refine JL.skip (.bool rfl rfl rfl hc11) rfl ?_
          refine JL.skip (.bool rfl rfl rfl hc11) rfl ?_
          refine JL.skip (.bool rfl rfl rfl hc11) rfl ?_
          refine JL.skip (.bool rfl rfl rfl hc11) rfl ?_
          refine JL.pick_t (b := (!y7)) rfl hc11 .none rfl ?_
          obtain rfl := Option.some.inj hF
          exact hJ10 _ ⟨rfl, rfl, rfl⟩
        · skip
          refine JL.fieldAddr fo_53_0 rfl (.some rfl rfl rfl hc11) rfl ?_
          refine JL.loadOwn 0 az_49 rfl rfl rfl (.some rfl rfl rfl hc11) rfl ?_
          refine JL.move (.some rfl rfl rfl hc11) rfl ?_
          obtain ⟨y12, hy12, hF⟩ := bind_some hF
          refine JL.callS (c_slices_ContainsFunc___api_Section_api_Section_ n H f_.Sections f__v0 hf__0 (fun a0_ => F_frames_Check_1 n a0_) 127 [] en_127 (fun H' hs' a0_ y' hy' => c_frames_Check_1 n H' a0_ y' hy') y12 hy12) rfl en_130 (.some rfl rfl rfl hc11) rfl ?_
          refine JL.pick_f (b := (!y7)) rfl hc11 .none rfl ?_
          obtain rfl := Option.some.inj hF
          exact hJ10 _ ⟨rfl, rfl, rfl⟩
      · rintro f ⟨hf1, hf4, hf33⟩
        refine (JL.norm (i := 1) hf1 (JL.norm (i := 4) hf4 (JL.norm (i := 33) hf33 ?_)))
        refine JL.move .none rfl ?_
        refine JL.cut 3 (fun f => f 1 = .pointer (some ⟨b1, 0, none⟩) ∧ f 37 = .bool (p9 || (!((y2 && (decide (f_.High ≤ 2000))) && (decide ((w64 (f_.High - f_.Low)) ≤ 200)))))) ?_ ?_
        · intro hJ13
          rcases bcases p9 with hc14 | hc14
          · skip
            refine JL.skip (.bool rfl rfl rfl hc14) rfl ?_
            refine JL.skip (.bool rfl rfl rfl hc14) rfl ?_
            refine JL.pick_t (b := p9) rfl hc14 .none rfl ?_
            exact hJ13 _ ⟨rfl, or_t hc14 rfl⟩
          · skip
            refine JL.move (.some rfl rfl rfl hc14) rfl ?_
            refine JL.not rfl (.some rfl rfl rfl hc14) rfl ?_
            refine JL.pick_f (b := p9) rfl hc14 .none rfl ?_
            exact hJ13 _ ⟨rfl, or_f hc14 rfl⟩
        · rintro f ⟨hf1, hf37⟩
          refine (JL.norm (i := 1) hf1 (JL.norm (i := 37) hf37 ?_))
          refine JL.move .none rfl ?_
          obtain ⟨p16, hp16, hF⟩ := bind_some hF
          refine JL.cut 5 (fun f => f 1 = .pointer (some ⟨b1, 0, none⟩) ∧ f 43 = .bool p16) ?_ ?_
          · intro hJ17
            rcases ite_some hp16 with ⟨hc18, hF⟩ | ⟨hc18, hF⟩
            · skip
              refine JL.skip (.bool rfl rfl rfl hc18) rfl ?_
              refine JL.skip (.bool rfl rfl rfl hc18) rfl ?_
              refine JL.skip (.bool rfl rfl rfl hc18) rfl ?_
              refine JL.skip (.bool rfl rfl rfl hc18) rfl ?_
              refine JL.pick_t (b := (p9 || (!((y2 && (decide (f_.High ≤ 2000))) && (decide ((w64 (f_.High - f_.Low)) ≤ 200)))))) rfl hc18 .none rfl ?_
              obtain rfl := Option.some.inj hF
              exact hJ17 _ ⟨rfl, rfl⟩
            · skip
              refine JL.fieldAddr fo_53_3 rfl (.some rfl rfl rfl hc18) rfl ?_
              refine JL.loadOwn 0 az_51 rfl rfl rfl (.some rfl rfl rfl hc18) rfl ?_
              obtain ⟨y19, hy19, hF⟩ := bind_some hF
              refine JL.callS (c_frames_isShare n H f_.Ease y19 hy19) rfl en_129 (.some rfl rfl rfl hc18) rfl ?_
              refine JL.not rfl (.some rfl rfl rfl hc18) rfl ?_
              refine JL.pick_f (b := (p9 || (!((y2 && (decide (f_.High ≤ 2000))) && (decide ((w64 (f_.High - f_.Low)) ≤ 200)))))) rfl hc18 .none rfl ?_
              obtain rfl := Option.some.inj hF
              exact hJ17 _ ⟨rfl, rfl⟩
          · rintro f ⟨hf1, hf43⟩
            refine (JL.norm (i := 1) hf1 (JL.norm (i := 43) hf43 ?_))
            refine JL.move .none rfl ?_
            obtain ⟨p21, hp21, hF⟩ := bind_some hF
            refine JL.cut 5 (fun f => f 1 = .pointer (some ⟨b1, 0, none⟩) ∧ f 49 = .bool p21) ?_ ?_
            · intro hJ22
              rcases ite_some hp21 with ⟨hc23, hF⟩ | ⟨hc23, hF⟩
              · skip
                refine JL.skip (.bool rfl rfl rfl hc23) rfl ?_
                refine JL.skip (.bool rfl rfl rfl hc23) rfl ?_
                refine JL.skip (.bool rfl rfl rfl hc23) rfl ?_
                refine JL.skip (.bool rfl rfl rfl hc23) rfl ?_
                refine JL.pick_t (b := p16) rfl hc23 .none rfl ?_
                obtain rfl := Option.some.inj hF
                exact hJ22 _ ⟨rfl, rfl⟩
              · skip
                refine JL.fieldAddr fo_53_4 rfl (.some rfl rfl rfl hc23) rfl ?_
                refine JL.loadOwn 0 az_3 rfl rfl rfl (.some rfl rfl rfl hc23) rfl ?_
                obtain ⟨y24, hy24, hF⟩ := bind_some hF
                refine JL.callS (c_frames_within n H f_.Rod 0 4000 y24 hy24) rfl en_124 (.some rfl rfl rfl hc23) rfl ?_
                refine JL.not rfl (.some rfl rfl rfl hc23) rfl ?_
                refine JL.pick_f (b := p16) rfl hc23 .none rfl ?_
                obtain rfl := Option.some.inj hF
                exact hJ22 _ ⟨rfl, rfl⟩
            · rintro f ⟨hf1, hf49⟩
              refine (JL.norm (i := 1) hf1 (JL.norm (i := 49) hf49 ?_))
              refine JL.move .none rfl ?_
              obtain ⟨p26, hp26, hF⟩ := bind_some hF
              refine JL.cut 5 (fun f => f 55 = .bool p26) ?_ ?_
              · intro hJ27
                rcases ite_some hp26 with ⟨hc28, hF⟩ | ⟨hc28, hF⟩
                · skip
                  refine JL.skip (.bool rfl rfl rfl hc28) rfl ?_
                  refine JL.skip (.bool rfl rfl rfl hc28) rfl ?_
                  refine JL.skip (.bool rfl rfl rfl hc28) rfl ?_
                  refine JL.skip (.bool rfl rfl rfl hc28) rfl ?_
                  refine JL.pick_t (b := p21) rfl hc28 .none rfl ?_
                  obtain rfl := Option.some.inj hF
                  exact hJ27 _ (rfl)
                · skip
                  refine JL.fieldAddr fo_53_5 rfl (.some rfl rfl rfl hc28) rfl ?_
                  refine JL.loadOwn 0 az_3 rfl rfl rfl (.some rfl rfl rfl hc28) rfl ?_
                  obtain ⟨y29, hy29, hF⟩ := bind_some hF
                  refine JL.callS (c_frames_within n H f_.Case 0 4000 y29 hy29) rfl en_124 (.some rfl rfl rfl hc28) rfl ?_
                  refine JL.not rfl (.some rfl rfl rfl hc28) rfl ?_
                  refine JL.pick_f (b := p21) rfl hc28 .none rfl ?_
                  obtain rfl := Option.some.inj hF
                  exact hJ27 _ (rfl)
              · rintro f hf55
                refine (JL.norm (i := 55) hf55 ?_)
                refine JL.done hQ ?_
                refine JQ.go ?_
                rcases ite_some hF with ⟨hc30, hF⟩ | ⟨hc30, hF⟩
                · refine JC.cond_t (b := p26) rfl hc30 ?_
                  refine JC.seq ?_
                  refine JC.region (by rfl) ?_
                  intro hQ
                  refine JL.assign .none rfl ?_
                  refine JL.done hQ ?_
                  refine JQ.go ?_
                  refine JC.ret ?_
                  refine JQ.ret_then ?_
                  obtain rfl := Option.some.inj hF
                  exact JQ.outS rfl (.tmp .nil) rfl
                · refine JC.cond_f (b := p26) rfl hc30 ?_
                  refine JC.skip ?_
                  refine JQ.go ?_
                  refine JC.seq ?_
                  refine JC.region (by rfl) ?_
                  intro hQ
                  refine JL.assign .none rfl ?_
                  refine JL.done hQ ?_
                  refine JQ.go ?_
                  refine JC.ret ?_
                  obtain rfl := Option.some.inj hF
                  exact JQ.outS rfl (.tmp .nil) rfl

-- 176 ferrule/frames.positions$1
def F_frames_positions_1_s1 (n : Nat) (yield : Int → Option Bool) (c_0 : Frame) : Int → Option (Int ⊕ (Unit ⊕ Unit))
  | r_30 => if decide (c_0.Low ≤ r_30) = true then ((yield r_30).bind fun y35 => if (!y35) = true then (some (Sum.inr (Sum.inl ()))) else (some (Sum.inl (w64 (r_30 - 1))))) else (some (Sum.inr (Sum.inr ())))
def F_frames_positions_1 (n : Nat) (yield : Int → Option Bool) (c_0 : Frame) : Option Unit :=
  (loopO n (F_frames_positions_1_s1 n yield c_0) c_0.High).bind fun r19 => match r19 with | .inl o => some o | .inr _ => some ()
set_option maxRecDepth 100000 in
set_option maxHeartbeats 40000000 in
theorem c_frames_positions_1 (n : Nat) (H : Hp) (yield : Int → Option Bool) (yield_k : Nat) (yield_c : List Value) (yield_e : Ent Try.prog yield_k) (yield_h : ∀ H', HSub H H' → ∀ (a0_ : Int) (y : Bool), yield a0_ = some y → SC Try.prog yield_k ([.int .i64 a0_] ++ yield_c) (.bool y) H') (c_0 : Frame) (c_0_v0 : Value) (hc_0_0 : SL H 7 R_Section c_0_v0 c_0.Sections) (c_0_b : Nat) (c_0_c : Cells H c_0_b 0 [c_0_v0, .int .i64 c_0.Low, .int .i64 c_0.High, .int .i64 c_0.Ease.Num, .int .i64 c_0.Ease.Den, .int .i64 c_0.Rod, .int .i64 c_0.Case]) (y : Unit) (hF : F_frames_positions_1 n yield c_0 = some y) : SC Try.prog 176 [.func (.func yield_k) #[] yield_c.toArray, .pointer (some ⟨c_0_b, 0, none⟩)] (.tuple [].toArray) H := by
  rw [F_frames_positions_1] at hF
  refine SC.of (N := 16) Try.func176 rfl rfl rfl fun w => ?_
  refine JC.seq ?_
  refine JC.region (by rfl) ?_
  intro hQ
  refine JL.fieldAddr fo_53_2 rfl .none rfl ?_
  refine JL.loadH 2 az_3 rfl c_0_c rfl .none rfl ?_
  refine JL.assign .none rfl ?_
  refine JL.done hQ ?_
  refine JQ.go ?_
  obtain ⟨r19, hlr19, hKr19⟩ := bind_some hF
  refine JC.join (fun (_ : Unit) H18 f bs gs => bs = [] ∧ gs = [] ∧ HSub H H18 ∧ Sum.inr () = r19) ?_ ?_
  · skip
    refine JC.block ?_
    refine JC.loop hlr19 (fun (r_30 : Int) H31 f bs gs => f 0 = .func (.func yield_k) #[] yield_c.toArray ∧ f 1 = .pointer (some ⟨c_0_b, 0, none⟩) ∧ f 3 = .int .i64 r_30 ∧ bs = [] ∧ gs = [] ∧ HSub H H31) ⟨rfl, rfl, rfl, rfl, rfl, (HSub.refl _)⟩ ?_
    rintro r_30 x33 H31 f bs gs ⟨hf0, hf1, hf3, rfl, rfl, hs31⟩ hF hr32
    rw [F_frames_positions_1_s1] at hF
    refine (JC.norm (i := 0) hf0 (JC.norm (i := 1) hf1 (JC.norm (i := 3) hf3 ?_)))
    refine JC.seq ?_
    refine JC.seq ?_
    refine JC.region (by rfl) ?_
    intro hQ
    refine JL.move .none rfl ?_
    refine JL.fieldAddr fo_53_1 rfl .none rfl ?_
    refine JL.loadH 1 az_3 rfl (Cells.mono hs31 c_0_c) rfl .none rfl ?_
    refine JL.bin rfl rfl rfl .none rfl ?_
    refine JL.done hQ ?_
    refine JQ.go ?_
    rcases ite_some hF with ⟨hc34, hF⟩ | ⟨hc34, hF⟩
    · refine JC.cond_t (b := decide (c_0.Low ≤ r_30)) rfl hc34 ?_
      refine JC.skip ?_
      refine JQ.go ?_
      refine JC.seq ?_
      refine JC.block ?_
      refine JC.seq ?_
      refine JC.region (by rfl) ?_
      intro hQ
      refine JL.move .none rfl ?_
      refine JL.move .none rfl ?_
      obtain ⟨y35, hy35, hF⟩ := bind_some hF
      refine JL.callV rfl (yield_h H31 hs31 r_30 y35 hy35) rfl yield_e .none rfl ?_
      refine JL.not rfl .none rfl ?_
      refine JL.done hQ ?_
      refine JQ.go ?_
      rcases ite_some hF with ⟨hc36, hF⟩ | ⟨hc36, hF⟩
      · refine JC.cond_t (b := (!y35)) rfl hc36 ?_
        refine JC.ret ?_
        refine JQ.ret_block ?_
        refine JQ.ret_then ?_
        refine JQ.ret_then ?_
        refine JQ.ret_block ?_
        refine JQ.ret_join ?_
        obtain rfl := Option.some.inj hF
        have ehr32 := hr32 _ rfl
        subst ehr32
        have hF := hKr19
        try dsimp only at hF
        obtain rfl := Option.some.inj hF
        exact JQ.outS rfl .nil rfl
      · refine JC.cond_f (b := (!y35)) rfl hc36 ?_
        refine JC.skip ?_
        refine JQ.normal_block ?_
        refine JQ.go ?_
        refine JC.region (by rfl) ?_
        intro hQ
        refine JL.move .none rfl ?_
        refine JL.bin rfl rfl rfl .none rfl ?_
        refine JL.assign .none rfl ?_
        refine JL.done hQ ?_
        obtain rfl := Option.some.inj hF
        exact JQ.next rfl ⟨rfl, rfl, rfl, rfl, rfl, hs31⟩
    · refine JC.cond_f (b := decide (c_0.Low ≤ r_30)) rfl hc34 ?_
      refine JC.exit ?_
      refine JQ.exit_then ?_
      refine JQ.exit_then ?_
      refine JQ.exit_block ?_
      obtain rfl := Option.some.inj hF
      have ehr32 := hr32 _ rfl
      subst ehr32
      exact JQ.join () ⟨rfl, rfl, hs31, rfl⟩
  · rintro _ H18 f bs gs ⟨rfl, rfl, hs18, rfl⟩
    have hF := hKr19
    try dsimp only at hF
    obtain rfl := Option.some.inj hF
    exact JQ.fellS rfl .nil rfl

end Go.Proofs.Yteihdclpiekmaaa
