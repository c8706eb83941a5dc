/-
  Printed by a program: functions of the translation as plain functions, and their contracts.
-/
import Derived.Test.YtcpnnfdhafbemaaMan
namespace Go.Proofs.Ytcpnnfdhafbemaa
open Go Go.RowKit Go.Dec
set_option linter.unusedVariables false
-- 18 ferrule/ferruleref05.Check
def F_ref05_Check_s1 (n : Nat) (d : Canopy) : Int → Option (Int ⊕ (Int ⊕ Unit))
  | i_425 => if decide (i_425 < (d.Ribs.length : Int)) = true then ((geti d.Ribs i_425).bind fun y469 => (geti d.Ribs i_425).bind fun y474 => (F_ref05_within n y469.Low 0 y474.High).bind fun y479 => (if (!y479) = true then (some true) else ((geti d.Ribs i_425).bind fun y488 => some (decide (99999 < y488.High))) : Option Bool).bind fun p485 => (if p485 = true then (some true) else ((geti d.Shares i_425).bind fun y502 => (F_ref05_within n y502 0 99).bind fun y507 => some (!y507)) : Option Bool).bind fun p499 => if p499 = true then (some (Sum.inr (Sum.inl 50))) else (some (Sum.inl (w64 (i_425 + 1))))) else (some (Sum.inr (Sum.inr ())))
def F_ref05_Check (n : Nat) (d : Canopy) : Option Int :=
  (F_ref01_Check n d.Frame).bind fun y2 => (if (y2 != 0) = true then (some true) else ((F_ref05_within n (d.Ribs.length : Int) 3 10).bind fun y7 => some (!y7)) : Option Bool).bind fun p4 => if (p4 || ((d.Shares.length : Int) != (d.Ribs.length : Int))) = true then (some 50) else ((loopO n (F_ref05_Check_s1 n d) 0).bind fun r260 => match r260 with | .inl o => some o | .inr _ => some 0)
set_option maxRecDepth 100000 in
set_option maxHeartbeats 40000000 in
theorem c_ref05_Check (n : Nat) (H : Hp) (d : Canopy) (d_v0 : Value) (hd_0 : SL H 7 R_Section d_v0 d.Frame.Sections) (d_v7 : Value) (hd_7 : SL H 2 R_Span d_v7 d.Ribs) (d_v8 : Value) (hd_8 : SL H 1 RInt d_v8 d.Shares) (y : Int) (hF : F_ref05_Check n d = some y) : SC Try.prog 18 [.agg [d_v0, .int .i64 d.Frame.Low, .int .i64 d.Frame.High, .int .i64 d.Frame.Ease.Num, .int .i64 d.Frame.Ease.Den, .int .i64 d.Frame.Rod, .int .i64 d.Frame.Case, d_v7, d_v8].toArray] (.int .i64 y) H := by
  rw [F_ref05_Check] at hF
  refine SC.of (N := 63) Try.func18 rfl rfl rfl fun w => ?_
  refine JC.seq ?_
  refine JC.region (by rfl) ?_
  intro hQ
  refine JL.box (cs := [d_v0, .int .i64 d.Frame.Low, .int .i64 d.Frame.High, .int .i64 d.Frame.Ease.Num, .int .i64 d.Frame.Ease.Den, .int .i64 d.Frame.Rod, .int .i64 d.Frame.Case, d_v7, d_v8]) rfl .none rfl ?_
  intro b1
  refine JL.assign .none rfl ?_
  refine JL.done hQ ?_
  refine JQ.go ?_
  refine JC.seq ?_
  refine JC.seq ?_
  refine JC.region (by rfl) ?_
  intro hQ
  refine JL.fieldAddr fo_30_0 rfl .none rfl ?_
  refine JL.loadOwn 0 az_26 rfl rfl rfl .none rfl ?_
  obtain ⟨y2, hy2, hF⟩ := bind_some hF
  refine JL.callS (c_ref01_Check n H d.Frame d_v0 hd_0 y2 hy2) rfl en_54 .none rfl ?_
  refine JL.bin rfl rfl rfl .none rfl ?_
  refine JL.move .none rfl ?_
  obtain ⟨p4, hp4, hF⟩ := bind_some hF
  refine JL.cut 6 (fun f => f 1 = .pointer (some ⟨b1, 0, none⟩) ∧ f 14 = .bool p4) ?_ ?_
  · intro hJ5
    rcases ite_some hp4 with ⟨hc6, hF⟩ | ⟨hc6, hF⟩
    · skip
      refine JL.skip (.bool rfl rfl rfl hc6) rfl ?_
      refine JL.skip (.bool rfl rfl rfl hc6) rfl ?_
      refine JL.skip (.bool rfl rfl rfl hc6) rfl ?_
      refine JL.skip (.bool rfl rfl rfl hc6) rfl ?_
      refine JL.skip (.bool rfl rfl rfl hc6) rfl ?_
      refine JL.pick_t (b := (y2 != 0)) rfl hc6 .none rfl ?_
      obtain rfl := Option.some.inj hF
      exact hJ5 _ ⟨rfl, rfl⟩
    · skip
      refine JL.fieldAddr fo_30_1 rfl (.some rfl rfl rfl hc6) rfl ?_
      refine JL.loadOwn 0 az_27 rfl rfl rfl (.some rfl rfl rfl hc6) rfl ?_
      refine JL.lenSL (R := R_Span) ul_27 hd_7 (.some rfl rfl rfl hc6) rfl ?_
      obtain ⟨y7, hy7, hF⟩ := bind_some hF
      refine JL.callS (c_ref05_within n H (d.Ribs.length : Int) 3 10 y7 hy7) rfl en_55 (.some rfl rfl rfl hc6) rfl ?_
      refine JL.not rfl (.some rfl rfl rfl hc6) rfl ?_
      refine JL.pick_f (b := (y2 != 0)) rfl hc6 .none rfl ?_
      obtain rfl := Option.some.inj hF
      exact hJ5 _ ⟨rfl, rfl⟩
  · rintro f ⟨hf1, hf14⟩
    refine (JL.norm (i := 1) hf1 (JL.norm (i := 14) hf14 ?_))
    refine JL.move .none rfl ?_
    refine JL.cut 8 (fun f => f 1 = .pointer (some ⟨b1, 0, none⟩) ∧ f 23 = .bool (p4 || ((d.Shares.length : Int) != (d.Ribs.length : Int)))) ?_ ?_
    · intro hJ8
      rcases bcases p4 with hc9 | hc9
      · skip
        refine JL.skip (.bool rfl rfl rfl hc9) rfl ?_
        refine JL.skip (.bool rfl rfl rfl hc9) rfl ?_
        refine JL.skip (.bool rfl rfl rfl hc9) rfl ?_
        refine JL.skip (.bool rfl rfl rfl hc9) rfl ?_
        refine JL.skip (.bool rfl rfl rfl hc9) rfl ?_
        refine JL.skip (.bool rfl rfl rfl hc9) rfl ?_
        refine JL.skip (.bool rfl rfl rfl hc9) rfl ?_
        refine JL.pick_t (b := p4) rfl hc9 .none rfl ?_
        exact hJ8 _ ⟨rfl, or_t hc9 rfl⟩
      · skip
        refine JL.fieldAddr fo_30_2 rfl (.some rfl rfl rfl hc9) rfl ?_
        refine JL.loadOwn 0 az_28 rfl rfl rfl (.some rfl rfl rfl hc9) rfl ?_
        refine JL.lenSL (R := RInt) ul_28 hd_8 (.some rfl rfl rfl hc9) rfl ?_
        refine JL.fieldAddr fo_30_1 rfl (.some rfl rfl rfl hc9) rfl ?_
        refine JL.loadOwn 0 az_27 rfl rfl rfl (.some rfl rfl rfl hc9) rfl ?_
        refine JL.lenSL (R := R_Span) ul_27 hd_7 (.some rfl rfl rfl hc9) rfl ?_
        refine JL.bin rfl rfl rfl (.some rfl rfl rfl hc9) rfl ?_
        refine JL.pick_f (b := p4) rfl hc9 .none rfl ?_
        exact hJ8 _ ⟨rfl, or_f hc9 rfl⟩
    · rintro f ⟨hf1, hf23⟩
      refine (JL.norm (i := 1) hf1 (JL.norm (i := 23) hf23 ?_))
      refine JL.done hQ ?_
      refine JQ.go ?_
      rcases ite_some hF with ⟨hc10, hF⟩ | ⟨hc10, hF⟩
      · refine JC.cond_t (b := (p4 || ((d.Shares.length : Int) != (d.Ribs.length : Int)))) rfl hc10 ?_
        refine JC.seq ?_
        refine JC.region (by rfl) ?_
        intro hQ
        refine JL.assign .none rfl ?_
        refine JL.done hQ ?_
        refine JQ.go ?_
        refine JC.ret ?_
        refine JQ.ret_then ?_
        obtain rfl := Option.some.inj hF
        exact JQ.outS rfl (.tmp .nil) rfl
      · refine JC.cond_f (b := (p4 || ((d.Shares.length : Int) != (d.Ribs.length : Int)))) rfl hc10 ?_
        refine JC.skip ?_
        refine JQ.go ?_
        refine JC.seq ?_
        refine JC.seq ?_
        refine JC.region (by rfl) ?_
        intro hQ
        refine JL.assign .none rfl ?_
        refine JL.done hQ ?_
        refine JQ.go ?_
        obtain ⟨r260, hlr260, hKr260⟩ := bind_some hF
        refine JC.join (fun (_ : Unit) H259 f bs gs => bs = [] ∧ gs = [] ∧ HSub H H259 ∧ Sum.inr () = r260) ?_ ?_
        · skip
          refine JC.block ?_
          refine JC.loop hlr260 (fun (i_425 : Int) H426 f bs gs => f 1 = .pointer (some ⟨b1, 0, none⟩) ∧ f 3 = .int .i64 i_425 ∧ bs = [(b1, .cells [d_v0, .int .i64 d.Frame.Low, .int .i64 d.Frame.High, .int .i64 d.Frame.Ease.Num, .int .i64 d.Frame.Ease.Den, .int .i64 d.Frame.Rod, .int .i64 d.Frame.Case, d_v7, d_v8].toArray 30)] ∧ gs = [] ∧ HSub H H426) ⟨rfl, rfl, rfl, rfl, (HSub.refl _)⟩ ?_
          rintro i_425 x428 H426 f bs gs ⟨hf1, hf3, rfl, rfl, hs426⟩ hF hr427
          rw [F_ref05_Check_s1] at hF
          refine (JC.norm (i := 1) hf1 (JC.norm (i := 3) hf3 ?_))
          refine JC.seq ?_
          refine JC.seq ?_
          refine JC.region (by rfl) ?_
          intro hQ
          refine JL.move .none rfl ?_
          refine JL.fieldAddr fo_30_1 rfl .none rfl ?_
          refine JL.loadOwn 0 az_27 rfl rfl rfl .none rfl ?_
          refine JL.lenSL (R := R_Span) ul_27 (SL.mono R_Span_mono hs426 hd_7) .none rfl ?_
          refine JL.bin rfl rfl rfl .none rfl ?_
          refine JL.done hQ ?_
          refine JQ.go ?_
          rcases ite_some hF with ⟨hc429, hF⟩ | ⟨hc429, hF⟩
          · refine JC.cond_t (b := decide (i_425 < (d.Ribs.length : Int))) rfl hc429 ?_
            refine JC.skip ?_
            refine JQ.go ?_
            refine JC.seq ?_
            refine JC.block ?_
            refine JC.seq ?_
            refine JC.draw (by rfl) mo_ (by kernel_rfl) ?_
            intro hQ
            refine JL.fieldAddr fo_30_1 rfl .none rfl ?_
            refine JL.loadOwn 0 az_27 rfl rfl rfl .none rfl ?_
            refine JL.move .none rfl ?_
            obtain ⟨y469, hy469, hF⟩ := bind_some hF
            refine JL.indexSL (R := R_Span) sl_27 (SL.mono R_Span_mono hs426 hd_7) rfl hy469 .none rfl ?_
            rintro b470 o471 cs472 hc473 - rfl
            refine JL.fieldAddr fo_38_0 rfl .none rfl ?_
            refine JL.loadH 0 az_3 rfl hc473 rfl .none rfl ?_
            refine JL.fieldAddr fo_30_1 rfl .none rfl ?_
            refine JL.loadOwn 0 az_27 rfl rfl rfl .none rfl ?_
            refine JL.move .none rfl ?_
            obtain ⟨y474, hy474, hF⟩ := bind_some hF
            refine JL.indexSL (R := R_Span) sl_27 (SL.mono R_Span_mono hs426 hd_7) rfl hy474 .none rfl ?_
            rintro b475 o476 cs477 hc478 - rfl
            refine JL.fieldAddr fo_38_1 rfl .none rfl ?_
            refine JL.loadH 1 az_3 rfl hc478 rfl .none rfl ?_
            obtain ⟨y479, hy479, hF⟩ := bind_some hF
            refine JL.callS (c_ref05_within n H426 y469.Low 0 y474.High y479 hy479) rfl en_55 .none rfl ?_
            refine JL.not rfl .none rfl ?_
            refine JL.move .none rfl ?_
            obtain ⟨p485, hp485, hF⟩ := bind_some hF
            refine JL.cut 8 (fun f => f 1 = .pointer (some ⟨b1, 0, none⟩) ∧ f 3 = .int .i64 i_425 ∧ f 53 = .bool p485) ?_ ?_
            · intro hJ486
              rcases ite_some hp485 with ⟨hc487, hF⟩ | ⟨hc487, hF⟩
              · skip
                refine JL.skip (.bool rfl rfl rfl hc487) rfl ?_
                refine JL.skip (.bool rfl rfl rfl hc487) rfl ?_
                refine JL.skip (.bool rfl rfl rfl hc487) rfl ?_
                refine JL.skip (.bool rfl rfl rfl hc487) rfl ?_
                refine JL.skip (.bool rfl rfl rfl hc487) rfl ?_
                refine JL.skip (.bool rfl rfl rfl hc487) rfl ?_
                refine JL.skip (.bool rfl rfl rfl hc487) rfl ?_
                refine JL.pick_t (b := (!y479)) rfl hc487 .none rfl ?_
                obtain rfl := Option.some.inj hF
                exact hJ486 _ ⟨rfl, rfl, rfl⟩
              · skip
                refine JL.fieldAddr fo_30_1 rfl (.some rfl rfl rfl hc487) rfl ?_
                refine JL.loadOwn 0 az_27 rfl rfl rfl (.some rfl rfl rfl hc487) rfl ?_
                refine JL.move (.some rfl rfl rfl hc487) rfl ?_
                obtain ⟨y488, hy488, hF⟩ := bind_some hF
                refine JL.indexSL (R := R_Span) sl_27 (SL.mono R_Span_mono hs426 hd_7) rfl hy488 (.some rfl rfl rfl hc487) rfl ?_
                rintro b489 o490 cs491 hc492 - rfl
                refine JL.fieldAddr fo_38_1 rfl (.some rfl rfl rfl hc487) rfl ?_
                refine JL.loadH 1 az_3 rfl hc492 rfl (.some rfl rfl rfl hc487) rfl ?_
                refine JL.bin rfl rfl rfl (.some rfl rfl rfl hc487) rfl ?_
                refine JL.pick_f (b := (!y479)) rfl hc487 .none rfl ?_
                obtain rfl := Option.some.inj hF
                exact hJ486 _ ⟨rfl, rfl, rfl⟩
            · rintro f ⟨hf1, hf3, hf53⟩
              refine (JL.norm (i := 1) hf1 (JL.norm (i := 3) hf3 (JL.norm (i := 53) hf53 ?_)))
              refine JL.move .none rfl ?_
              obtain ⟨p499, hp499, hF⟩ := bind_some hF
              refine JL.cut 8 (fun f => f 1 = .pointer (some ⟨b1, 0, none⟩) ∧ f 3 = .int .i64 i_425 ∧ f 62 = .bool p499) ?_ ?_
              · intro hJ500
                rcases ite_some hp499 with ⟨hc501, hF⟩ | ⟨hc501, hF⟩
                · skip
                  refine JL.skip (.bool rfl rfl rfl hc501) rfl ?_
                  refine JL.skip (.bool rfl rfl rfl hc501) rfl ?_
                  refine JL.skip (.bool rfl rfl rfl hc501) rfl ?_
                  refine JL.skip (.bool rfl rfl rfl hc501) rfl ?_
                  refine JL.skip (.bool rfl rfl rfl hc501) rfl ?_
                  refine JL.skip (.bool rfl rfl rfl hc501) rfl ?_
                  refine JL.skip (.bool rfl rfl rfl hc501) rfl ?_
                  refine JL.pick_t (b := p485) rfl hc501 .none rfl ?_
                  obtain rfl := Option.some.inj hF
                  exact hJ500 _ ⟨rfl, rfl, rfl⟩
                · skip
                  refine JL.fieldAddr fo_30_2 rfl (.some rfl rfl rfl hc501) rfl ?_
                  refine JL.loadOwn 0 az_28 rfl rfl rfl (.some rfl rfl rfl hc501) rfl ?_
                  refine JL.move (.some rfl rfl rfl hc501) rfl ?_
                  obtain ⟨y502, hy502, hF⟩ := bind_some hF
                  refine JL.indexSL (R := RInt) sl_28 (SL.mono RInt.mono hs426 hd_8) rfl hy502 (.some rfl rfl rfl hc501) rfl ?_
                  rintro b503 o504 cs505 hc506 - rfl
                  refine JL.loadH 0 az_3 rfl hc506 rfl (.some rfl rfl rfl hc501) rfl ?_
                  obtain ⟨y507, hy507, hF⟩ := bind_some hF
                  refine JL.callS (c_ref05_within n H426 y502 0 99 y507 hy507) rfl en_55 (.some rfl rfl rfl hc501) rfl ?_
                  refine JL.not rfl (.some rfl rfl rfl hc501) rfl ?_
                  refine JL.pick_f (b := p485) rfl hc501 .none rfl ?_
                  obtain rfl := Option.some.inj hF
                  exact hJ500 _ ⟨rfl, rfl, rfl⟩
              · rintro f ⟨hf1, hf3, hf62⟩
                refine (JL.norm (i := 1) hf1 (JL.norm (i := 3) hf3 (JL.norm (i := 62) hf62 ?_)))
                refine JL.doneQ hQ ?_
                refine JQ.go ?_
                rcases ite_some hF with ⟨hc508, hF⟩ | ⟨hc508, hF⟩
                · refine JC.cond_t (b := p499) rfl hc508 ?_
                  refine JC.seq ?_
                  refine JC.region (by rfl) ?_
                  intro hQ
                  refine JL.assign .none rfl ?_
                  refine JL.done hQ ?_
                  refine JQ.go ?_
                  refine JC.ret ?_
                  refine JQ.ret_block ?_
                  refine JQ.ret_then ?_
                  refine JQ.ret_then ?_
                  refine JQ.ret_block ?_
                  refine JQ.ret_join ?_
                  refine JQ.ret_then ?_
                  obtain rfl := Option.some.inj hF
                  have ehr427 := hr427 _ rfl
                  subst ehr427
                  have hF := hKr260
                  try dsimp only at hF
                  obtain rfl := Option.some.inj hF
                  exact JQ.outS rfl (.tmp .nil) rfl
                · refine JC.cond_f (b := p499) rfl hc508 ?_
                  refine JC.skip ?_
                  refine JQ.normal_block ?_
                  refine JQ.go ?_
                  refine JC.region (by rfl) ?_
                  intro hQ
                  refine JL.move .none rfl ?_
                  refine JL.bin rfl rfl rfl .none rfl ?_
                  refine JL.assign .none rfl ?_
                  refine JL.done hQ ?_
                  obtain rfl := Option.some.inj hF
                  exact JQ.next rfl ⟨rfl, rfl, rfl, rfl, hs426⟩
          · refine JC.cond_f (b := decide (i_425 < (d.Ribs.length : Int))) rfl hc429 ?_
            refine JC.exit ?_
            refine JQ.exit_then ?_
            refine JQ.exit_then ?_
            refine JQ.exit_block ?_
            obtain rfl := Option.some.inj hF
            have ehr427 := hr427 _ rfl
            subst ehr427
            refine JQ.mask [false] [] ?_
            exact JQ.join () ⟨rfl, rfl, hs426, rfl⟩
        · rintro _ H259 f bs gs ⟨rfl, rfl, hs259, rfl⟩
          have hF := hKr260
          try dsimp only at hF
          refine JQ.go ?_
          refine JC.seq ?_
          refine JC.region (by rfl) ?_
          intro hQ
          refine JL.assign .none rfl ?_
          refine JL.done hQ ?_
          refine JQ.go ?_
          refine JC.ret ?_
          obtain rfl := Option.some.inj hF
          exact JQ.outS rfl (.tmp .nil) rfl

-- 28 ferrule/ferruleref05.IsRib
def F_ref05_IsRib (n : Nat) (d : Canopy) (n_ : Int) : Option Bool :=
  (F_ref05_within n n_ 0 (w64 ((d.Ribs.length : Int) - 1))).bind fun y2 => some y2
set_option maxRecDepth 100000 in
set_option maxHeartbeats 40000000 in
theorem c_ref05_IsRib (n : Nat) (H : Hp) (d : Canopy) (d_v0 : Value) (hd_0 : SL H 7 R_Section d_v0 d.Frame.Sections) (d_v7 : Value) (hd_7 : SL H 2 R_Span d_v7 d.Ribs) (d_v8 : Value) (hd_8 : SL H 1 RInt d_v8 d.Shares) (n_ : Int) (y : Bool) (hF : F_ref05_IsRib n d n_ = some y) : SC Try.prog 28 [.agg [d_v0, .int .i64 d.Frame.Low, .int .i64 d.Frame.High, .int .i64 d.Frame.Ease.Num, .int .i64 d.Frame.Ease.Den, .int .i64 d.Frame.Rod, .int .i64 d.Frame.Case, d_v7, d_v8].toArray, .int .i64 n_] (.bool y) H := by
  rw [F_ref05_IsRib] at hF
  refine SC.of (N := 11) Try.func28 rfl rfl rfl fun w => ?_
  refine JC.seq ?_
  refine JC.region (by rfl) ?_
  intro hQ
  refine JL.box (cs := [d_v0, .int .i64 d.Frame.Low, .int .i64 d.Frame.High, .int .i64 d.Frame.Ease.Num, .int .i64 d.Frame.Ease.Den, .int .i64 d.Frame.Rod, .int .i64 d.Frame.Case, d_v7, d_v8]) rfl .none rfl ?_
  intro b1
  refine JL.assign .none rfl ?_
  refine JL.done hQ ?_
  refine JQ.go ?_
  refine JC.seq ?_
  refine JC.region (by rfl) ?_
  intro hQ
  refine JL.move .none rfl ?_
  refine JL.fieldAddr fo_30_1 rfl .none rfl ?_
  refine JL.loadOwn 0 az_27 rfl rfl rfl .none rfl ?_
  refine JL.lenSL (R := R_Span) ul_27 hd_7 .none rfl ?_
  refine JL.bin rfl rfl rfl .none rfl ?_
  obtain ⟨y2, hy2, hF⟩ := bind_some hF
  refine JL.callS (c_ref05_within n H n_ 0 (w64 ((d.Ribs.length : Int) - 1)) y2 hy2) rfl en_55 .none rfl ?_
  refine JL.assign .none rfl ?_
  refine JL.done hQ ?_
  refine JQ.go ?_
  refine JC.ret ?_
  obtain rfl := Option.some.inj hF
  exact JQ.outS rfl (.tmp .nil) rfl

-- 41 ferrule/ferruleref05.IsClass
def F_ref05_IsClass_s1 (n : Nat) (d : Canopy) (class_ : List Gust) : Int → Option (Int ⊕ (Bool ⊕ Unit))
  | i_236 => if decide (i_236 < (class_.length : Int)) = true then ((geti class_ i_236).bind fun y262 => (F_ref05_within n y262.Force 0 99).bind fun y267 => (if (!y267) = true then (some true) else ((geti class_ i_236).bind fun y277 => (F_ref05_IsRib n d y277.At).bind fun y282 => some (!y282)) : Option Bool).bind fun p274 => if p274 = true then (some (Sum.inr (Sum.inl false))) else (some (Sum.inl (w64 (i_236 + 1))))) else (some (Sum.inr (Sum.inr ())))
def F_ref05_IsClass (n : Nat) (d : Canopy) (class_ : List Gust) : Option Bool :=
  (loopO n (F_ref05_IsClass_s1 n d class_) 0).bind fun r143 => match r143 with | .inl o => some o | .inr _ => some (decide ((class_.length : Int) ≤ 20))
set_option maxRecDepth 100000 in
set_option maxHeartbeats 40000000 in
theorem c_ref05_IsClass (n : Nat) (H : Hp) (d : Canopy) (d_v0 : Value) (hd_0 : SL H 7 R_Section d_v0 d.Frame.Sections) (d_v7 : Value) (hd_7 : SL H 2 R_Span d_v7 d.Ribs) (d_v8 : Value) (hd_8 : SL H 1 RInt d_v8 d.Shares) (class_ : List Gust) (class__v0 : Value) (hclass__0 : SL H 2 R_Gust class__v0 class_) (y : Bool) (hF : F_ref05_IsClass n d class_ = some y) : SC Try.prog 41 [.agg [d_v0, .int .i64 d.Frame.Low, .int .i64 d.Frame.High, .int .i64 d.Frame.Ease.Num, .int .i64 d.Frame.Ease.Den, .int .i64 d.Frame.Rod, .int .i64 d.Frame.Case, d_v7, d_v8].toArray, class__v0] (.bool y) H := by
  rw [F_ref05_IsClass] at hF
  refine SC.of (N := 32) Try.func41 rfl rfl rfl fun w => ?_
  refine JC.seq ?_
  refine JC.region (by rfl) ?_
  intro hQ
  refine JL.box (cs := [d_v0, .int .i64 d.Frame.Low, .int .i64 d.Frame.High, .int .i64 d.Frame.Ease.Num, .int .i64 d.Frame.Ease.Den, .int .i64 d.Frame.Rod, .int .i64 d.Frame.Case, d_v7, d_v8]) rfl .none rfl ?_
  intro b1
  refine JL.assign .none rfl ?_
  refine JL.done hQ ?_
  refine JQ.go ?_
  refine JC.seq ?_
  refine JC.seq ?_
  refine JC.region (by rfl) ?_
  intro hQ
  refine JL.assign .none rfl ?_
  refine JL.done hQ ?_
  refine JQ.go ?_
  obtain ⟨r143, hlr143, hKr143⟩ := bind_some hF
  refine JC.join (fun (_ : Unit) H142 f bs gs => f 1 = class__v0 ∧ bs = [] ∧ gs = [] ∧ HSub H H142 ∧ Sum.inr () = r143) ?_ ?_
  · skip
    refine JC.block ?_
    refine JC.loop hlr143 (fun (i_236 : Int) H237 f bs gs => f 1 = class__v0 ∧ f 2 = .pointer (some ⟨b1, 0, none⟩) ∧ f 5 = .int .i64 i_236 ∧ bs = [(b1, .cells [d_v0, .int .i64 d.Frame.Low, .int .i64 d.Frame.High, .int .i64 d.Frame.Ease.Num, .int .i64 d.Frame.Ease.Den, .int .i64 d.Frame.Rod, .int .i64 d.Frame.Case, d_v7, d_v8].toArray 30)] ∧ gs = [] ∧ HSub H H237) ⟨rfl, rfl, rfl, rfl, rfl, (HSub.refl _)⟩ ?_
    rintro i_236 x239 H237 f bs gs ⟨hf1, hf2, hf5, rfl, rfl, hs237⟩ hF hr238
    rw [F_ref05_IsClass_s1] at hF
    refine (JC.norm (i := 1) hf1 (JC.norm (i := 2) hf2 (JC.norm (i := 5) hf5 ?_)))
    refine JC.seq ?_
    refine JC.seq ?_
    refine JC.region (by rfl) ?_
    intro hQ
    refine JL.move .none rfl ?_
    refine JL.move .none rfl ?_
    refine JL.lenSL (R := R_Gust) ul_34 (SL.mono R_Gust_mono hs237 hclass__0) .none rfl ?_
    refine JL.bin rfl rfl rfl .none rfl ?_
    refine JL.done hQ ?_
    refine JQ.go ?_
    rcases ite_some hF with ⟨hc240, hF⟩ | ⟨hc240, hF⟩
    · refine JC.cond_t (b := decide (i_236 < (class_.length : Int))) rfl hc240 ?_
      refine JC.skip ?_
      refine JQ.go ?_
      refine JC.seq ?_
      refine JC.block ?_
      refine JC.seq ?_
      refine JC.draw (by rfl) mo_ (by kernel_rfl) ?_
      intro hQ
      refine JL.move .none rfl ?_
      refine JL.move .none rfl ?_
      obtain ⟨y262, hy262, hF⟩ := bind_some hF
      refine JL.indexSL (R := R_Gust) sl_34 (SL.mono R_Gust_mono hs237 hclass__0) rfl hy262 .none rfl ?_
      rintro b263 o264 cs265 hc266 - rfl
      refine JL.fieldAddr fo_32_0 rfl .none rfl ?_
      refine JL.loadH 0 az_3 rfl hc266 rfl .none rfl ?_
      obtain ⟨y267, hy267, hF⟩ := bind_some hF
      refine JL.callS (c_ref05_within n H237 y262.Force 0 99 y267 hy267) rfl en_55 .none rfl ?_
      refine JL.not rfl .none rfl ?_
      refine JL.move .none rfl ?_
      obtain ⟨p274, hp274, hF⟩ := bind_some hF
      refine JL.cut 9 (fun f => f 1 = class__v0 ∧ f 2 = .pointer (some ⟨b1, 0, none⟩) ∧ f 5 = .int .i64 i_236 ∧ f 28 = .bool p274) ?_ ?_
      · intro hJ275
        rcases ite_some hp274 with ⟨hc276, hF⟩ | ⟨hc276, hF⟩
        · skip
          refine JL.skip (.bool rfl rfl rfl hc276) rfl ?_
          refine JL.skip (.bool rfl rfl rfl hc276) rfl ?_
          refine JL.skip (.bool rfl rfl rfl hc276) rfl ?_
          refine JL.skip (.bool rfl rfl rfl hc276) rfl ?_
          refine JL.skip (.bool rfl rfl rfl hc276) rfl ?_
          refine JL.skip (.bool rfl rfl rfl hc276) rfl ?_
          refine JL.skip (.bool rfl rfl rfl hc276) rfl ?_
          refine JL.skip (.bool rfl rfl rfl hc276) rfl ?_
          refine JL.pick_t (b := (!y267)) rfl hc276 .none rfl ?_
          obtain rfl := Option.some.inj hF
          exact hJ275 _ ⟨rfl, rfl, rfl, rfl⟩
        · skip
          refine JL.loadOwn 0 az_30 rfl rfl rfl (.some rfl rfl rfl hc276) rfl ?_
          refine JL.move (.some rfl rfl rfl hc276) rfl ?_
          refine JL.move (.some rfl rfl rfl hc276) rfl ?_
          obtain ⟨y277, hy277, hF⟩ := bind_some hF
          refine JL.indexSL (R := R_Gust) sl_34 (SL.mono R_Gust_mono hs237 hclass__0) rfl hy277 (.some rfl rfl rfl hc276) rfl ?_
          rintro b278 o279 cs280 hc281 - rfl
          refine JL.fieldAddr fo_32_1 rfl (.some rfl rfl rfl hc276) rfl ?_
          refine JL.loadH 1 az_3 rfl hc281 rfl (.some rfl rfl rfl hc276) rfl ?_
          obtain ⟨y282, hy282, hF⟩ := bind_some hF
          refine JL.callS (c_ref05_IsRib n H237 d d_v0 (SL.mono R_Section_mono hs237 hd_0) d_v7 (SL.mono R_Span_mono hs237 hd_7) d_v8 (SL.mono RInt.mono hs237 hd_8) y277.At y282 hy282) rfl en_28 (.some rfl rfl rfl hc276) rfl ?_
          refine JL.not rfl (.some rfl rfl rfl hc276) rfl ?_
          refine JL.pick_f (b := (!y267)) rfl hc276 .none rfl ?_
          obtain rfl := Option.some.inj hF
          exact hJ275 _ ⟨rfl, rfl, rfl, rfl⟩
      · rintro f ⟨hf1, hf2, hf5, hf28⟩
        refine (JL.norm (i := 1) hf1 (JL.norm (i := 2) hf2 (JL.norm (i := 5) hf5 (JL.norm (i := 28) hf28 ?_))))
        refine JL.doneQ hQ ?_
        refine JQ.go ?_
        rcases ite_some hF with ⟨hc283, hF⟩ | ⟨hc283, hF⟩
        · refine JC.cond_t (b := p274) rfl hc283 ?_
          refine JC.seq ?_
          refine JC.region (by rfl) ?_
          intro hQ
          refine JL.assign .none rfl ?_
          refine JL.done hQ ?_
          refine JQ.go ?_
          refine JC.ret ?_
          refine JQ.ret_block ?_
          refine JQ.ret_then ?_
          refine JQ.ret_then ?_
          refine JQ.ret_block ?_
          refine JQ.ret_join ?_
          refine JQ.ret_then ?_
          obtain rfl := Option.some.inj hF
          have ehr238 := hr238 _ rfl
          subst ehr238
          have hF := hKr143
          try dsimp only at hF
          obtain rfl := Option.some.inj hF
          exact JQ.outS rfl (.tmp .nil) rfl
        · refine JC.cond_f (b := p274) rfl hc283 ?_
          refine JC.skip ?_
          refine JQ.normal_block ?_
          refine JQ.go ?_
          refine JC.region (by rfl) ?_
          intro hQ
          refine JL.move .none rfl ?_
          refine JL.bin rfl rfl rfl .none rfl ?_
          refine JL.assign .none rfl ?_
          refine JL.done hQ ?_
          obtain rfl := Option.some.inj hF
          exact JQ.next rfl ⟨rfl, rfl, rfl, rfl, rfl, hs237⟩
    · refine JC.cond_f (b := decide (i_236 < (class_.length : Int))) rfl hc240 ?_
      refine JC.exit ?_
      refine JQ.exit_then ?_
      refine JQ.exit_then ?_
      refine JQ.exit_block ?_
      obtain rfl := Option.some.inj hF
      have ehr238 := hr238 _ rfl
      subst ehr238
      refine JQ.mask [false] [] ?_
      exact JQ.join () ⟨rfl, rfl, rfl, hs237, rfl⟩
  · rintro _ H142 f bs gs ⟨hf1, rfl, rfl, hs142, rfl⟩
    have hF := hKr143
    try dsimp only at hF
    refine (JQ.norm (i := 1) hf1 ?_)
    refine JQ.go ?_
    refine JC.seq ?_
    refine JC.region (by rfl) ?_
    intro hQ
    refine JL.move .none rfl ?_
    refine JL.lenSL (R := R_Gust) ul_34 (SL.mono R_Gust_mono hs142 hclass__0) .none rfl ?_
    refine JL.bin rfl rfl rfl .none rfl ?_
    refine JL.assign .none rfl ?_
    refine JL.done hQ ?_
    refine JQ.go ?_
    refine JC.ret ?_
    obtain rfl := Option.some.inj hF
    exact JQ.outS rfl (.tmp .nil) rfl

-- 11 ferrule/ferrulelaw05.ready
def F_law05_ready (n : Nat) (d : Canopy) (class_ : List Gust) : Option Bool :=
  (F_law05_Far n d).bind fun y2 => (if (!y2) = true then ((F_ref05_Check n d).bind fun y7 => some (y7 == 0)) else (some false) : Option Bool).bind fun p4 => (if p4 = true then ((F_ref05_IsClass n d class_).bind fun y12 => some y12) else (some false) : Option Bool).bind fun p9 => some p9
set_option maxRecDepth 100000 in
set_option maxHeartbeats 40000000 in
theorem c_law05_ready (n : Nat) (H : Hp) (d : Canopy) (d_v0 : Value) (hd_0 : SL H 7 R_Section d_v0 d.Frame.Sections) (d_v7 : Value) (hd_7 : SL H 2 R_Span d_v7 d.Ribs) (d_v8 : Value) (hd_8 : SL H 1 RInt d_v8 d.Shares) (class_ : List Gust) (class__v0 : Value) (hclass__0 : SL H 2 R_Gust class__v0 class_) (y : Bool) (hF : F_law05_ready n d class_ = some y) : SC Try.prog 11 [.agg [d_v0, .int .i64 d.Frame.Low, .int .i64 d.Frame.High, .int .i64 d.Frame.Ease.Num, .int .i64 d.Frame.Ease.Den, .int .i64 d.Frame.Rod, .int .i64 d.Frame.Case, d_v7, d_v8].toArray, class__v0] (.bool y) H := by
  rw [F_law05_ready] at hF
  refine SC.of (N := 18) Try.func11 rfl rfl rfl fun w => ?_
  refine JC.seq ?_
  refine JC.region (by rfl) ?_
  intro hQ
  refine JL.box (cs := [d_v0, .int .i64 d.Frame.Low, .int .i64 d.Frame.High, .int .i64 d.Frame.Ease.Num, .int .i64 d.Frame.Ease.Den, .int .i64 d.Frame.Rod, .int .i64 d.Frame.Case, d_v7, d_v8]) rfl .none rfl ?_
  intro b1
  refine JL.assign .none rfl ?_
  refine JL.done hQ ?_
  refine JQ.go ?_
  refine JC.seq ?_
  refine JC.region (by rfl) ?_
  intro hQ
  refine JL.loadOwn 0 az_30 rfl rfl rfl .none rfl ?_
  obtain ⟨y2, hy2, hF⟩ := bind_some hF
  refine JL.callS (c_law05_Far n H d d_v0 hd_0 d_v7 hd_7 d_v8 hd_8 y2 hy2) rfl en_16 .none rfl ?_
  refine JL.not rfl .none rfl ?_
  refine JL.move .none rfl ?_
  obtain ⟨p4, hp4, hF⟩ := bind_some hF
  refine JL.cut 4 (fun f => f 1 = class__v0 ∧ f 2 = .pointer (some ⟨b1, 0, none⟩) ∧ f 12 = .bool p4) ?_ ?_
  · intro hJ5
    rcases ite_some hp4 with ⟨hc6, hF⟩ | ⟨hc6, hF⟩
    · skip
      refine JL.loadOwn 0 az_30 rfl rfl rfl (.some rfl rfl rfl hc6) rfl ?_
      obtain ⟨y7, hy7, hF⟩ := bind_some hF
      refine JL.callS (c_ref05_Check n H d d_v0 hd_0 d_v7 hd_7 d_v8 hd_8 y7 hy7) rfl en_18 (.some rfl rfl rfl hc6) rfl ?_
      refine JL.bin rfl rfl rfl (.some rfl rfl rfl hc6) rfl ?_
      refine JL.pick_t (b := (!y2)) rfl hc6 .none rfl ?_
      obtain rfl := Option.some.inj hF
      exact hJ5 _ ⟨rfl, rfl, rfl⟩
    · skip
      refine JL.skip (.bool rfl rfl rfl hc6) rfl ?_
      refine JL.skip (.bool rfl rfl rfl hc6) rfl ?_
      refine JL.skip (.bool rfl rfl rfl hc6) rfl ?_
      refine JL.pick_f (b := (!y2)) rfl hc6 .none rfl ?_
      obtain rfl := Option.some.inj hF
      exact hJ5 _ ⟨rfl, rfl, rfl⟩
  · rintro f ⟨hf1, hf2, hf12⟩
    refine (JL.norm (i := 1) hf1 (JL.norm (i := 2) hf2 (JL.norm (i := 12) hf12 ?_)))
    refine JL.move .none rfl ?_
    obtain ⟨p9, hp9, hF⟩ := bind_some hF
    refine JL.cut 4 (fun f => f 17 = .bool p9) ?_ ?_
    · intro hJ10
      rcases ite_some hp9 with ⟨hc11, hF⟩ | ⟨hc11, hF⟩
      · skip
        refine JL.loadOwn 0 az_30 rfl rfl rfl (.some rfl rfl rfl hc11) rfl ?_
        refine JL.move (.some rfl rfl rfl hc11) rfl ?_
        obtain ⟨y12, hy12, hF⟩ := bind_some hF
        refine JL.callS (c_ref05_IsClass n H d d_v0 hd_0 d_v7 hd_7 d_v8 hd_8 class_ class__v0 hclass__0 y12 hy12) rfl en_41 (.some rfl rfl rfl hc11) rfl ?_
        refine JL.pick_t (b := p4) rfl hc11 .none rfl ?_
        obtain rfl := Option.some.inj hF
        exact hJ10 _ (rfl)
      · skip
        refine JL.skip (.bool rfl rfl rfl hc11) rfl ?_
        refine JL.skip (.bool rfl rfl rfl hc11) rfl ?_
        refine JL.skip (.bool rfl rfl rfl hc11) rfl ?_
        refine JL.pick_f (b := p4) rfl hc11 .none rfl ?_
        obtain rfl := Option.some.inj hF
        exact hJ10 _ (rfl)
    · rintro f hf17
      refine (JL.norm (i := 17) hf17 ?_)
      refine JL.assign .none rfl ?_
      refine JL.done hQ ?_
      refine JQ.go ?_
      refine JC.ret ?_
      obtain rfl := Option.some.inj hF
      exact JQ.outS rfl (.tmp .nil) rfl

-- 67 ferrule/ferrulelaw01.Example
def F_law01_Example (n : Nat)  : Option Frame :=
  some (Frame.mk [(Section.mk (Span.mk 50 52) (Span.mk 60 60) 0 (Frac.mk 1 1)), (Section.mk (Span.mk 40 40) (Span.mk 45 46) 5 (Frac.mk 1 2))] 20 100 (Frac.mk 1 20) 300 351)
set_option maxRecDepth 100000 in
set_option maxHeartbeats 40000000 in
theorem c_law01_Example (n : Nat) (H : Hp)  (y : Frame) (hF : F_law01_Example n = some y) : HC Try.prog 67 [] H (fun H' v => ∃ ra_v0 : Value, v = .agg [ra_v0, .int .i64 y.Low, .int .i64 y.High, .int .i64 y.Ease.Num, .int .i64 y.Ease.Den, .int .i64 y.Rod, .int .i64 y.Case].toArray ∧ SL H' 7 R_Section ra_v0 y.Sections) := by
  rw [F_law01_Example] at hF
  refine HC.of (N := 12) Try.func67 rfl rfl rfl fun w => ?_
  refine JC.seq ?_
  refine JC.region (by rfl) ?_
  intro hQ
  refine JL.alloc ze_26 .none rfl ?_
  intro b1
  refine JL.done hQ ?_
  refine JQ.go ?_
  refine JC.seq ?_
  refine JC.region (by rfl) ?_
  intro hQ
  refine JL.build (l := [.int .i64 50, .int .i64 52]) (by kernel_rfl) .none rfl ?_
  refine JL.build (l := [.int .i64 60, .int .i64 60]) (by kernel_rfl) .none rfl ?_
  refine JL.build (l := [.int .i64 1, .int .i64 1]) (by kernel_rfl) .none rfl ?_
  refine JL.build (l := [.int .i64 50, .int .i64 52, .int .i64 60, .int .i64 60, .int .i64 0, .int .i64 1, .int .i64 1]) (by kernel_rfl) .none rfl ?_
  refine JL.build (l := [.int .i64 40, .int .i64 40]) (by kernel_rfl) .none rfl ?_
  refine JL.build (l := [.int .i64 45, .int .i64 46]) (by kernel_rfl) .none rfl ?_
  refine JL.build (l := [.int .i64 1, .int .i64 2]) (by kernel_rfl) .none rfl ?_
  refine JL.build (l := [.int .i64 40, .int .i64 40, .int .i64 45, .int .i64 46, .int .i64 5, .int .i64 1, .int .i64 2]) (by kernel_rfl) .none rfl ?_
  refine JL.buildSlice (e := 118) (l := [.int .i64 50, .int .i64 52, .int .i64 60, .int .i64 60, .int .i64 0, .int .i64 1, .int .i64 1, .int .i64 40, .int .i64 40, .int .i64 45, .int .i64 46, .int .i64 5, .int .i64 1, .int .i64 2]) (by kernel_rfl) .none rfl ?_
  intro b2
  refine JL.build (l := [.int .i64 1, .int .i64 20]) (by kernel_rfl) .none rfl ?_
  refine JL.build (l := [.slice (some ⟨b2, 0, none⟩) 2 2, .int .i64 20, .int .i64 100, .int .i64 1, .int .i64 20, .int .i64 300, .int .i64 351]) (by kernel_rfl) .none rfl ?_
  refine JL.storeOwn 1 (cs := [.slice (some ⟨b2, 0, none⟩) 2 2, .int .i64 20, .int .i64 100, .int .i64 1, .int .i64 20, .int .i64 300, .int .i64 351]) az_26 rfl rfl rfl (one_cons rfl (one_cons rfl (one_cons rfl (one_cons rfl (one_cons rfl (one_cons rfl (one_cons rfl one_nil))))))) rfl rfl .none ?_
  refine JL.done hQ ?_
  refine JQ.go ?_
  refine JC.ret ?_
  refine JQ.freezeC 0 (l := [.int .i64 50, .int .i64 52, .int .i64 60, .int .i64 60, .int .i64 0, .int .i64 1, .int .i64 1, .int .i64 40, .int .i64 40, .int .i64 45, .int .i64 46, .int .i64 5, .int .i64 1, .int .i64 2]) rfl ?_
  intro H3 hs3 hc4
  have hg5 : SL H3 7 R_Section (.slice (some ⟨b2, 0, none⟩) 2 2) [(Section.mk (Span.mk 50 52) (Span.mk 60 60) 0 (Frac.mk 1 1)), (Section.mk (Span.mk 40 40) (Span.mk 45 46) 5 (Frac.mk 1 2))] := CH.sl (l := [(Section.mk (Span.mk 50 52) (Span.mk 60 60) 0 (Frac.mk 1 1)), (Section.mk (Span.mk 40 40) (Span.mk 45 46) 5 (Frac.mk 1 2))]) (CH.cons (cs := [.int .i64 50, .int .i64 52, .int .i64 60, .int .i64 60, .int .i64 0, .int .i64 1, .int .i64 1]) rfl rfl (CH.cons (cs := [.int .i64 40, .int .i64 40, .int .i64 45, .int .i64 46, .int .i64 5, .int .i64 1, .int .i64 2]) rfl rfl CH.nil)) hc4 ⟨by simp, by simp⟩
  obtain rfl := Option.some.inj hF
  exact JQ.outH rfl (.cell 0 az_26 rfl rfl rfl .nil) ⟨(.slice (some ⟨b2, 0, none⟩) 2 2), rfl, hg5⟩

-- 42 ferrule/ferrulelaw05.Example
def F_law05_Example (n : Nat)  : Option Canopy :=
  (F_law01_Example n).bind fun y2 => some (Canopy.mk y2 [(Span.mk 100 110), (Span.mk 60 60), (Span.mk 50 55), (Span.mk 40 40), (Span.mk 50 50), (Span.mk 60 60)] [10, 6, 3, 1, 3, 6])
set_option maxRecDepth 100000 in
set_option maxHeartbeats 40000000 in
theorem c_law05_Example (n : Nat) (H : Hp)  (y : Canopy) (hF : F_law05_Example n = some y) : HC Try.prog 42 [] H (fun H' v => ∃ ra_v0 ra_v7 ra_v8 : Value, v = .agg [ra_v0, .int .i64 y.Frame.Low, .int .i64 y.Frame.High, .int .i64 y.Frame.Ease.Num, .int .i64 y.Frame.Ease.Den, .int .i64 y.Frame.Rod, .int .i64 y.Frame.Case, ra_v7, ra_v8].toArray ∧ SL H' 7 R_Section ra_v0 y.Frame.Sections ∧ SL H' 2 R_Span ra_v7 y.Ribs ∧ SL H' 1 RInt ra_v8 y.Shares) := by
  rw [F_law05_Example] at hF
  refine HC.of (N := 11) Try.func42 rfl rfl rfl fun w => ?_
  refine JC.seq ?_
  refine JC.region (by rfl) ?_
  intro hQ
  refine JL.alloc ze_30 .none rfl ?_
  intro b1
  refine JL.done hQ ?_
  refine JQ.go ?_
  refine JC.seq ?_
  refine JC.region (by rfl) ?_
  intro hQ
  obtain ⟨y2, hy2, hF⟩ := bind_some hF
  refine JL.callH (c_law01_Example n H y2 hy2) rfl en_67 .none rfl ?_
  rintro H3 vv4 hs3 ⟨y2a_v0, rfl, hy2a_0⟩
  refine JL.build (l := [.int .i64 100, .int .i64 110]) (by kernel_rfl) .none rfl ?_
  refine JL.build (l := [.int .i64 60, .int .i64 60]) (by kernel_rfl) .none rfl ?_
  refine JL.build (l := [.int .i64 50, .int .i64 55]) (by kernel_rfl) .none rfl ?_
  refine JL.build (l := [.int .i64 40, .int .i64 40]) (by kernel_rfl) .none rfl ?_
  refine JL.build (l := [.int .i64 50, .int .i64 50]) (by kernel_rfl) .none rfl ?_
  refine JL.build (l := [.int .i64 60, .int .i64 60]) (by kernel_rfl) .none rfl ?_
  refine JL.buildSlice (e := 38) (l := [.int .i64 100, .int .i64 110, .int .i64 60, .int .i64 60, .int .i64 50, .int .i64 55, .int .i64 40, .int .i64 40, .int .i64 50, .int .i64 50, .int .i64 60, .int .i64 60]) (by kernel_rfl) .none rfl ?_
  intro b5
  refine JL.buildSlice (e := 3) (l := [.int .i64 10, .int .i64 6, .int .i64 3, .int .i64 1, .int .i64 3, .int .i64 6]) (by kernel_rfl) .none rfl ?_
  intro b6
  obtain ⟨a7, c8, rfl, hh9⟩ := hy2a_0
  have hy2a_0 : SL H3 7 R_Section (.slice a7 y2.Sections.length c8) y2.Sections := ⟨a7, c8, rfl, hh9⟩
  refine JL.build (l := [(.slice a7 y2.Sections.length c8), .int .i64 y2.Low, .int .i64 y2.High, .int .i64 y2.Ease.Num, .int .i64 y2.Ease.Den, .int .i64 y2.Rod, .int .i64 y2.Case, .slice (some ⟨b5, 0, none⟩) 6 6, .slice (some ⟨b6, 0, none⟩) 6 6]) (by kernel_rfl) .none rfl ?_
  refine JL.storeOwn 2 (cs := [(.slice a7 y2.Sections.length c8), .int .i64 y2.Low, .int .i64 y2.High, .int .i64 y2.Ease.Num, .int .i64 y2.Ease.Den, .int .i64 y2.Rod, .int .i64 y2.Case, .slice (some ⟨b5, 0, none⟩) 6 6, .slice (some ⟨b6, 0, none⟩) 6 6]) az_30 rfl rfl rfl (one_cons (SL.one hy2a_0) (one_cons rfl (one_cons rfl (one_cons rfl (one_cons rfl (one_cons rfl (one_cons rfl (one_cons rfl (one_cons rfl one_nil))))))))) rfl rfl .none ?_
  refine JL.done hQ ?_
  refine JQ.go ?_
  refine JC.ret ?_
  refine JQ.freezeC 1 (l := [.int .i64 100, .int .i64 110, .int .i64 60, .int .i64 60, .int .i64 50, .int .i64 55, .int .i64 40, .int .i64 40, .int .i64 50, .int .i64 50, .int .i64 60, .int .i64 60]) rfl ?_
  intro H10 hs10 hc11
  have hg12 : SL H10 2 R_Span (.slice (some ⟨b5, 0, none⟩) 6 6) [(Span.mk 100 110), (Span.mk 60 60), (Span.mk 50 55), (Span.mk 40 40), (Span.mk 50 50), (Span.mk 60 60)] := CH.sl (l := [(Span.mk 100 110), (Span.mk 60 60), (Span.mk 50 55), (Span.mk 40 40), (Span.mk 50 50), (Span.mk 60 60)]) (CH.cons (cs := [.int .i64 100, .int .i64 110]) rfl rfl (CH.cons (cs := [.int .i64 60, .int .i64 60]) rfl rfl (CH.cons (cs := [.int .i64 50, .int .i64 55]) rfl rfl (CH.cons (cs := [.int .i64 40, .int .i64 40]) rfl rfl (CH.cons (cs := [.int .i64 50, .int .i64 50]) rfl rfl (CH.cons (cs := [.int .i64 60, .int .i64 60]) rfl rfl CH.nil)))))) hc11 ⟨by simp, by simp⟩
  refine JQ.freezeC 0 (l := [.int .i64 10, .int .i64 6, .int .i64 3, .int .i64 1, .int .i64 3, .int .i64 6]) rfl ?_
  intro H13 hs13 hc14
  have hg15 : SL H13 1 RInt (.slice (some ⟨b6, 0, none⟩) 6 6) [10, 6, 3, 1, 3, 6] := CH.sl (l := [10, 6, 3, 1, 3, 6]) (CH.cons (cs := [.int .i64 10]) rfl rfl (CH.cons (cs := [.int .i64 6]) rfl rfl (CH.cons (cs := [.int .i64 3]) rfl rfl (CH.cons (cs := [.int .i64 1]) rfl rfl (CH.cons (cs := [.int .i64 3]) rfl rfl (CH.cons (cs := [.int .i64 6]) rfl rfl CH.nil)))))) hc14 ⟨by simp, by simp⟩
  obtain rfl := Option.some.inj hF
  exact JQ.outH rfl (.cell 0 az_30 rfl rfl rfl .nil) ⟨(.slice a7 y2.Sections.length c8), (.slice (some ⟨b5, 0, none⟩) 6 6), (.slice (some ⟨b6, 0, none⟩) 6 6), rfl, (SL.mono R_Section_mono (HSub.trans hs10 hs13) hy2a_0), (SL.mono R_Span_mono hs13 hg12), hg15⟩

-- 49 ferrule/gusts.within
def F_gusts_within (n : Nat) (n_ : Int) (low : Int) (high : Int) : Option Bool :=
  some ((decide (low ≤ n_)) && (decide (n_ ≤ high)))
set_option maxRecDepth 100000 in
set_option maxHeartbeats 40000000 in
theorem c_gusts_within (n : Nat) (H : Hp) (n_ : Int) (low : Int) (high : Int) (y : Bool) (hF : F_gusts_within n n_ low high = some y) : SC Try.prog 49 [.int .i64 n_, .int .i64 low, .int .i64 high] (.bool y) H := by
  rw [F_gusts_within] at hF
  refine SC.of (N := 15) Try.func49 rfl rfl rfl fun w => ?_
  refine JC.seq ?_
  refine JC.region (by rfl) ?_
  intro hQ
  refine JL.assign .none rfl ?_
  refine JL.done hQ ?_
  refine JQ.go ?_
  refine JC.seq ?_
  refine JC.region (by rfl) ?_
  intro hQ
  refine JL.move .none rfl ?_
  refine JL.move .none rfl ?_
  refine JL.bin rfl rfl rfl .none rfl ?_
  refine JL.move .none rfl ?_
  refine JL.cut 4 (fun f => f 14 = .bool ((decide (low ≤ n_)) && (decide (n_ ≤ high)))) ?_ ?_
  · intro hJ1
    rcases bcases (decide (low ≤ n_)) with hc2 | hc2
    · skip
      refine JL.move (.some rfl rfl rfl hc2) rfl ?_
      refine JL.move (.some rfl rfl rfl hc2) rfl ?_
      refine JL.bin rfl rfl rfl (.some rfl rfl rfl hc2) rfl ?_
      refine JL.pick_t (b := decide (low ≤ n_)) rfl hc2 .none rfl ?_
      exact hJ1 _ (and_t hc2 rfl)
    · skip
      refine JL.skip (.bool rfl rfl rfl hc2) rfl ?_
      refine JL.skip (.bool rfl rfl rfl hc2) rfl ?_
      refine JL.skip (.bool rfl rfl rfl hc2) rfl ?_
      refine JL.pick_f (b := decide (low ≤ n_)) rfl hc2 .none rfl ?_
      exact hJ1 _ (and_f hc2 rfl)
  · rintro f hf14
    refine (JL.norm (i := 14) hf14 ?_)
    refine JL.assign .none rfl ?_
    refine JL.done hQ ?_
    refine JQ.go ?_
    refine JC.ret ?_
    obtain rfl := Option.some.inj hF
    exact JQ.outS rfl (.tmp .nil) rfl

-- 48 ferrule/gusts.Check$1
def F_gusts_Check_1 (n : Nat) (s : Span) : Option Bool :=
  (F_gusts_within n s.Low 0 s.High).bind fun y2 => some ((!y2) || (decide (99999 < s.High)))
set_option maxRecDepth 100000 in
set_option maxHeartbeats 40000000 in
theorem c_gusts_Check_1 (n : Nat) (H : Hp) (s : Span) (y : Bool) (hF : F_gusts_Check_1 n s = some y) : SC Try.prog 48 [.agg [.int .i64 s.Low, .int .i64 s.High].toArray] (.bool y) H := by
  rw [F_gusts_Check_1] at hF
  refine SC.of (N := 14) Try.func48 rfl rfl rfl fun w => ?_
  refine JC.seq ?_
  refine JC.region (by rfl) ?_
  intro hQ
  refine JL.box (cs := [.int .i64 s.Low, .int .i64 s.High]) rfl .none rfl ?_
  intro b1
  refine JL.assign .none rfl ?_
  refine JL.done hQ ?_
  refine JQ.go ?_
  refine JC.seq ?_
  refine JC.region (by rfl) ?_
  intro hQ
  refine JL.fieldAddr fo_38_0 rfl .none rfl ?_
  refine JL.loadOwn 0 az_3 rfl rfl rfl .none rfl ?_
  refine JL.fieldAddr fo_38_1 rfl .none rfl ?_
  refine JL.loadOwn 0 az_3 rfl rfl rfl .none rfl ?_
  obtain ⟨y2, hy2, hF⟩ := bind_some hF
  refine JL.callS (c_gusts_within n H s.Low 0 s.High y2 hy2) rfl en_49 .none rfl ?_
  refine JL.not rfl .none rfl ?_
  refine JL.move .none rfl ?_
  refine JL.cut 4 (fun f => f 13 = .bool ((!y2) || (decide (99999 < s.High)))) ?_ ?_
  · intro hJ3
    rcases bcases (!y2) with hc4 | hc4
    · skip
      refine JL.skip (.bool rfl rfl rfl hc4) rfl ?_
      refine JL.skip (.bool rfl rfl rfl hc4) rfl ?_
      refine JL.skip (.bool rfl rfl rfl hc4) rfl ?_
      refine JL.pick_t (b := (!y2)) rfl hc4 .none rfl ?_
      exact hJ3 _ (or_t hc4 rfl)
    · skip
      refine JL.fieldAddr fo_38_1 rfl (.some rfl rfl rfl hc4) rfl ?_
      refine JL.loadOwn 0 az_3 rfl rfl rfl (.some rfl rfl rfl hc4) rfl ?_
      refine JL.bin rfl rfl rfl (.some rfl rfl rfl hc4) rfl ?_
      refine JL.pick_f (b := (!y2)) rfl hc4 .none rfl ?_
      exact hJ3 _ (or_f hc4 rfl)
  · rintro f hf13
    refine (JL.norm (i := 13) hf13 ?_)
    refine JL.assign .none rfl ?_
    refine JL.done hQ ?_
    refine JQ.go ?_
    refine JC.ret ?_
    obtain rfl := Option.some.inj hF
    exact JQ.outS rfl (.tmp .nil) rfl

-- 50 ferrule/gusts.Check$2
def F_gusts_Check_2 (n : Nat) (n_ : Int) : Option Bool :=
  (F_gusts_within n n_ 0 99).bind fun y1 => some (!y1)
set_option maxRecDepth 100000 in
set_option maxHeartbeats 40000000 in
theorem c_gusts_Check_2 (n : Nat) (H : Hp) (n_ : Int) (y : Bool) (hF : F_gusts_Check_2 n n_ = some y) : SC Try.prog 50 [.int .i64 n_] (.bool y) H := by
  rw [F_gusts_Check_2] at hF
  refine SC.of (N := 6) Try.func50 rfl rfl rfl fun w => ?_
  refine JC.seq ?_
  refine JC.region (by rfl) ?_
  intro hQ
  refine JL.assign .none rfl ?_
  refine JL.done hQ ?_
  refine JQ.go ?_
  refine JC.seq ?_
  refine JC.region (by rfl) ?_
  intro hQ
  refine JL.move .none rfl ?_
  obtain ⟨y1, hy1, hF⟩ := bind_some hF
  refine JL.callS (c_gusts_within n H n_ 0 99 y1 hy1) rfl en_49 .none rfl ?_
  refine JL.not rfl .none rfl ?_
  refine JL.assign .none rfl ?_
  refine JL.done hQ ?_
  refine JQ.go ?_
  refine JC.ret ?_
  obtain rfl := Option.some.inj hF
  exact JQ.outS rfl (.tmp .nil) rfl

-- 73 ferrule/frames.within
def F_frames_within (n : Nat) (n_ : Int) (low : Int) (high : Int) : Option Bool :=
  some ((decide (low ≤ n_)) && (decide (n_ ≤ high)))
set_option maxRecDepth 100000 in
set_option maxHeartbeats 40000000 in
theorem c_frames_within (n : Nat) (H : Hp) (n_ : Int) (low : Int) (high : Int) (y : Bool) (hF : F_frames_within n n_ low high = some y) : SC Try.prog 73 [.int .i64 n_, .int .i64 low, .int .i64 high] (.bool y) H := by
  rw [F_frames_within] at hF
  refine SC.of (N := 15) Try.func73 rfl rfl rfl fun w => ?_
  refine JC.seq ?_
  refine JC.region (by rfl) ?_
  intro hQ
  refine JL.assign .none rfl ?_
  refine JL.done hQ ?_
  refine JQ.go ?_
  refine JC.seq ?_
  refine JC.region (by rfl) ?_
  intro hQ
  refine JL.move .none rfl ?_
  refine JL.move .none rfl ?_
  refine JL.bin rfl rfl rfl .none rfl ?_
  refine JL.move .none rfl ?_
  refine JL.cut 4 (fun f => f 14 = .bool ((decide (low ≤ n_)) && (decide (n_ ≤ high)))) ?_ ?_
  · intro hJ1
    rcases bcases (decide (low ≤ n_)) with hc2 | hc2
    · skip
      refine JL.move (.some rfl rfl rfl hc2) rfl ?_
      refine JL.move (.some rfl rfl rfl hc2) rfl ?_
      refine JL.bin rfl rfl rfl (.some rfl rfl rfl hc2) rfl ?_
      refine JL.pick_t (b := decide (low ≤ n_)) rfl hc2 .none rfl ?_
      exact hJ1 _ (and_t hc2 rfl)
    · skip
      refine JL.skip (.bool rfl rfl rfl hc2) rfl ?_
      refine JL.skip (.bool rfl rfl rfl hc2) rfl ?_
      refine JL.skip (.bool rfl rfl rfl hc2) rfl ?_
      refine JL.pick_f (b := decide (low ≤ n_)) rfl hc2 .none rfl ?_
      exact hJ1 _ (and_f hc2 rfl)
  · rintro f hf14
    refine (JL.norm (i := 14) hf14 ?_)
    refine JL.assign .none rfl ?_
    refine JL.done hQ ?_
    refine JQ.go ?_
    refine JC.ret ?_
    obtain rfl := Option.some.inj hF
    exact JQ.outS rfl (.tmp .nil) rfl

-- 72 ferrule/frames.isPart
def F_frames_isPart (n : Nat) (s : Span) : Option Bool :=
  (F_frames_within n s.Low 1 s.High).bind fun y2 => some ((y2 && (decide (s.High ≤ 2000))) && (decide ((w64 (s.High - s.Low)) ≤ 6)))
set_option maxRecDepth 100000 in
set_option maxHeartbeats 40000000 in
theorem c_frames_isPart (n : Nat) (H : Hp) (s : Span) (y : Bool) (hF : F_frames_isPart n s = some y) : SC Try.prog 72 [.agg [.int .i64 s.Low, .int .i64 s.High].toArray] (.bool y) H := by
  rw [F_frames_isPart] at hF
  refine SC.of (N := 21) Try.func72 rfl rfl rfl fun w => ?_
  refine JC.seq ?_
  refine JC.region (by rfl) ?_
  intro hQ
  refine JL.box (cs := [.int .i64 s.Low, .int .i64 s.High]) rfl .none rfl ?_
  intro b1
  refine JL.assign .none rfl ?_
  refine JL.done hQ ?_
  refine JQ.go ?_
  refine JC.seq ?_
  refine JC.region (by rfl) ?_
  intro hQ
  refine JL.fieldAddr fo_38_0 rfl .none rfl ?_
  refine JL.loadOwn 0 az_3 rfl rfl rfl .none rfl ?_
  refine JL.fieldAddr fo_38_1 rfl .none rfl ?_
  refine JL.loadOwn 0 az_3 rfl rfl rfl .none rfl ?_
  obtain ⟨y2, hy2, hF⟩ := bind_some hF
  refine JL.callS (c_frames_within n H s.Low 1 s.High y2 hy2) rfl en_73 .none rfl ?_
  refine JL.move .none rfl ?_
  refine JL.cut 4 (fun f => f 1 = .pointer (some ⟨b1, 0, none⟩) ∧ f 12 = .bool (y2 && (decide (s.High ≤ 2000)))) ?_ ?_
  · intro hJ3
    rcases bcases y2 with hc4 | hc4
    · skip
      refine JL.fieldAddr fo_38_1 rfl (.some rfl rfl rfl hc4) rfl ?_
      refine JL.loadOwn 0 az_3 rfl rfl rfl (.some rfl rfl rfl hc4) rfl ?_
      refine JL.bin rfl rfl rfl (.some rfl rfl rfl hc4) rfl ?_
      refine JL.pick_t (b := y2) rfl hc4 .none rfl ?_
      exact hJ3 _ ⟨rfl, and_t hc4 rfl⟩
    · skip
      refine JL.skip (.bool rfl rfl rfl hc4) rfl ?_
      refine JL.skip (.bool rfl rfl rfl hc4) rfl ?_
      refine JL.skip (.bool rfl rfl rfl hc4) rfl ?_
      refine JL.pick_f (b := y2) rfl hc4 .none rfl ?_
      exact hJ3 _ ⟨rfl, and_f hc4 rfl⟩
  · rintro f ⟨hf1, hf12⟩
    refine (JL.norm (i := 1) hf1 (JL.norm (i := 12) hf12 ?_))
    refine JL.move .none rfl ?_
    refine JL.cut 7 (fun f => f 20 = .bool ((y2 && (decide (s.High ≤ 2000))) && (decide ((w64 (s.High - s.Low)) ≤ 6)))) ?_ ?_
    · intro hJ5
      rcases bcases (y2 && (decide (s.High ≤ 2000))) with hc6 | hc6
      · skip
        refine JL.fieldAddr fo_38_1 rfl (.some rfl rfl rfl hc6) rfl ?_
        refine JL.loadOwn 0 az_3 rfl rfl rfl (.some rfl rfl rfl hc6) rfl ?_
        refine JL.fieldAddr fo_38_0 rfl (.some rfl rfl rfl hc6) rfl ?_
        refine JL.loadOwn 0 az_3 rfl rfl rfl (.some rfl rfl rfl hc6) rfl ?_
        refine JL.bin rfl rfl rfl (.some rfl rfl rfl hc6) rfl ?_
        refine JL.bin rfl rfl rfl (.some rfl rfl rfl hc6) rfl ?_
        refine JL.pick_t (b := (y2 && (decide (s.High ≤ 2000)))) rfl hc6 .none rfl ?_
        exact hJ5 _ (and_t hc6 rfl)
      · skip
        refine JL.skip (.bool rfl rfl rfl hc6) rfl ?_
        refine JL.skip (.bool rfl rfl rfl hc6) rfl ?_
        refine JL.skip (.bool rfl rfl rfl hc6) rfl ?_
        refine JL.skip (.bool rfl rfl rfl hc6) rfl ?_
        refine JL.skip (.bool rfl rfl rfl hc6) rfl ?_
        refine JL.skip (.bool rfl rfl rfl hc6) rfl ?_
        refine JL.pick_f (b := (y2 && (decide (s.High ≤ 2000)))) rfl hc6 .none rfl ?_
        exact hJ5 _ (and_f hc6 rfl)
    · rintro f hf20
      refine (JL.norm (i := 20) hf20 ?_)
      refine JL.assign .none rfl ?_
      refine JL.done hQ ?_
      refine JQ.go ?_
      refine JC.ret ?_
      obtain rfl := Option.some.inj hF
      exact JQ.outS rfl (.tmp .nil) rfl

-- 74 ferrule/frames.isShare
def F_frames_isShare (n : Nat) (f_ : Frac) : Option Bool :=
  (F_frames_within n f_.Den 1 20).bind fun y2 => (if y2 = true then ((F_frames_within n f_.Num 0 f_.Den).bind fun y7 => some y7) else (some false) : Option Bool).bind fun p4 => some p4
set_option maxRecDepth 100000 in
set_option maxHeartbeats 40000000 in
theorem c_frames_isShare (n : Nat) (H : Hp) (f_ : Frac) (y : Bool) (hF : F_frames_isShare n f_ = some y) : SC Try.prog 74 [.agg [.int .i64 f_.Num, .int .i64 f_.Den].toArray] (.bool y) H := by
  rw [F_frames_isShare] at hF
  refine SC.of (N := 13) Try.func74 rfl rfl rfl fun w => ?_
  refine JC.seq ?_
  refine JC.region (by rfl) ?_
  intro hQ
  refine JL.box (cs := [.int .i64 f_.Num, .int .i64 f_.Den]) rfl .none rfl ?_
  intro b1
  refine JL.assign .none rfl ?_
  refine JL.done hQ ?_
  refine JQ.go ?_
  refine JC.seq ?_
  refine JC.region (by rfl) ?_
  intro hQ
  refine JL.fieldAddr fo_24_1 rfl .none rfl ?_
  refine JL.loadOwn 0 az_3 rfl rfl rfl .none rfl ?_
  obtain ⟨y2, hy2, hF⟩ := bind_some hF
  refine JL.callS (c_frames_within n H f_.Den 1 20 y2 hy2) rfl en_73 .none rfl ?_
  refine JL.move .none rfl ?_
  obtain ⟨p4, hp4, hF⟩ := bind_some hF
  refine JL.cut 6 (fun f => f 12 = .bool p4) ?_ ?_
  · intro hJ5
    rcases ite_some hp4 with ⟨hc6, hF⟩ | ⟨hc6, hF⟩
    · skip
      refine JL.fieldAddr fo_24_0 rfl (.some rfl rfl rfl hc6) rfl ?_
      refine JL.loadOwn 0 az_3 rfl rfl rfl (.some rfl rfl rfl hc6) rfl ?_
      refine JL.fieldAddr fo_24_1 rfl (.some rfl rfl rfl hc6) rfl ?_
      refine JL.loadOwn 0 az_3 rfl rfl rfl (.some rfl rfl rfl hc6) rfl ?_
      obtain ⟨y7, hy7, hF⟩ := bind_some hF
      refine JL.callS (c_frames_within n H f_.Num 0 f_.Den y7 hy7) rfl en_73 (.some rfl rfl rfl hc6) rfl ?_
      refine JL.pick_t (b := y2) rfl hc6 .none rfl ?_
      obtain rfl := Option.some.inj hF
      exact hJ5 _ (rfl)
    · skip
      refine JL.skip (.bool rfl rfl rfl hc6) rfl ?_
      refine JL.skip (.bool rfl rfl rfl hc6) rfl ?_
      refine JL.skip (.bool rfl rfl rfl hc6) rfl ?_
      refine JL.skip (.bool rfl rfl rfl hc6) rfl ?_
      refine JL.skip (.bool rfl rfl rfl hc6) rfl ?_
      refine JL.pick_f (b := y2) rfl hc6 .none rfl ?_
      obtain rfl := Option.some.inj hF
      exact hJ5 _ (rfl)
  · rintro f hf12
    refine (JL.norm (i := 12) hf12 ?_)
    refine JL.assign .none rfl ?_
    refine JL.done hQ ?_
    refine JQ.go ?_
    refine JC.ret ?_
    obtain rfl := Option.some.inj hF
    exact JQ.outS rfl (.tmp .nil) rfl

-- 71 ferrule/frames.Check$1
def F_frames_Check_1 (n : Nat) (s : Section) : Option Bool :=
  (F_frames_isPart n s.Arm).bind fun y2 => (if (!y2) = true then (some true) else ((F_frames_isPart n s.Stretch).bind fun y7 => some (!y7)) : Option Bool).bind fun p4 => (if p4 = true then (some true) else ((F_frames_within n s.Base 0 2000).bind fun y12 => some (!y12)) : Option Bool).bind fun p9 => (if p9 = true then (some true) else ((F_frames_isShare n s.Gear).bind fun y17 => some (!y17)) : Option Bool).bind fun p14 => some p14
set_option maxRecDepth 100000 in
set_option maxHeartbeats 40000000 in
theorem c_frames_Check_1 (n : Nat) (H : Hp) (s : Section) (y : Bool) (hF : F_frames_Check_1 n s = some y) : SC Try.prog 71 [.agg [.int .i64 s.Arm.Low, .int .i64 s.Arm.High, .int .i64 s.Stretch.Low, .int .i64 s.Stretch.High, .int .i64 s.Base, .int .i64 s.Gear.Num, .int .i64 s.Gear.Den].toArray] (.bool y) H := by
  rw [F_frames_Check_1] at hF
  refine SC.of (N := 25) Try.func71 rfl rfl rfl fun w => ?_
  refine JC.seq ?_
  refine JC.region (by rfl) ?_
  intro hQ
  refine JL.box (cs := [.int .i64 s.Arm.Low, .int .i64 s.Arm.High, .int .i64 s.Stretch.Low, .int .i64 s.Stretch.High, .int .i64 s.Base, .int .i64 s.Gear.Num, .int .i64 s.Gear.Den]) rfl .none rfl ?_
  intro b1
  refine JL.assign .none rfl ?_
  refine JL.done hQ ?_
  refine JQ.go ?_
  refine JC.seq ?_
  refine JC.region (by rfl) ?_
  intro hQ
  refine JL.fieldAddr fo_118_0 rfl .none rfl ?_
  refine JL.loadOwn 0 az_38 rfl rfl rfl .none rfl ?_
  obtain ⟨y2, hy2, hF⟩ := bind_some hF
  refine JL.callS (c_frames_isPart n H s.Arm y2 hy2) rfl en_72 .none rfl ?_
  refine JL.not rfl .none rfl ?_
  refine JL.move .none rfl ?_
  obtain ⟨p4, hp4, hF⟩ := bind_some hF
  refine JL.cut 5 (fun f => f 1 = .pointer (some ⟨b1, 0, none⟩) ∧ f 12 = .bool p4) ?_ ?_
  · intro hJ5
    rcases ite_some hp4 with ⟨hc6, hF⟩ | ⟨hc6, hF⟩
    · skip
      refine JL.skip (.bool rfl rfl rfl hc6) rfl ?_
      refine JL.skip (.bool rfl rfl rfl hc6) rfl ?_
      refine JL.skip (.bool rfl rfl rfl hc6) rfl ?_
      refine JL.skip (.bool rfl rfl rfl hc6) rfl ?_
      refine JL.pick_t (b := (!y2)) rfl hc6 .none rfl ?_
      obtain rfl := Option.some.inj hF
      exact hJ5 _ ⟨rfl, rfl⟩
    · skip
      refine JL.fieldAddr fo_118_1 rfl (.some rfl rfl rfl hc6) rfl ?_
      refine JL.loadOwn 0 az_38 rfl rfl rfl (.some rfl rfl rfl hc6) rfl ?_
      obtain ⟨y7, hy7, hF⟩ := bind_some hF
      refine JL.callS (c_frames_isPart n H s.Stretch y7 hy7) rfl en_72 (.some rfl rfl rfl hc6) rfl ?_
      refine JL.not rfl (.some rfl rfl rfl hc6) rfl ?_
      refine JL.pick_f (b := (!y2)) rfl hc6 .none rfl ?_
      obtain rfl := Option.some.inj hF
      exact hJ5 _ ⟨rfl, rfl⟩
  · rintro f ⟨hf1, hf12⟩
    refine (JL.norm (i := 1) hf1 (JL.norm (i := 12) hf12 ?_))
    refine JL.move .none rfl ?_
    obtain ⟨p9, hp9, hF⟩ := bind_some hF
    refine JL.cut 5 (fun f => f 1 = .pointer (some ⟨b1, 0, none⟩) ∧ f 18 = .bool p9) ?_ ?_
    · intro hJ10
      rcases ite_some hp9 with ⟨hc11, hF⟩ | ⟨hc11, hF⟩
      · skip
        refine JL.skip (.bool rfl rfl rfl hc11) rfl ?_
        refine JL.skip (.bool rfl rfl rfl hc11) rfl ?_
        refine JL.skip (.bool rfl rfl rfl hc11) rfl ?_
        refine JL.skip (.bool rfl rfl rfl hc11) rfl ?_
        refine JL.pick_t (b := p4) rfl hc11 .none rfl ?_
        obtain rfl := Option.some.inj hF
        exact hJ10 _ ⟨rfl, rfl⟩
      · skip
        refine JL.fieldAddr fo_118_2 rfl (.some rfl rfl rfl hc11) rfl ?_
        refine JL.loadOwn 0 az_3 rfl rfl rfl (.some rfl rfl rfl hc11) rfl ?_
        obtain ⟨y12, hy12, hF⟩ := bind_some hF
        refine JL.callS (c_frames_within n H s.Base 0 2000 y12 hy12) rfl en_73 (.some rfl rfl rfl hc11) rfl ?_
        refine JL.not rfl (.some rfl rfl rfl hc11) rfl ?_
        refine JL.pick_f (b := p4) rfl hc11 .none rfl ?_
        obtain rfl := Option.some.inj hF
        exact hJ10 _ ⟨rfl, rfl⟩
    · rintro f ⟨hf1, hf18⟩
      refine (JL.norm (i := 1) hf1 (JL.norm (i := 18) hf18 ?_))
      refine JL.move .none rfl ?_
      obtain ⟨p14, hp14, hF⟩ := bind_some hF
      refine JL.cut 5 (fun f => f 24 = .bool p14) ?_ ?_
      · intro hJ15
        rcases ite_some hp14 with ⟨hc16, hF⟩ | ⟨hc16, hF⟩
        · skip
          refine JL.skip (.bool rfl rfl rfl hc16) rfl ?_
          refine JL.skip (.bool rfl rfl rfl hc16) rfl ?_
          refine JL.skip (.bool rfl rfl rfl hc16) rfl ?_
          refine JL.skip (.bool rfl rfl rfl hc16) rfl ?_
          refine JL.pick_t (b := p9) rfl hc16 .none rfl ?_
          obtain rfl := Option.some.inj hF
          exact hJ15 _ (rfl)
        · skip
          refine JL.fieldAddr fo_118_3 rfl (.some rfl rfl rfl hc16) rfl ?_
          refine JL.loadOwn 0 az_24 rfl rfl rfl (.some rfl rfl rfl hc16) rfl ?_
          obtain ⟨y17, hy17, hF⟩ := bind_some hF
          refine JL.callS (c_frames_isShare n H s.Gear y17 hy17) rfl en_74 (.some rfl rfl rfl hc16) rfl ?_
          refine JL.not rfl (.some rfl rfl rfl hc16) rfl ?_
          refine JL.pick_f (b := p9) rfl hc16 .none rfl ?_
          obtain rfl := Option.some.inj hF
          exact hJ15 _ (rfl)
      · rintro f hf24
        refine (JL.norm (i := 24) hf24 ?_)
        refine JL.assign .none rfl ?_
        refine JL.done hQ ?_
        refine JQ.go ?_
        refine JC.ret ?_
        obtain rfl := Option.some.inj hF
        exact JQ.outS rfl (.tmp .nil) rfl

end Go.Proofs.Ytcpnnfdhafbemaa
