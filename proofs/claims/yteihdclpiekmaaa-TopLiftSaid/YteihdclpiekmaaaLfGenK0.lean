/-
  Printed by a program: functions of the translation as plain functions, and their contracts.
-/
import Derived.Test.YteihdclpiekmaaaLfGenT
namespace Go.Proofs.Yteihdclpiekmaaa
open Go Go.RowKit Go.Dec
set_option linter.unusedVariables false
-- 100 (ferrule/gusts.blown).load
def F_gusts_blown_load (n : Nat) (b : gusts_blown) (g : Gust) (rib : Int) : Option Int :=
  (nz (b.shares.length : Int)).bind fun _ => (geti b.shares ((w64 ((w64 (rib - g.At)) + (b.shares.length : Int))).tmod (b.shares.length : Int))).bind fun y10 => some (w64 ((w64 ((w64 (g.Force * b.lift)) * y10)).tdiv 100))
set_option maxRecDepth 100000 in
set_option maxHeartbeats 40000000 in
theorem c_gusts_blown_load (n : Nat) (H : Hp) (b : gusts_blown) (b_v1 : Value) (hb_1 : SL H 1 RInt b_v1 b.ribs) (b_v2 : Value) (hb_2 : SL H 1 RInt b_v2 b.shares) (g : Gust) (rib : Int) (y : Int) (hF : F_gusts_blown_load n b g rib = some y) : SC Try.prog 100 [.agg [.int .i64 b.lift, b_v1, b_v2].toArray, .agg [.int .i64 g.Force, .int .i64 g.At].toArray, .int .i64 rib] (.int .i64 y) H := by
  rw [F_gusts_blown_load] at hF
  refine SC.of (N := 30) Try.func100 rfl rfl rfl fun w => ?_
  refine JC.seq ?_
  refine JC.region (by rfl) ?_
  intro hQ
  refine JL.box (cs := [.int .i64 b.lift, b_v1, b_v2]) rfl .none rfl ?_
  intro b1
  refine JL.box (cs := [.int .i64 g.Force, .int .i64 g.At]) rfl .none rfl ?_
  intro b2
  refine JL.assign .none rfl ?_
  refine JL.done hQ ?_
  refine JQ.go ?_
  refine JC.seq ?_
  refine JC.region (by rfl) ?_
  intro hQ
  refine JL.fieldAddr fo_156_2 rfl .none rfl ?_
  refine JL.loadOwn 1 az_23 rfl rfl rfl .none rfl ?_
  refine JL.lenSL (R := RInt) ul_23 hb_2 .none rfl ?_
  refine JL.assign .none rfl ?_
  refine JL.done hQ ?_
  refine JQ.go ?_
  refine JC.seq ?_
  refine JC.draw (by rfl) mo_ (by kernel_rfl) ?_
  intro hQ
  refine JL.fieldAddr fo_86_0 rfl .none rfl ?_
  refine JL.loadOwn 0 az_3 rfl rfl rfl .none rfl ?_
  refine JL.fieldAddr fo_156_0 rfl .none rfl ?_
  refine JL.loadOwn 1 az_3 rfl rfl rfl .none rfl ?_
  refine JL.bin rfl rfl rfl .none rfl ?_
  refine JL.fieldAddr fo_156_2 rfl .none rfl ?_
  refine JL.loadOwn 1 az_23 rfl rfl rfl .none rfl ?_
  refine JL.move .none rfl ?_
  refine JL.fieldAddr fo_86_1 rfl .none rfl ?_
  refine JL.loadOwn 0 az_3 rfl rfl rfl .none rfl ?_
  refine JL.bin rfl rfl rfl .none rfl ?_
  refine JL.move .none rfl ?_
  refine JL.bin rfl rfl rfl .none rfl ?_
  refine JL.move .none rfl ?_
  obtain ⟨u9, hu9, hF⟩ := bind_some hF
  refine JL.div rfl rfl (nz_some hu9) rfl .none rfl ?_
  obtain ⟨y10, hy10, hF⟩ := bind_some hF
  refine JL.indexSL (R := RInt) sl_23 hb_2 rfl hy10 .none rfl ?_
  rintro b11 o12 cs13 hc14 - rfl
  refine JL.loadH 0 az_3 rfl hc14 rfl .none rfl ?_
  refine JL.bin rfl rfl rfl .none rfl ?_
  refine JL.div rfl rfl (by decide) rfl .none rfl ?_
  refine JL.assign .none rfl ?_
  refine JL.doneQ hQ ?_
  refine JQ.go ?_
  refine JC.fresh (fun f => f 6 = .int .i64 (w64 ((w64 ((w64 (g.Force * b.lift)) * y10)).tdiv 100))) rfl ?_
  rintro f hf6
  refine (JC.norm (i := 6) hf6 ?_)
  refine JC.ret ?_
  obtain rfl := Option.some.inj hF
  exact JQ.outS rfl (.tmp .nil) rfl

-- 181 (ferrule/gusts.blown).bears
def F_gusts_blown_bears_s2 (n : Nat) (b : gusts_blown) (g : Gust) (rib : Int) (gone : Int) (y410 : Int) : Int × Int → Option ((Int × Int) ⊕ Int)
  | (side_472, i_473) => (if (i_473 != rib) = true then ((nneg i_473).bind fun _ => some ((band .u16 (bshr .u16 gone i_473) 1) == 1)) else (some false) : Option Bool).bind fun p478 => if p478 = true then ((F_gusts_blown_load n b g i_473).bind fun y483 => (nz (b.ribs.length : Int)).bind fun _ => some (Sum.inl ((w64 (side_472 + y483)), ((w64 (i_473 + y410)).tmod (b.ribs.length : Int))))) else (some (Sum.inr side_472))
def F_gusts_blown_bears_s1 (n : Nat) (b : gusts_blown) (g : Gust) (rib : Int) (gone : Int) : Int × Int → Option ((Int × Int) ⊕ Int)
  | (sum_404, x_405) => if decide (x_405 < 2) = true then ((geti [1, (w64 ((b.ribs.length : Int) - 1))] x_405).bind fun y410 => (nz (b.ribs.length : Int)).bind fun _ => (loopO n (F_gusts_blown_bears_s2 n b g rib gone y410) (0, ((w64 (rib + y410)).tmod (b.ribs.length : Int)))).bind fun side_447 => some (Sum.inl ((w64 (sum_404 + (w64 (side_447.tdiv 2)))), (w64 (x_405 + 1))))) else (some (Sum.inr sum_404))
def F_gusts_blown_bears (n : Nat) (b : gusts_blown) (g : Gust) (rib : Int) (gone : Int) : Option Int :=
  (F_gusts_blown_load n b g rib).bind fun y3 => (loopO n (F_gusts_blown_bears_s1 n b g rib gone) (y3, 0)).bind fun sum_243 => some sum_243
set_option maxRecDepth 100000 in
set_option maxHeartbeats 40000000 in
theorem c_gusts_blown_bears (n : Nat) (H : Hp) (b : gusts_blown) (b_v1 : Value) (hb_1 : SL H 1 RInt b_v1 b.ribs) (b_v2 : Value) (hb_2 : SL H 1 RInt b_v2 b.shares) (g : Gust) (rib : Int) (gone : Int) (y : Int) (hF : F_gusts_blown_bears n b g rib gone = some y) : SC Try.prog 181 [.agg [.int .i64 b.lift, b_v1, b_v2].toArray, .agg [.int .i64 g.Force, .int .i64 g.At].toArray, .int .i64 rib, .int .u16 gone] (.int .i64 y) H := by
  rw [F_gusts_blown_bears] at hF
  refine SC.of (N := 60) Try.func181 rfl rfl rfl fun w => ?_
  refine JC.seq ?_
  refine JC.region (by rfl) ?_
  intro hQ
  refine JL.box (cs := [.int .i64 b.lift, b_v1, b_v2]) rfl .none rfl ?_
  intro b1
  refine JL.box (cs := [.int .i64 g.Force, .int .i64 g.At]) rfl .none rfl ?_
  intro b2
  refine JL.assign .none rfl ?_
  refine JL.done hQ ?_
  refine JQ.go ?_
  refine JC.seq ?_
  refine JC.region (by rfl) ?_
  intro hQ
  refine JL.loadOwn 1 az_156 rfl rfl rfl .none rfl ?_
  refine JL.loadOwn 0 az_86 rfl rfl rfl .none rfl ?_
  refine JL.move .none rfl ?_
  obtain ⟨y3, hy3, hF⟩ := bind_some hF
  refine JL.callS (c_gusts_blown_load n H b b_v1 hb_1 b_v2 hb_2 g rib y3 hy3) rfl en_100 .none rfl ?_
  refine JL.assign .none rfl ?_
  refine JL.done hQ ?_
  refine JQ.go ?_
  refine JC.seq ?_
  refine JC.region (by rfl) ?_
  intro hQ
  refine JL.fieldAddr fo_156_1 rfl .none rfl ?_
  refine JL.loadOwn 1 az_23 rfl rfl rfl .none rfl ?_
  refine JL.lenSL (R := RInt) ul_23 hb_1 .none rfl ?_
  refine JL.assign .none rfl ?_
  refine JL.done hQ ?_
  refine JQ.go ?_
  refine JC.fresh (fun f => f 2 = .int .i64 rib ∧ f 3 = .int .u16 gone ∧ f 4 = .pointer (some ⟨b1, 0, none⟩) ∧ f 5 = .pointer (some ⟨b2, 0, none⟩) ∧ f 8 = .int .i64 0 ∧ f 9 = .int .i64 y3 ∧ f 10 = .int .i64 (b.ribs.length : Int)) ⟨rfl, rfl, rfl, rfl, rfl, rfl, rfl⟩ ?_
  rintro f ⟨hf2, hf3, hf4, hf5, hf8, hf9, hf10⟩
  refine (JC.norm (i := 2) hf2 (JC.norm (i := 3) hf3 (JC.norm (i := 4) hf4 (JC.norm (i := 5) hf5 (JC.norm (i := 8) hf8 (JC.norm (i := 9) hf9 (JC.norm (i := 10) hf10 ?_)))))))
  refine JC.seq ?_
  refine JC.seq ?_
  refine JC.region (by rfl) ?_
  intro hQ
  refine JL.move .none rfl ?_
  refine JL.bin rfl rfl rfl .none rfl ?_
  refine JL.build (l := [.int .i64 1, .int .i64 (w64 ((b.ribs.length : Int) - 1))]) (by kernel_rfl) .none rfl ?_
  refine JL.move .none rfl ?_
  refine JL.done hQ ?_
  refine JQ.go ?_
  obtain ⟨r245, hlr245, hKr245⟩ := bind_some hF
  refine JC.join (fun (sum_243 : Int) H244 f bs gs => f 9 = .int .i64 sum_243 ∧ bs = [] ∧ gs = [] ∧ HSub H H244 ∧ sum_243 = r245) ?_ ?_
  · skip
    refine JC.block ?_
    refine JC.loop hlr245 (fun (x : Int × Int) H406 f bs gs => match x with | (sum_404, x_405) => f 2 = .int .i64 rib ∧ f 3 = .int .u16 gone ∧ f 4 = .pointer (some ⟨b1, 0, none⟩) ∧ f 5 = .pointer (some ⟨b2, 0, none⟩) ∧ f 9 = .int .i64 sum_404 ∧ f 10 = .int .i64 (b.ribs.length : Int) ∧ f 24 = .agg [.int .i64 1, .int .i64 (w64 ((b.ribs.length : Int) - 1))].toArray ∧ f 25 = .int .i64 x_405 ∧ bs = [(b2, .cells [.int .i64 g.Force, .int .i64 g.At].toArray 86), (b1, .cells [.int .i64 b.lift, b_v1, b_v2].toArray 156)] ∧ gs = [] ∧ HSub H H406) ⟨rfl, rfl, rfl, rfl, rfl, rfl, rfl, rfl, rfl, rfl, (HSub.refl _)⟩ ?_
    rintro ⟨sum_404, x_405⟩ x408 H406 f bs gs ⟨hf2, hf3, hf4, hf5, hf9, hf10, hf24, hf25, rfl, rfl, hs406⟩ hF hr407
    rw [F_gusts_blown_bears_s1] at hF
    refine (JC.norm (i := 2) hf2 (JC.norm (i := 3) hf3 (JC.norm (i := 4) hf4 (JC.norm (i := 5) hf5 (JC.norm (i := 9) hf9 (JC.norm (i := 10) hf10 (JC.norm (i := 24) hf24 (JC.norm (i := 25) hf25 ?_))))))))
    refine JC.seq ?_
    refine JC.region (by rfl) ?_
    intro hQ
    refine JL.bin rfl rfl rfl .none rfl ?_
    refine JL.done hQ ?_
    refine JQ.go ?_
    refine JC.seq ?_
    rcases ite_some hF with ⟨hc409, hF⟩ | ⟨hc409, hF⟩
    · refine JC.cond_t (b := decide (x_405 < 2)) rfl hc409 ?_
      refine JC.skip ?_
      refine JQ.go ?_
      refine JC.seq ?_
      refine JC.block ?_
      refine JC.seq ?_
      refine JC.region (by rfl) ?_
      intro hQ
      obtain ⟨y410, hy410, hF⟩ := bind_some hF
      refine JL.indexArr (l := [.int .i64 1, .int .i64 (w64 ((b.ribs.length : Int) - 1))]) (v := .int .i64 y410) ar_254 az_3 rfl rfl (geti_map (f := fun z => Value.int .i64 z) hy410) rfl .none rfl ?_
      refine JL.assign .none rfl ?_
      refine JL.done hQ ?_
      refine JQ.go ?_
      refine JC.seq ?_
      refine JC.region (by rfl) ?_
      intro hQ
      refine JL.assign .none rfl ?_
      refine JL.done hQ ?_
      refine JQ.go ?_
      refine JC.seq ?_
      refine JC.seq ?_
      refine JC.region (by rfl) ?_
      intro hQ
      refine JL.move .none rfl ?_
      refine JL.move .none rfl ?_
      refine JL.bin rfl rfl rfl .none rfl ?_
      refine JL.move .none rfl ?_
      obtain ⟨u411, hu411, hF⟩ := bind_some hF
      refine JL.div rfl rfl (nz_some hu411) rfl .none rfl ?_
      refine JL.assign .none rfl ?_
      refine JL.done hQ ?_
      refine JQ.go ?_
      obtain ⟨r449, hlr449, hKr449⟩ := bind_some hF
      refine JC.join (fun (side_447 : Int) H448 f bs gs => f 2 = .int .i64 rib ∧ f 3 = .int .u16 gone ∧ f 4 = .pointer (some ⟨b1, 0, none⟩) ∧ f 5 = .pointer (some ⟨b2, 0, none⟩) ∧ f 9 = .int .i64 sum_404 ∧ f 10 = .int .i64 (b.ribs.length : Int) ∧ f 13 = .int .i64 side_447 ∧ f 24 = .agg [.int .i64 1, .int .i64 (w64 ((b.ribs.length : Int) - 1))].toArray ∧ f 25 = .int .i64 x_405 ∧ bs = [(b2, .cells [.int .i64 g.Force, .int .i64 g.At].toArray 86), (b1, .cells [.int .i64 b.lift, b_v1, b_v2].toArray 156)] ∧ gs = [] ∧ HSub H406 H448 ∧ side_447 = r449) ?_ ?_
      · skip
        refine JC.block ?_
        refine JC.loop hlr449 (fun (x : Int × Int) H474 f bs gs => match x with | (side_472, i_473) => f 2 = .int .i64 rib ∧ f 3 = .int .u16 gone ∧ f 4 = .pointer (some ⟨b1, 0, none⟩) ∧ f 5 = .pointer (some ⟨b2, 0, none⟩) ∧ f 9 = .int .i64 sum_404 ∧ f 10 = .int .i64 (b.ribs.length : Int) ∧ f 12 = .int .i64 y410 ∧ f 13 = .int .i64 side_472 ∧ f 14 = .int .i64 i_473 ∧ f 24 = .agg [.int .i64 1, .int .i64 (w64 ((b.ribs.length : Int) - 1))].toArray ∧ f 25 = .int .i64 x_405 ∧ bs = [(b2, .cells [.int .i64 g.Force, .int .i64 g.At].toArray 86), (b1, .cells [.int .i64 b.lift, b_v1, b_v2].toArray 156)] ∧ gs = [] ∧ HSub H406 H474) ⟨rfl, rfl, rfl, rfl, rfl, rfl, rfl, rfl, rfl, rfl, rfl, rfl, rfl, (HSub.refl _)⟩ ?_
        rintro ⟨side_472, i_473⟩ x476 H474 f bs gs ⟨hf2, hf3, hf4, hf5, hf9, hf10, hf12, hf13, hf14, hf24, hf25, rfl, rfl, hs474⟩ hF hr475
        rw [F_gusts_blown_bears_s2] at hF
        refine (JC.norm (i := 2) hf2 (JC.norm (i := 3) hf3 (JC.norm (i := 4) hf4 (JC.norm (i := 5) hf5 (JC.norm (i := 9) hf9 (JC.norm (i := 10) hf10 (JC.norm (i := 12) hf12 (JC.norm (i := 13) hf13 (JC.norm (i := 14) hf14 (JC.norm (i := 24) hf24 (JC.norm (i := 25) hf25 ?_)))))))))))
        refine JC.seq ?_
        refine JC.seq ?_
        refine JC.region (by rfl) ?_
        intro hQ
        refine JL.move .none rfl ?_
        refine JL.move .none rfl ?_
        refine JL.bin rfl rfl rfl .none rfl ?_
        refine JL.move .none rfl ?_
        obtain ⟨p478, hp478, hF⟩ := bind_some hF
        refine JL.cut 6 (fun f => f 2 = .int .i64 rib ∧ f 3 = .int .u16 gone ∧ f 4 = .pointer (some ⟨b1, 0, none⟩) ∧ f 5 = .pointer (some ⟨b2, 0, none⟩) ∧ f 9 = .int .i64 sum_404 ∧ f 10 = .int .i64 (b.ribs.length : Int) ∧ f 12 = .int .i64 y410 ∧ f 13 = .int .i64 side_472 ∧ f 14 = .int .i64 i_473 ∧ f 24 = .agg [.int .i64 1, .int .i64 (w64 ((b.ribs.length : Int) - 1))].toArray ∧ f 25 = .int .i64 x_405 ∧ f 42 = .bool p478) ?_ ?_
        · intro hJ479
          rcases ite_some hp478 with ⟨hc480, hF⟩ | ⟨hc480, hF⟩
          · skip
            refine JL.move (.some rfl rfl rfl hc480) rfl ?_
            refine JL.move (.some rfl rfl rfl hc480) rfl ?_
            obtain ⟨u481, hu481, hF⟩ := bind_some hF
            refine JL.shr rfl rfl (nneg_some hu481) (.some rfl rfl rfl hc480) rfl ?_
            refine JL.and rfl rfl (.some rfl rfl rfl hc480) rfl ?_
            refine JL.bin rfl rfl rfl (.some rfl rfl rfl hc480) rfl ?_
            refine JL.pick_t (b := (i_473 != rib)) rfl hc480 .none rfl ?_
            obtain rfl := Option.some.inj hF
            exact hJ479 _ ⟨rfl, rfl, rfl, rfl, rfl, rfl, rfl, rfl, rfl, rfl, rfl, rfl⟩
          · skip
            refine JL.skip (.bool rfl rfl rfl hc480) rfl ?_
            refine JL.skip (.bool rfl rfl rfl hc480) rfl ?_
            refine JL.skip (.bool rfl rfl rfl hc480) rfl ?_
            refine JL.skip (.bool rfl rfl rfl hc480) rfl ?_
            refine JL.skip (.bool rfl rfl rfl hc480) rfl ?_
            refine JL.pick_f (b := (i_473 != rib)) rfl hc480 .none rfl ?_
            obtain rfl := Option.some.inj hF
            exact hJ479 _ ⟨rfl, rfl, rfl, rfl, rfl, rfl, rfl, rfl, rfl, rfl, rfl, rfl⟩
        · rintro f ⟨hf2, hf3, hf4, hf5, hf9, hf10, hf12, hf13, hf14, hf24, hf25, hf42⟩
          refine (JL.norm (i := 2) hf2 (JL.norm (i := 3) hf3 (JL.norm (i := 4) hf4 (JL.norm (i := 5) hf5 (JL.norm (i := 9) hf9 (JL.norm (i := 10) hf10 (JL.norm (i := 12) hf12 (JL.norm (i := 13) hf13 (JL.norm (i := 14) hf14 (JL.norm (i := 24) hf24 (JL.norm (i := 25) hf25 (JL.norm (i := 42) hf42 ?_))))))))))))
          refine JL.done hQ ?_
          refine JQ.go ?_
          rcases ite_some hF with ⟨hc482, hF⟩ | ⟨hc482, hF⟩
          · refine JC.cond_t (b := p478) rfl hc482 ?_
            refine JC.skip ?_
            refine JQ.go ?_
            refine JC.seq ?_
            refine JC.block ?_
            refine JC.region (by rfl) ?_
            intro hQ
            refine JL.move .none rfl ?_
            refine JL.loadOwn 1 az_156 rfl rfl rfl .none rfl ?_
            refine JL.loadOwn 0 az_86 rfl rfl rfl .none rfl ?_
            refine JL.move .none rfl ?_
            obtain ⟨y483, hy483, hF⟩ := bind_some hF
            refine JL.callS (c_gusts_blown_load n H474 b b_v1 (SL.mono RInt.mono (HSub.trans hs406 hs474) hb_1) b_v2 (SL.mono RInt.mono (HSub.trans hs406 hs474) hb_2) g i_473 y483 hy483) rfl en_100 .none rfl ?_
            refine JL.bin rfl rfl rfl .none rfl ?_
            refine JL.assign .none rfl ?_
            refine JL.done hQ ?_
            refine JQ.normal_block ?_
            refine JQ.go ?_
            refine JC.region (by rfl) ?_
            intro hQ
            refine JL.move .none rfl ?_
            refine JL.move .none rfl ?_
            refine JL.bin rfl rfl rfl .none rfl ?_
            refine JL.move .none rfl ?_
            obtain ⟨u484, hu484, hF⟩ := bind_some hF
            refine JL.div rfl rfl (nz_some hu484) rfl .none rfl ?_
            refine JL.assign .none rfl ?_
            refine JL.done hQ ?_
            obtain rfl := Option.some.inj hF
            exact JQ.next rfl ⟨rfl, rfl, rfl, rfl, rfl, rfl, rfl, rfl, rfl, rfl, rfl, rfl, rfl, hs474⟩
          · refine JC.cond_f (b := p478) rfl hc482 ?_
            refine JC.exit ?_
            refine JQ.exit_then ?_
            refine JQ.exit_then ?_
            refine JQ.exit_block ?_
            obtain rfl := Option.some.inj hF
            have ehr475 := hr475 _ rfl
            subst ehr475
            exact JQ.join side_472 ⟨rfl, rfl, rfl, rfl, rfl, rfl, rfl, rfl, rfl, rfl, rfl, hs474, rfl⟩
      · rintro side_447 H448 f bs gs ⟨hf2, hf3, hf4, hf5, hf9, hf10, hf13, hf24, hf25, rfl, rfl, hs448, rfl⟩
        have hF := hKr449
        try dsimp only at hF
        refine (JQ.norm (i := 2) hf2 (JQ.norm (i := 3) hf3 (JQ.norm (i := 4) hf4 (JQ.norm (i := 5) hf5 (JQ.norm (i := 9) hf9 (JQ.norm (i := 10) hf10 (JQ.norm (i := 13) hf13 (JQ.norm (i := 24) hf24 (JQ.norm (i := 25) hf25 ?_)))))))))
        refine JQ.go ?_
        refine JC.region (by rfl) ?_
        intro hQ
        refine JL.move .none rfl ?_
        refine JL.move .none rfl ?_
        refine JL.div rfl rfl (by decide) rfl .none rfl ?_
        refine JL.bin rfl rfl rfl .none rfl ?_
        refine JL.assign .none rfl ?_
        refine JL.done hQ ?_
        refine JQ.normal_block ?_
        refine JQ.go ?_
        refine JC.region (by rfl) ?_
        intro hQ
        refine JL.bin rfl rfl rfl .none rfl ?_
        refine JL.move .none rfl ?_
        refine JL.done hQ ?_
        obtain rfl := Option.some.inj hF
        exact JQ.next rfl ⟨rfl, rfl, rfl, rfl, rfl, rfl, rfl, rfl, rfl, rfl, (HSub.trans hs406 hs448)⟩
    · refine JC.cond_f (b := decide (x_405 < 2)) rfl hc409 ?_
      refine JC.exit ?_
      refine JQ.exit_then ?_
      refine JQ.exit_then ?_
      refine JQ.exit_block ?_
      obtain rfl := Option.some.inj hF
      have ehr407 := hr407 _ rfl
      subst ehr407
      refine JQ.mask [false, false] [] ?_
      exact JQ.join sum_404 ⟨rfl, rfl, rfl, hs406, rfl⟩
  · rintro sum_243 H244 f bs gs ⟨hf9, rfl, rfl, hs244, rfl⟩
    have hF := hKr245
    try dsimp only at hF
    refine (JQ.norm (i := 9) hf9 ?_)
    refine JQ.go ?_
    refine JC.seq ?_
    refine JC.region (by rfl) ?_
    intro hQ
    refine JL.move .none rfl ?_
    refine JL.assign .none rfl ?_
    refine JL.done hQ ?_
    refine JQ.go ?_
    refine JC.ret ?_
    obtain rfl := Option.some.inj hF
    exact JQ.outS rfl (.tmp .nil) rfl

-- 75 ferrule/frames.truths
def F_frames_truths (n : Nat) (s : Section) : Option Section :=
  some s
set_option maxRecDepth 100000 in
set_option maxHeartbeats 40000000 in
theorem c_frames_truths (n : Nat) (H : Hp) (s : Section) (y : Section) (hF : F_frames_truths n s = some y) : HC Try.prog 75 [.agg [.int .i64 s.Arm.Low, .int .i64 s.Arm.High, .int .i64 s.Stretch.Low, .int .i64 s.Stretch.High, .int .i64 s.Base, .int .i64 s.Gear.Num, .int .i64 s.Gear.Den].toArray] H (fun H' v => ∃ b0_ : Nat, v = .func (.func 125) #[] [.pointer (some ⟨b0_, 0, none⟩)].toArray ∧ Cells H' b0_ 0 [.int .i64 y.Arm.Low, .int .i64 y.Arm.High, .int .i64 y.Stretch.Low, .int .i64 y.Stretch.High, .int .i64 y.Base, .int .i64 y.Gear.Num, .int .i64 y.Gear.Den]) := by
  rw [F_frames_truths] at hF
  refine HC.of (N := 4) Try.func75 rfl rfl rfl fun w => ?_
  refine JC.seq ?_
  refine JC.region (by rfl) ?_
  intro hQ
  refine JL.box (cs := [.int .i64 s.Arm.Low, .int .i64 s.Arm.High, .int .i64 s.Stretch.Low, .int .i64 s.Stretch.High, .int .i64 s.Base, .int .i64 s.Gear.Num, .int .i64 s.Gear.Den]) rfl .none rfl ?_
  intro b1
  refine JL.assign .none rfl ?_
  refine JL.done hQ ?_
  refine JQ.go ?_
  refine JC.seq ?_
  refine JC.region (by rfl) ?_
  intro hQ
  refine JL.makeFunc .none rfl ?_
  refine JL.assign .none rfl ?_
  refine JL.done hQ ?_
  refine JQ.go ?_
  refine JC.ret ?_
  refine JQ.freezeC 0 (l := [.int .i64 s.Arm.Low, .int .i64 s.Arm.High, .int .i64 s.Stretch.Low, .int .i64 s.Stretch.High, .int .i64 s.Base, .int .i64 s.Gear.Num, .int .i64 s.Gear.Den]) rfl ?_
  intro H2 hs2 hc3
  obtain rfl := Option.some.inj hF
  exact JQ.outH rfl (.tmp .nil) ⟨b1, rfl, hc3⟩

-- 32 ferrule/ferrulelaw05.Far
def F_law05_Far (n : Nat) (d : Canopy) : Option Bool :=
  some (((decide (20 < (d.Frame.Sections.length : Int))) || (decide (40 < (d.Ribs.length : Int)))) || (decide (40 < (d.Shares.length : Int))))
set_option maxRecDepth 100000 in
set_option maxHeartbeats 40000000 in
theorem c_law05_Far (n : Nat) (H : Hp) (d : Canopy) (d_v0 : Value) (hd_0 : SL H 7 R_Section d_v0 d.Frame.Sections) (d_v7 : Value) (hd_7 : SL H 2 R_Span d_v7 d.Ribs) (d_v8 : Value) (hd_8 : SL H 1 RInt d_v8 d.Shares) (y : Bool) (hF : F_law05_Far n d = some y) : SC Try.prog 32 [.agg [d_v0, .int .i64 d.Frame.Low, .int .i64 d.Frame.High, .int .i64 d.Frame.Ease.Num, .int .i64 d.Frame.Ease.Den, .int .i64 d.Frame.Rod, .int .i64 d.Frame.Case, d_v7, d_v8].toArray] (.bool y) H := by
  rw [F_law05_Far] at hF
  refine SC.of (N := 20) Try.func32 rfl rfl rfl fun w => ?_
  refine JC.seq ?_
  refine JC.region (by rfl) ?_
  intro hQ
  refine JL.box (cs := [d_v0, .int .i64 d.Frame.Low, .int .i64 d.Frame.High, .int .i64 d.Frame.Ease.Num, .int .i64 d.Frame.Ease.Den, .int .i64 d.Frame.Rod, .int .i64 d.Frame.Case, d_v7, d_v8]) rfl .none rfl ?_
  intro b1
  refine JL.assign .none rfl ?_
  refine JL.done hQ ?_
  refine JQ.go ?_
  refine JC.seq ?_
  refine JC.region (by rfl) ?_
  intro hQ
  refine JL.fieldAddr fo_76_0 rfl .none rfl ?_
  refine JL.fieldAddr fo_53_0 rfl .none rfl ?_
  refine JL.loadOwn 0 az_49 rfl rfl rfl .none rfl ?_
  refine JL.lenSL (R := R_Section) ul_49 hd_0 .none rfl ?_
  refine JL.bin rfl rfl rfl .none rfl ?_
  refine JL.move .none rfl ?_
  refine JL.cut 5 (fun f => f 1 = .pointer (some ⟨b1, 0, none⟩) ∧ f 13 = .bool ((decide (20 < (d.Frame.Sections.length : Int))) || (decide (40 < (d.Ribs.length : Int))))) ?_ ?_
  · intro hJ2
    rcases bcases (decide (20 < (d.Frame.Sections.length : Int))) with hc3 | hc3
    · skip
      refine JL.skip (.bool rfl rfl rfl hc3) rfl ?_
      refine JL.skip (.bool rfl rfl rfl hc3) rfl ?_
      refine JL.skip (.bool rfl rfl rfl hc3) rfl ?_
      refine JL.skip (.bool rfl rfl rfl hc3) rfl ?_
      refine JL.pick_t (b := decide (20 < (d.Frame.Sections.length : Int))) rfl hc3 .none rfl ?_
      exact hJ2 _ ⟨rfl, or_t hc3 rfl⟩
    · skip
      refine JL.fieldAddr fo_76_1 rfl (.some rfl rfl rfl hc3) rfl ?_
      refine JL.loadOwn 0 az_24 rfl rfl rfl (.some rfl rfl rfl hc3) rfl ?_
      refine JL.lenSL (R := R_Span) ul_24 hd_7 (.some rfl rfl rfl hc3) rfl ?_
      refine JL.bin rfl rfl rfl (.some rfl rfl rfl hc3) rfl ?_
      refine JL.pick_f (b := decide (20 < (d.Frame.Sections.length : Int))) rfl hc3 .none rfl ?_
      exact hJ2 _ ⟨rfl, or_f hc3 rfl⟩
  · rintro f ⟨hf1, hf13⟩
    refine (JL.norm (i := 1) hf1 (JL.norm (i := 13) hf13 ?_))
    refine JL.move .none rfl ?_
    refine JL.cut 5 (fun f => f 19 = .bool (((decide (20 < (d.Frame.Sections.length : Int))) || (decide (40 < (d.Ribs.length : Int)))) || (decide (40 < (d.Shares.length : Int))))) ?_ ?_
    · intro hJ4
      rcases bcases ((decide (20 < (d.Frame.Sections.length : Int))) || (decide (40 < (d.Ribs.length : Int)))) with hc5 | hc5
      · skip
        refine JL.skip (.bool rfl rfl rfl hc5) rfl ?_
        refine JL.skip (.bool rfl rfl rfl hc5) rfl ?_
        refine JL.skip (.bool rfl rfl rfl hc5) rfl ?_
        refine JL.skip (.bool rfl rfl rfl hc5) rfl ?_
        refine JL.pick_t (b := ((decide (20 < (d.Frame.Sections.length : Int))) || (decide (40 < (d.Ribs.length : Int))))) rfl hc5 .none rfl ?_
        exact hJ4 _ (or_t hc5 rfl)
      · skip
        refine JL.fieldAddr fo_76_2 rfl (.some rfl rfl rfl hc5) rfl ?_
        refine JL.loadOwn 0 az_23 rfl rfl rfl (.some rfl rfl rfl hc5) rfl ?_
        refine JL.lenSL (R := RInt) ul_23 hd_8 (.some rfl rfl rfl hc5) rfl ?_
        refine JL.bin rfl rfl rfl (.some rfl rfl rfl hc5) rfl ?_
        refine JL.pick_f (b := ((decide (20 < (d.Frame.Sections.length : Int))) || (decide (40 < (d.Ribs.length : Int))))) rfl hc5 .none rfl ?_
        exact hJ4 _ (or_f hc5 rfl)
    · rintro f hf19
      refine (JL.norm (i := 19) hf19 ?_)
      refine JL.assign .none rfl ?_
      refine JL.done hQ ?_
      refine JQ.go ?_
      refine JC.ret ?_
      obtain rfl := Option.some.inj hF
      exact JQ.outS rfl (.tmp .nil) rfl

-- 66 ferrule/ferruleref01.Within
def F_ref01_Within (n : Nat) (n_ : Int) (low : Int) (high : Int) : Option Bool :=
  some ((decide (low ≤ n_)) && (decide (n_ ≤ high)))
set_option maxRecDepth 100000 in
set_option maxHeartbeats 40000000 in
theorem c_ref01_Within (n : Nat) (H : Hp) (n_ : Int) (low : Int) (high : Int) (y : Bool) (hF : F_ref01_Within n n_ low high = some y) : SC Try.prog 66 [.int .i64 n_, .int .i64 low, .int .i64 high] (.bool y) H := by
  rw [F_ref01_Within] at hF
  refine SC.of (N := 15) Try.func66 rfl rfl rfl fun w => ?_
  refine JC.seq ?_
  refine JC.region (by rfl) ?_
  intro hQ
  refine JL.assign .none rfl ?_
  refine JL.done hQ ?_
  refine JQ.go ?_
  refine JC.seq ?_
  refine JC.region (by rfl) ?_
  intro hQ
  refine JL.move .none rfl ?_
  refine JL.move .none rfl ?_
  refine JL.bin rfl rfl rfl .none rfl ?_
  refine JL.move .none rfl ?_
  refine JL.cut 4 (fun f => f 14 = .bool ((decide (low ≤ n_)) && (decide (n_ ≤ high)))) ?_ ?_
  · intro hJ1
    rcases bcases (decide (low ≤ n_)) with hc2 | hc2
    · skip
      refine JL.move (.some rfl rfl rfl hc2) rfl ?_
      refine JL.move (.some rfl rfl rfl hc2) rfl ?_
      refine JL.bin rfl rfl rfl (.some rfl rfl rfl hc2) rfl ?_
      refine JL.pick_t (b := decide (low ≤ n_)) rfl hc2 .none rfl ?_
      exact hJ1 _ (and_t hc2 rfl)
    · skip
      refine JL.skip (.bool rfl rfl rfl hc2) rfl ?_
      refine JL.skip (.bool rfl rfl rfl hc2) rfl ?_
      refine JL.skip (.bool rfl rfl rfl hc2) rfl ?_
      refine JL.pick_f (b := decide (low ≤ n_)) rfl hc2 .none rfl ?_
      exact hJ1 _ (and_f hc2 rfl)
  · rintro f hf14
    refine (JL.norm (i := 14) hf14 ?_)
    refine JL.assign .none rfl ?_
    refine JL.done hQ ?_
    refine JQ.go ?_
    refine JC.ret ?_
    obtain rfl := Option.some.inj hF
    exact JQ.outS rfl (.tmp .nil) rfl

-- 65 ferrule/ferruleref01.isLong
def F_ref01_isLong (n : Nat) (s : Span) : Option Bool :=
  (F_ref01_Within n s.Low 1 s.High).bind fun y2 => some ((y2 && (decide (s.High ≤ 2000))) && (decide ((w64 (s.High - s.Low)) ≤ 6)))
set_option maxRecDepth 100000 in
set_option maxHeartbeats 40000000 in
theorem c_ref01_isLong (n : Nat) (H : Hp) (s : Span) (y : Bool) (hF : F_ref01_isLong n s = some y) : SC Try.prog 65 [.agg [.int .i64 s.Low, .int .i64 s.High].toArray] (.bool y) H := by
  rw [F_ref01_isLong] at hF
  refine SC.of (N := 21) Try.func65 rfl rfl rfl fun w => ?_
  refine JC.seq ?_
  refine JC.region (by rfl) ?_
  intro hQ
  refine JL.box (cs := [.int .i64 s.Low, .int .i64 s.High]) rfl .none rfl ?_
  intro b1
  refine JL.assign .none rfl ?_
  refine JL.done hQ ?_
  refine JQ.go ?_
  refine JC.seq ?_
  refine JC.region (by rfl) ?_
  intro hQ
  refine JL.fieldAddr fo_39_0 rfl .none rfl ?_
  refine JL.loadOwn 0 az_3 rfl rfl rfl .none rfl ?_
  refine JL.fieldAddr fo_39_1 rfl .none rfl ?_
  refine JL.loadOwn 0 az_3 rfl rfl rfl .none rfl ?_
  obtain ⟨y2, hy2, hF⟩ := bind_some hF
  refine JL.callS (c_ref01_Within n H s.Low 1 s.High y2 hy2) rfl en_66 .none rfl ?_
  refine JL.move .none rfl ?_
  refine JL.cut 4 (fun f => f 1 = .pointer (some ⟨b1, 0, none⟩) ∧ f 12 = .bool (y2 && (decide (s.High ≤ 2000)))) ?_ ?_
  · intro hJ3
    rcases bcases y2 with hc4 | hc4
    · skip
      refine JL.fieldAddr fo_39_1 rfl (.some rfl rfl rfl hc4) rfl ?_
      refine JL.loadOwn 0 az_3 rfl rfl rfl (.some rfl rfl rfl hc4) rfl ?_
      refine JL.bin rfl rfl rfl (.some rfl rfl rfl hc4) rfl ?_
      refine JL.pick_t (b := y2) rfl hc4 .none rfl ?_
      exact hJ3 _ ⟨rfl, and_t hc4 rfl⟩
    · skip
      refine JL.skip (.bool rfl rfl rfl hc4) rfl ?_
      refine JL.skip (.bool rfl rfl rfl hc4) rfl ?_
      refine JL.skip (.bool rfl rfl rfl hc4) rfl ?_
      refine JL.pick_f (b := y2) rfl hc4 .none rfl ?_
      exact hJ3 _ ⟨rfl, and_f hc4 rfl⟩
  · rintro f ⟨hf1, hf12⟩
    refine (JL.norm (i := 1) hf1 (JL.norm (i := 12) hf12 ?_))
    refine JL.move .none rfl ?_
    refine JL.cut 7 (fun f => f 20 = .bool ((y2 && (decide (s.High ≤ 2000))) && (decide ((w64 (s.High - s.Low)) ≤ 6)))) ?_ ?_
    · intro hJ5
      rcases bcases (y2 && (decide (s.High ≤ 2000))) with hc6 | hc6
      · skip
        refine JL.fieldAddr fo_39_1 rfl (.some rfl rfl rfl hc6) rfl ?_
        refine JL.loadOwn 0 az_3 rfl rfl rfl (.some rfl rfl rfl hc6) rfl ?_
        refine JL.fieldAddr fo_39_0 rfl (.some rfl rfl rfl hc6) rfl ?_
        refine JL.loadOwn 0 az_3 rfl rfl rfl (.some rfl rfl rfl hc6) rfl ?_
        refine JL.bin rfl rfl rfl (.some rfl rfl rfl hc6) rfl ?_
        refine JL.bin rfl rfl rfl (.some rfl rfl rfl hc6) rfl ?_
        refine JL.pick_t (b := (y2 && (decide (s.High ≤ 2000)))) rfl hc6 .none rfl ?_
        exact hJ5 _ (and_t hc6 rfl)
      · skip
        refine JL.skip (.bool rfl rfl rfl hc6) rfl ?_
        refine JL.skip (.bool rfl rfl rfl hc6) rfl ?_
        refine JL.skip (.bool rfl rfl rfl hc6) rfl ?_
        refine JL.skip (.bool rfl rfl rfl hc6) rfl ?_
        refine JL.skip (.bool rfl rfl rfl hc6) rfl ?_
        refine JL.skip (.bool rfl rfl rfl hc6) rfl ?_
        refine JL.pick_f (b := (y2 && (decide (s.High ≤ 2000)))) rfl hc6 .none rfl ?_
        exact hJ5 _ (and_f hc6 rfl)
    · rintro f hf20
      refine (JL.norm (i := 20) hf20 ?_)
      refine JL.assign .none rfl ?_
      refine JL.done hQ ?_
      refine JQ.go ?_
      refine JC.ret ?_
      obtain rfl := Option.some.inj hF
      exact JQ.outS rfl (.tmp .nil) rfl

-- 67 ferrule/ferruleref01.isShare
def F_ref01_isShare (n : Nat) (x_ : Frac) : Option Bool :=
  (F_ref01_Within n x_.Den 1 20).bind fun y2 => (if y2 = true then ((F_ref01_Within n x_.Num 0 x_.Den).bind fun y7 => some y7) else (some false) : Option Bool).bind fun p4 => some p4
set_option maxRecDepth 100000 in
set_option maxHeartbeats 40000000 in
theorem c_ref01_isShare (n : Nat) (H : Hp) (x_ : Frac) (y : Bool) (hF : F_ref01_isShare n x_ = some y) : SC Try.prog 67 [.agg [.int .i64 x_.Num, .int .i64 x_.Den].toArray] (.bool y) H := by
  rw [F_ref01_isShare] at hF
  refine SC.of (N := 13) Try.func67 rfl rfl rfl fun w => ?_
  refine JC.seq ?_
  refine JC.region (by rfl) ?_
  intro hQ
  refine JL.box (cs := [.int .i64 x_.Num, .int .i64 x_.Den]) rfl .none rfl ?_
  intro b1
  refine JL.assign .none rfl ?_
  refine JL.done hQ ?_
  refine JQ.go ?_
  refine JC.seq ?_
  refine JC.region (by rfl) ?_
  intro hQ
  refine JL.fieldAddr fo_51_1 rfl .none rfl ?_
  refine JL.loadOwn 0 az_3 rfl rfl rfl .none rfl ?_
  obtain ⟨y2, hy2, hF⟩ := bind_some hF
  refine JL.callS (c_ref01_Within n H x_.Den 1 20 y2 hy2) rfl en_66 .none rfl ?_
  refine JL.move .none rfl ?_
  obtain ⟨p4, hp4, hF⟩ := bind_some hF
  refine JL.cut 6 (fun f => f 12 = .bool p4) ?_ ?_
  · intro hJ5
    rcases ite_some hp4 with ⟨hc6, hF⟩ | ⟨hc6, hF⟩
    · skip
      refine JL.fieldAddr fo_51_0 rfl (.some rfl rfl rfl hc6) rfl ?_
      refine JL.loadOwn 0 az_3 rfl rfl rfl (.some rfl rfl rfl hc6) rfl ?_
      refine JL.fieldAddr fo_51_1 rfl (.some rfl rfl rfl hc6) rfl ?_
      refine JL.loadOwn 0 az_3 rfl rfl rfl (.some rfl rfl rfl hc6) rfl ?_
      obtain ⟨y7, hy7, hF⟩ := bind_some hF
      refine JL.callS (c_ref01_Within n H x_.Num 0 x_.Den y7 hy7) rfl en_66 (.some rfl rfl rfl hc6) rfl ?_
      refine JL.pick_t (b := y2) rfl hc6 .none rfl ?_
      obtain rfl := Option.some.inj hF
      exact hJ5 _ (rfl)
    · skip
      refine JL.skip (.bool rfl rfl rfl hc6) rfl ?_
      refine JL.skip (.bool rfl rfl rfl hc6) rfl ?_
      refine JL.skip (.bool rfl rfl rfl hc6) rfl ?_
      refine JL.skip (.bool rfl rfl rfl hc6) rfl ?_
      refine JL.skip (.bool rfl rfl rfl hc6) rfl ?_
      refine JL.pick_f (b := y2) rfl hc6 .none rfl ?_
      obtain rfl := Option.some.inj hF
      exact hJ5 _ (rfl)
  · rintro f hf12
    refine (JL.norm (i := 12) hf12 ?_)
    refine JL.assign .none rfl ?_
    refine JL.done hQ ?_
    refine JQ.go ?_
    refine JC.ret ?_
    obtain rfl := Option.some.inj hF
    exact JQ.outS rfl (.tmp .nil) rfl

-- 21 ferrule/ferruleref01.Check
def F_ref01_Check_s1 (n : Nat) (f_ : Frame) : Int → Option (Int ⊕ (Int ⊕ Unit))
  | i_136 => if decide (i_136 < (f_.Sections.length : Int)) = true then ((geti f_.Sections i_136).bind fun y141 => (F_ref01_isLong n y141.Arm).bind fun y147 => (if (!y147) = true then (some true) else ((F_ref01_isLong n y141.Stretch).bind fun y152 => some (!y152)) : Option Bool).bind fun p149 => (if p149 = true then (some true) else ((F_ref01_Within n y141.Base 0 2000).bind fun y157 => some (!y157)) : Option Bool).bind fun p154 => (if p154 = true then (some true) else ((F_ref01_isShare n y141.Gear).bind fun y162 => some (!y162)) : Option Bool).bind fun p159 => if p159 = true then (some (Sum.inr (Sum.inl 10))) else (some (Sum.inl (w64 (i_136 + 1))))) else (some (Sum.inr (Sum.inr ())))
def F_ref01_Check (n : Nat) (f_ : Frame) : Option Int :=
  (loopO n (F_ref01_Check_s1 n f_) 0).bind fun r83 => match r83 with | .inl o => some o | .inr _ => (F_ref01_Within n (f_.Sections.length : Int) 1 3).bind fun y164 => (if (!y164) = true then (some true) else ((F_ref01_Within n f_.Low 1 f_.High).bind fun y169 => some (!y169)) : Option Bool).bind fun p166 => (if ((p166 || (decide (2000 < f_.High))) || (decide (200 < (w64 (f_.High - f_.Low))))) = true then (some true) else ((F_ref01_isShare n f_.Ease).bind fun y178 => some (!y178)) : Option Bool).bind fun p175 => (if p175 = true then (some true) else ((F_ref01_Within n f_.Rod 0 4000).bind fun y183 => some (!y183)) : Option Bool).bind fun p180 => (if p180 = true then (some true) else ((F_ref01_Within n f_.Case 0 4000).bind fun y188 => some (!y188)) : Option Bool).bind fun p185 => if p185 = true then (some 10) else (some 0)
set_option maxRecDepth 100000 in
set_option maxHeartbeats 40000000 in
theorem c_ref01_Check (n : Nat) (H : Hp) (f_ : Frame) (f__v0 : Value) (hf__0 : SL H 7 R_Section f__v0 f_.Sections) (y : Int) (hF : F_ref01_Check n f_ = some y) : SC Try.prog 21 [.agg [f__v0, .int .i64 f_.Low, .int .i64 f_.High, .int .i64 f_.Ease.Num, .int .i64 f_.Ease.Den, .int .i64 f_.Rod, .int .i64 f_.Case].toArray] (.int .i64 y) H := by
  rw [F_ref01_Check] at hF
  refine SC.of (N := 83) Try.func21 rfl rfl rfl fun w => ?_
  refine JC.seq ?_
  refine JC.region (by rfl) ?_
  intro hQ
  refine JL.box (cs := [f__v0, .int .i64 f_.Low, .int .i64 f_.High, .int .i64 f_.Ease.Num, .int .i64 f_.Ease.Den, .int .i64 f_.Rod, .int .i64 f_.Case]) rfl .none rfl ?_
  intro b1
  refine JL.assign .none rfl ?_
  refine JL.done hQ ?_
  refine JQ.go ?_
  refine JC.seq ?_
  refine JC.seq ?_
  refine JC.region (by rfl) ?_
  intro hQ
  refine JL.assign .none rfl ?_
  refine JL.done hQ ?_
  refine JQ.go ?_
  obtain ⟨r83, hlr83, hKr83⟩ := bind_some hF
  refine JC.join (fun (_ : Unit) H82 f bs gs => f 1 = .pointer (some ⟨b1, 0, none⟩) ∧ bs = [(b1, .cells [f__v0, .int .i64 f_.Low, .int .i64 f_.High, .int .i64 f_.Ease.Num, .int .i64 f_.Ease.Den, .int .i64 f_.Rod, .int .i64 f_.Case].toArray 53)] ∧ gs = [] ∧ HSub H H82 ∧ Sum.inr () = r83) ?_ ?_
  · skip
    refine JC.block ?_
    refine JC.loop hlr83 (fun (i_136 : Int) H137 f bs gs => f 1 = .pointer (some ⟨b1, 0, none⟩) ∧ f 3 = .int .i64 i_136 ∧ bs = [(b1, .cells [f__v0, .int .i64 f_.Low, .int .i64 f_.High, .int .i64 f_.Ease.Num, .int .i64 f_.Ease.Den, .int .i64 f_.Rod, .int .i64 f_.Case].toArray 53)] ∧ gs = [] ∧ HSub H H137) ⟨rfl, rfl, rfl, rfl, (HSub.refl _)⟩ ?_
    rintro i_136 x139 H137 f bs gs ⟨hf1, hf3, rfl, rfl, hs137⟩ hF hr138
    rw [F_ref01_Check_s1] at hF
    refine (JC.norm (i := 1) hf1 (JC.norm (i := 3) hf3 ?_))
    refine JC.seq ?_
    refine JC.seq ?_
    refine JC.region (by rfl) ?_
    intro hQ
    refine JL.move .none rfl ?_
    refine JL.fieldAddr fo_53_0 rfl .none rfl ?_
    refine JL.loadOwn 0 az_49 rfl rfl rfl .none rfl ?_
    refine JL.lenSL (R := R_Section) ul_49 (SL.mono R_Section_mono hs137 hf__0) .none rfl ?_
    refine JL.bin rfl rfl rfl .none rfl ?_
    refine JL.done hQ ?_
    refine JQ.go ?_
    rcases ite_some hF with ⟨hc140, hF⟩ | ⟨hc140, hF⟩
    · refine JC.cond_t (b := decide (i_136 < (f_.Sections.length : Int))) rfl hc140 ?_
      refine JC.skip ?_
      refine JQ.go ?_
      refine JC.seq ?_
      refine JC.block ?_
      refine JC.seq ?_
      refine JC.region (by rfl) ?_
      intro hQ
      refine JL.fieldAddr fo_53_0 rfl .none rfl ?_
      refine JL.loadOwn 0 az_49 rfl rfl rfl .none rfl ?_
      refine JL.move .none rfl ?_
      obtain ⟨y141, hy141, hF⟩ := bind_some hF
      refine JL.indexSL (R := R_Section) sl_49 (SL.mono R_Section_mono hs137 hf__0) rfl hy141 .none rfl ?_
      rintro b142 o143 cs144 hc145 - rfl
      refine JL.loadH 0 az_68 rfl hc145 rfl .none rfl ?_
      refine JL.alloc ze_68 .none rfl ?_
      intro b146
      refine JL.storeOwn 0 (cs := [.int .i64 y141.Arm.Low, .int .i64 y141.Arm.High, .int .i64 y141.Stretch.Low, .int .i64 y141.Stretch.High, .int .i64 y141.Base, .int .i64 y141.Gear.Num, .int .i64 y141.Gear.Den]) az_68 rfl rfl rfl (one_cons rfl (one_cons rfl (one_cons rfl (one_cons rfl (one_cons rfl (one_cons rfl (one_cons rfl one_nil))))))) rfl rfl .none ?_
      refine JL.done hQ ?_
      refine JQ.go ?_
      refine JC.seq ?_
      refine JC.region (by rfl) ?_
      intro hQ
      refine JL.fieldAddr fo_68_0 rfl .none rfl ?_
      refine JL.loadOwn 0 az_39 rfl rfl rfl .none rfl ?_
      obtain ⟨y147, hy147, hF⟩ := bind_some hF
      refine JL.callS (c_ref01_isLong n H137 y141.Arm y147 hy147) rfl en_65 .none rfl ?_
      refine JL.not rfl .none rfl ?_
      refine JL.move .none rfl ?_
      obtain ⟨p149, hp149, hF⟩ := bind_some hF
      refine JL.cut 5 (fun f => f 1 = .pointer (some ⟨b1, 0, none⟩) ∧ f 3 = .int .i64 i_136 ∧ f 4 = .pointer (some ⟨b146, 0, none⟩) ∧ f 26 = .bool p149) ?_ ?_
      · intro hJ150
        rcases ite_some hp149 with ⟨hc151, hF⟩ | ⟨hc151, hF⟩
        · skip
          refine JL.skip (.bool rfl rfl rfl hc151) rfl ?_
          refine JL.skip (.bool rfl rfl rfl hc151) rfl ?_
          refine JL.skip (.bool rfl rfl rfl hc151) rfl ?_
          refine JL.skip (.bool rfl rfl rfl hc151) rfl ?_
          refine JL.pick_t (b := (!y147)) rfl hc151 .none rfl ?_
          obtain rfl := Option.some.inj hF
          exact hJ150 _ ⟨rfl, rfl, rfl, rfl⟩
        · skip
          refine JL.fieldAddr fo_68_1 rfl (.some rfl rfl rfl hc151) rfl ?_
          refine JL.loadOwn 0 az_39 rfl rfl rfl (.some rfl rfl rfl hc151) rfl ?_
          obtain ⟨y152, hy152, hF⟩ := bind_some hF
          refine JL.callS (c_ref01_isLong n H137 y141.Stretch y152 hy152) rfl en_65 (.some rfl rfl rfl hc151) rfl ?_
          refine JL.not rfl (.some rfl rfl rfl hc151) rfl ?_
          refine JL.pick_f (b := (!y147)) rfl hc151 .none rfl ?_
          obtain rfl := Option.some.inj hF
          exact hJ150 _ ⟨rfl, rfl, rfl, rfl⟩
      · rintro f ⟨hf1, hf3, hf4, hf26⟩
        refine (JL.norm (i := 1) hf1 (JL.norm (i := 3) hf3 (JL.norm (i := 4) hf4 (JL.norm (i := 26) hf26 ?_))))
        refine JL.move .none rfl ?_
        obtain ⟨p154, hp154, hF⟩ := bind_some hF
        refine JL.cut 5 (fun f => f 1 = .pointer (some ⟨b1, 0, none⟩) ∧ f 3 = .int .i64 i_136 ∧ f 4 = .pointer (some ⟨b146, 0, none⟩) ∧ f 32 = .bool p154) ?_ ?_
        · intro hJ155
          rcases ite_some hp154 with ⟨hc156, hF⟩ | ⟨hc156, hF⟩
          · skip
            refine JL.skip (.bool rfl rfl rfl hc156) rfl ?_
            refine JL.skip (.bool rfl rfl rfl hc156) rfl ?_
            refine JL.skip (.bool rfl rfl rfl hc156) rfl ?_
            refine JL.skip (.bool rfl rfl rfl hc156) rfl ?_
            refine JL.pick_t (b := p149) rfl hc156 .none rfl ?_
            obtain rfl := Option.some.inj hF
            exact hJ155 _ ⟨rfl, rfl, rfl, rfl⟩
          · skip
            refine JL.fieldAddr fo_68_2 rfl (.some rfl rfl rfl hc156) rfl ?_
            refine JL.loadOwn 0 az_3 rfl rfl rfl (.some rfl rfl rfl hc156) rfl ?_
            obtain ⟨y157, hy157, hF⟩ := bind_some hF
            refine JL.callS (c_ref01_Within n H137 y141.Base 0 2000 y157 hy157) rfl en_66 (.some rfl rfl rfl hc156) rfl ?_
            refine JL.not rfl (.some rfl rfl rfl hc156) rfl ?_
            refine JL.pick_f (b := p149) rfl hc156 .none rfl ?_
            obtain rfl := Option.some.inj hF
            exact hJ155 _ ⟨rfl, rfl, rfl, rfl⟩
        · rintro f ⟨hf1, hf3, hf4, hf32⟩
          refine (JL.norm (i := 1) hf1 (JL.norm (i := 3) hf3 (JL.norm (i := 4) hf4 (JL.norm (i := 32) hf32 ?_))))
          refine JL.move .none rfl ?_
          obtain ⟨p159, hp159, hF⟩ := bind_some hF
          refine JL.cut 5 (fun f => f 1 = .pointer (some ⟨b1, 0, none⟩) ∧ f 3 = .int .i64 i_136 ∧ f 38 = .bool p159) ?_ ?_
          · intro hJ160
            rcases ite_some hp159 with ⟨hc161, hF⟩ | ⟨hc161, hF⟩
            · skip
              refine JL.skip (.bool rfl rfl rfl hc161) rfl ?_
              refine JL.skip (.bool rfl rfl rfl hc161) rfl ?_
              refine JL.skip (.bool rfl rfl rfl hc161) rfl ?_
              refine JL.skip (.bool rfl rfl rfl hc161) rfl ?_
              refine JL.pick_t (b := p154) rfl hc161 .none rfl ?_
              obtain rfl := Option.some.inj hF
              exact hJ160 _ ⟨rfl, rfl, rfl⟩
            · skip
              refine JL.fieldAddr fo_68_3 rfl (.some rfl rfl rfl hc161) rfl ?_
              refine JL.loadOwn 0 az_51 rfl rfl rfl (.some rfl rfl rfl hc161) rfl ?_
              obtain ⟨y162, hy162, hF⟩ := bind_some hF
              refine JL.callS (c_ref01_isShare n H137 y141.Gear y162 hy162) rfl en_67 (.some rfl rfl rfl hc161) rfl ?_
              refine JL.not rfl (.some rfl rfl rfl hc161) rfl ?_
              refine JL.pick_f (b := p154) rfl hc161 .none rfl ?_
              obtain rfl := Option.some.inj hF
              exact hJ160 _ ⟨rfl, rfl, rfl⟩
          · rintro f ⟨hf1, hf3, hf38⟩
            refine (JL.norm (i := 1) hf1 (JL.norm (i := 3) hf3 (JL.norm (i := 38) hf38 ?_)))
            refine JL.done hQ ?_
            refine JQ.go ?_
            rcases ite_some hF with ⟨hc163, hF⟩ | ⟨hc163, hF⟩
            · refine JC.cond_t (b := p159) rfl hc163 ?_
              refine JC.seq ?_
              refine JC.region (by rfl) ?_
              intro hQ
              refine JL.assign .none rfl ?_
              refine JL.done hQ ?_
              refine JQ.go ?_
              refine JC.ret ?_
              refine JQ.ret_block ?_
              refine JQ.ret_then ?_
              refine JQ.ret_then ?_
              refine JQ.ret_block ?_
              refine JQ.ret_join ?_
              refine JQ.ret_then ?_
              obtain rfl := Option.some.inj hF
              have ehr138 := hr138 _ rfl
              subst ehr138
              have hF := hKr83
              try dsimp only at hF
              obtain rfl := Option.some.inj hF
              exact JQ.outS rfl (.tmp .nil) rfl
            · refine JC.cond_f (b := p159) rfl hc163 ?_
              refine JC.skip ?_
              refine JQ.normal_block ?_
              refine JQ.go ?_
              refine JC.region (by rfl) ?_
              intro hQ
              refine JL.move .none rfl ?_
              refine JL.bin rfl rfl rfl .none rfl ?_
              refine JL.assign .none rfl ?_
              refine JL.done hQ ?_
              obtain rfl := Option.some.inj hF
              refine JQ.mask [false, true] [] ?_
              exact JQ.next rfl ⟨rfl, rfl, rfl, rfl, hs137⟩
    · refine JC.cond_f (b := decide (i_136 < (f_.Sections.length : Int))) rfl hc140 ?_
      refine JC.exit ?_
      refine JQ.exit_then ?_
      refine JQ.exit_then ?_
      refine JQ.exit_block ?_
      obtain rfl := Option.some.inj hF
      have ehr138 := hr138 _ rfl
      subst ehr138
      exact JQ.join () ⟨rfl, rfl, rfl, hs137, rfl⟩
  · rintro _ H82 f bs gs ⟨hf1, rfl, rfl, hs82, rfl⟩
    have hF := hKr83
    try dsimp only at hF
    refine (JQ.norm (i := 1) hf1 ?_)
    refine JQ.go ?_
    refine JC.seq ?_
    refine JC.seq ?_
    refine JC.region (by rfl) ?_
    intro hQ
    refine JL.fieldAddr fo_53_0 rfl .none rfl ?_
    refine JL.loadOwn 0 az_49 rfl rfl rfl .none rfl ?_
    refine JL.lenSL (R := R_Section) ul_49 (SL.mono R_Section_mono hs82 hf__0) .none rfl ?_
    obtain ⟨y164, hy164, hF⟩ := bind_some hF
    refine JL.callS (c_ref01_Within n H82 (f_.Sections.length : Int) 1 3 y164 hy164) rfl en_66 .none rfl ?_
    refine JL.not rfl .none rfl ?_
    refine JL.move .none rfl ?_
    obtain ⟨p166, hp166, hF⟩ := bind_some hF
    refine JL.cut 7 (fun f => f 1 = .pointer (some ⟨b1, 0, none⟩) ∧ f 51 = .bool p166) ?_ ?_
    · intro hJ167
      rcases ite_some hp166 with ⟨hc168, hF⟩ | ⟨hc168, hF⟩
      · skip
        refine JL.skip (.bool rfl rfl rfl hc168) rfl ?_
        refine JL.skip (.bool rfl rfl rfl hc168) rfl ?_
        refine JL.skip (.bool rfl rfl rfl hc168) rfl ?_
        refine JL.skip (.bool rfl rfl rfl hc168) rfl ?_
        refine JL.skip (.bool rfl rfl rfl hc168) rfl ?_
        refine JL.skip (.bool rfl rfl rfl hc168) rfl ?_
        refine JL.pick_t (b := (!y164)) rfl hc168 .none rfl ?_
        obtain rfl := Option.some.inj hF
        exact hJ167 _ ⟨rfl, rfl⟩
      · skip
        refine JL.fieldAddr fo_53_1 rfl (.some rfl rfl rfl hc168) rfl ?_
        refine JL.loadOwn 0 az_3 rfl rfl rfl (.some rfl rfl rfl hc168) rfl ?_
        refine JL.fieldAddr fo_53_2 rfl (.some rfl rfl rfl hc168) rfl ?_
        refine JL.loadOwn 0 az_3 rfl rfl rfl (.some rfl rfl rfl hc168) rfl ?_
        obtain ⟨y169, hy169, hF⟩ := bind_some hF
        refine JL.callS (c_ref01_Within n H82 f_.Low 1 f_.High y169 hy169) rfl en_66 (.some rfl rfl rfl hc168) rfl ?_
        refine JL.not rfl (.some rfl rfl rfl hc168) rfl ?_
        refine JL.pick_f (b := (!y164)) rfl hc168 .none rfl ?_
        obtain rfl := Option.some.inj hF
        exact hJ167 _ ⟨rfl, rfl⟩
    · rintro f ⟨hf1, hf51⟩
      refine (JL.norm (i := 1) hf1 (JL.norm (i := 51) hf51 ?_))
      refine JL.move .none rfl ?_
      refine JL.cut 4 (fun f => f 1 = .pointer (some ⟨b1, 0, none⟩) ∧ f 56 = .bool (p166 || (decide (2000 < f_.High)))) ?_ ?_
      · intro hJ170
        rcases bcases p166 with hc171 | hc171
        · skip
          refine JL.skip (.bool rfl rfl rfl hc171) rfl ?_
          refine JL.skip (.bool rfl rfl rfl hc171) rfl ?_
          refine JL.skip (.bool rfl rfl rfl hc171) rfl ?_
          refine JL.pick_t (b := p166) rfl hc171 .none rfl ?_
          exact hJ170 _ ⟨rfl, or_t hc171 rfl⟩
        · skip
          refine JL.fieldAddr fo_53_2 rfl (.some rfl rfl rfl hc171) rfl ?_
          refine JL.loadOwn 0 az_3 rfl rfl rfl (.some rfl rfl rfl hc171) rfl ?_
          refine JL.bin rfl rfl rfl (.some rfl rfl rfl hc171) rfl ?_
          refine JL.pick_f (b := p166) rfl hc171 .none rfl ?_
          exact hJ170 _ ⟨rfl, or_f hc171 rfl⟩
      · rintro f ⟨hf1, hf56⟩
        refine (JL.norm (i := 1) hf1 (JL.norm (i := 56) hf56 ?_))
        refine JL.move .none rfl ?_
        refine JL.cut 7 (fun f => f 1 = .pointer (some ⟨b1, 0, none⟩) ∧ f 64 = .bool ((p166 || (decide (2000 < f_.High))) || (decide (200 < (w64 (f_.High - f_.Low)))))) ?_ ?_
        · intro hJ172
          rcases bcases (p166 || (decide (2000 < f_.High))) with hc173 | hc173
          · skip
            refine JL.skip (.bool rfl rfl rfl hc173) rfl ?_
            refine JL.skip (.bool rfl rfl rfl hc173) rfl ?_
            refine JL.skip (.bool rfl rfl rfl hc173) rfl ?_
            refine JL.skip (.bool rfl rfl rfl hc173) rfl ?_
            refine JL.skip (.bool rfl rfl rfl hc173) rfl ?_
            refine JL.skip (.bool rfl rfl rfl hc173) rfl ?_
            refine JL.pick_t (b := (p166 || (decide (2000 < f_.High)))) rfl hc173 .none rfl ?_
            exact hJ172 _ ⟨rfl, or_t hc173 rfl⟩
          · skip
            refine JL.fieldAddr fo_53_2 rfl (.some rfl rfl rfl hc173) rfl ?_
            refine JL.loadOwn 0 az_3 rfl rfl rfl (.some rfl rfl rfl hc173) rfl ?_
            refine JL.fieldAddr fo_53_1 rfl (.some rfl rfl rfl hc173) rfl ?_
            refine JL.loadOwn 0 az_3 rfl rfl rfl (.some rfl rfl rfl hc173) rfl ?_
            refine JL.bin rfl rfl rfl (.some rfl rfl rfl hc173) rfl ?_
            refine JL.bin rfl rfl rfl (.some rfl rfl rfl hc173) rfl ?_
            refine JL.pick_f (b := (p166 || (decide (2000 < f_.High)))) rfl hc173 .none rfl ?_
            exact hJ172 _ ⟨rfl, or_f hc173 rfl⟩
        · rintro f ⟨hf1, hf64⟩
          refine (JL.norm (i := 1) hf1 (JL.norm (i := 64) hf64 ?_))
          refine JL.move .none rfl ?_
          obtain ⟨p175, hp175, hF⟩ := bind_some hF
          refine JL.cut 5 (fun f => f 1 = .pointer (some ⟨b1, 0, none⟩) ∧ f 70 = .bool p175) ?_ ?_
          · intro hJ176
            rcases ite_some hp175 with ⟨hc177, hF⟩ | ⟨hc177, hF⟩
            · skip
              refine JL.skip (.bool rfl rfl rfl hc177) rfl ?_
              refine JL.skip (.bool rfl rfl rfl hc177) rfl ?_
              refine JL.skip (.bool rfl rfl rfl hc177) rfl ?_
              refine JL.skip (.bool rfl rfl rfl hc177) rfl ?_
              refine JL.pick_t (b := ((p166 || (decide (2000 < f_.High))) || (decide (200 < (w64 (f_.High - f_.Low)))))) rfl hc177 .none rfl ?_
              obtain rfl := Option.some.inj hF
              exact hJ176 _ ⟨rfl, rfl⟩
            · skip
              refine JL.fieldAddr fo_53_3 rfl (.some rfl rfl rfl hc177) rfl ?_
              refine JL.loadOwn 0 az_51 rfl rfl rfl (.some rfl rfl rfl hc177) rfl ?_
              obtain ⟨y178, hy178, hF⟩ := bind_some hF
              refine JL.callS (c_ref01_isShare n H82 f_.Ease y178 hy178) rfl en_67 (.some rfl rfl rfl hc177) rfl ?_
              refine JL.not rfl (.some rfl rfl rfl hc177) rfl ?_
              refine JL.pick_f (b := ((p166 || (decide (2000 < f_.High))) || (decide (200 < (w64 (f_.High - f_.Low)))))) rfl hc177 .none rfl ?_
              obtain rfl := Option.some.inj hF
              exact hJ176 _ ⟨rfl, rfl⟩
          · rintro f ⟨hf1, hf70⟩
            refine (JL.norm (i := 1) hf1 (JL.norm (i := 70) hf70 ?_))
            refine JL.move .none rfl ?_
            obtain ⟨p180, hp180, hF⟩ := bind_some hF
            refine JL.cut 5 (fun f => f 1 = .pointer (some ⟨b1, 0, none⟩) ∧ f 76 = .bool p180) ?_ ?_
            · intro hJ181
              rcases ite_some hp180 with ⟨hc182, hF⟩ | ⟨hc182, hF⟩
              · skip
                refine JL.skip (.bool rfl rfl rfl hc182) rfl ?_
                refine JL.skip (.bool rfl rfl rfl hc182) rfl ?_
                refine JL.skip (.bool rfl rfl rfl hc182) rfl ?_
                refine JL.skip (.bool rfl rfl rfl hc182) rfl ?_
                refine JL.pick_t (b := p175) rfl hc182 .none rfl ?_
                obtain rfl := Option.some.inj hF
                exact hJ181 _ ⟨rfl, rfl⟩
              · skip
                refine JL.fieldAddr fo_53_4 rfl (.some rfl rfl rfl hc182) rfl ?_
                refine JL.loadOwn 0 az_3 rfl rfl rfl (.some rfl rfl rfl hc182) rfl ?_
                obtain ⟨y183, hy183, hF⟩ := bind_some hF
                refine JL.callS (c_ref01_Within n H82 f_.Rod 0 4000 y183 hy183) rfl en_66 (.some rfl rfl rfl hc182) rfl ?_
                refine JL.not rfl (.some rfl rfl rfl hc182) rfl ?_
                refine JL.pick_f (b := p175) rfl hc182 .none rfl ?_
                obtain rfl := Option.some.inj hF
                exact hJ181 _ ⟨rfl, rfl⟩
            · rintro f ⟨hf1, hf76⟩
              refine (JL.norm (i := 1) hf1 (JL.norm (i := 76) hf76 ?_))
              refine JL.move .none rfl ?_
              obtain ⟨p185, hp185, hF⟩ := bind_some hF
              refine JL.cut 5 (fun f => f 82 = .bool p185) ?_ ?_
              · intro hJ186
                rcases ite_some hp185 with ⟨hc187, hF⟩ | ⟨hc187, hF⟩
                · skip
                  refine JL.skip (.bool rfl rfl rfl hc187) rfl ?_
                  refine JL.skip (.bool rfl rfl rfl hc187) rfl ?_
                  refine JL.skip (.bool rfl rfl rfl hc187) rfl ?_
                  refine JL.skip (.bool rfl rfl rfl hc187) rfl ?_
                  refine JL.pick_t (b := p180) rfl hc187 .none rfl ?_
                  obtain rfl := Option.some.inj hF
                  exact hJ186 _ (rfl)
                · skip
                  refine JL.fieldAddr fo_53_5 rfl (.some rfl rfl rfl hc187) rfl ?_
                  refine JL.loadOwn 0 az_3 rfl rfl rfl (.some rfl rfl rfl hc187) rfl ?_
                  obtain ⟨y188, hy188, hF⟩ := bind_some hF
                  refine JL.callS (c_ref01_Within n H82 f_.Case 0 4000 y188 hy188) rfl en_66 (.some rfl rfl rfl hc187) rfl ?_
                  refine JL.not rfl (.some rfl rfl rfl hc187) rfl ?_
                  refine JL.pick_f (b := p180) rfl hc187 .none rfl ?_
                  obtain rfl := Option.some.inj hF
                  exact hJ186 _ (rfl)
              · rintro f hf82
                refine (JL.norm (i := 82) hf82 ?_)
                refine JL.done hQ ?_
                refine JQ.go ?_
                rcases ite_some hF with ⟨hc189, hF⟩ | ⟨hc189, hF⟩
                · refine JC.cond_t (b := p185) rfl hc189 ?_
                  refine JC.seq ?_
                  refine JC.region (by rfl) ?_
                  intro hQ
                  refine JL.assign .none rfl ?_
                  refine JL.done hQ ?_
                  refine JQ.go ?_
                  refine JC.ret ?_
                  refine JQ.ret_then ?_
                  obtain rfl := Option.some.inj hF
                  exact JQ.outS rfl (.tmp .nil) rfl
                · refine JC.cond_f (b := p185) rfl hc189 ?_
                  refine JC.skip ?_
                  refine JQ.go ?_
                  refine JC.seq ?_
                  refine JC.region (by rfl) ?_
                  intro hQ
                  refine JL.assign .none rfl ?_
                  refine JL.done hQ ?_
                  refine JQ.go ?_
                  refine JC.ret ?_
                  obtain rfl := Option.some.inj hF
                  exact JQ.outS rfl (.tmp .nil) rfl

-- 82 ferrule/ferruleref05.within
def F_ref05_within (n : Nat) (n_ : Int) (low : Int) (high : Int) : Option Bool :=
  (F_ref01_Within n n_ low high).bind fun y1 => some y1
set_option maxRecDepth 100000 in
set_option maxHeartbeats 40000000 in
theorem c_ref05_within (n : Nat) (H : Hp) (n_ : Int) (low : Int) (high : Int) (y : Bool) (hF : F_ref05_within n n_ low high = some y) : SC Try.prog 82 [.int .i64 n_, .int .i64 low, .int .i64 high] (.bool y) H := by
  rw [F_ref05_within] at hF
  refine SC.of (N := 11) Try.func82 rfl rfl rfl fun w => ?_
  refine JC.seq ?_
  refine JC.region (by rfl) ?_
  intro hQ
  refine JL.assign .none rfl ?_
  refine JL.done hQ ?_
  refine JQ.go ?_
  refine JC.seq ?_
  refine JC.region (by rfl) ?_
  intro hQ
  refine JL.move .none rfl ?_
  refine JL.move .none rfl ?_
  refine JL.move .none rfl ?_
  obtain ⟨y1, hy1, hF⟩ := bind_some hF
  refine JL.callS (c_ref01_Within n H n_ low high y1 hy1) rfl en_66 .none rfl ?_
  refine JL.assign .none rfl ?_
  refine JL.done hQ ?_
  refine JQ.go ?_
  refine JC.ret ?_
  obtain rfl := Option.some.inj hF
  exact JQ.outS rfl (.tmp .nil) rfl

end Go.Proofs.Yteihdclpiekmaaa
