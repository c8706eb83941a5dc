/-
  A part of the proof of CDome: the texts GenK0, Man.
-/
import Derived.Test.YtcipdblhopffbaaJCDome2
section
namespace Go.Proofs.Ytcipdblhopffbaa
open Go Go.RowKit Go.Dec
set_option linter.unusedVariables false
-- 97 (ferrule/gusts.blown).load
def F_gusts_blown_load (n : Nat) (b : gusts_blown) (g : Gust) (rib : Int) : Option Int :=
 (nz (b.shares.length : Int)).bind fun _ => (geti b.shares ((w64 ((w64 (rib - g.At)) + (b.shares.length : Int))).tmod (b.shares.length : Int))).bind fun y10 => some (w64 ((w64 ((w64 (g.Force * b.lift)) * y10)).tdiv 100))
set_option maxRecDepth 100000 in
set_option maxHeartbeats 40000000 in
theorem c_gusts_blown_load (n : Nat) (H : Hp) (b : gusts_blown) (b_v1 : Value) (hb_1 : SL H 1 RInt b_v1 b.ribs) (b_v2 : Value) (hb_2 : SL H 1 RInt b_v2 b.shares) (g : Gust) (rib : Int) (y : Int) (hF : F_gusts_blown_load n b g rib = some y) : SC Try.prog 97 [.agg [.int .i64 b.lift, b_v1, b_v2].toArray, .agg [.int .i64 g.Force, .int .i64 g.At].toArray, .int .i64 rib] (.int .i64 y) H := by
 rw [F_gusts_blown_load] at hF
 refine SC.of (N := 30) Try.func97 rfl rfl rfl fun w => ?_
 refine JC.seq ?_
 refine JC.region (by rfl) ?_
 intro hQ
 refine JL.box (cs := [.int .i64 b.lift, b_v1, b_v2]) rfl .none rfl ?_
 intro b1
 refine JL.box (cs := [.int .i64 g.Force, .int .i64 g.At]) rfl .none rfl ?_
 intro b2
 refine JL.assign .none rfl ?_
 refine JL.done hQ ?_
 refine JQ.go ?_
 refine JC.seq ?_
 refine JC.region (by rfl) ?_
 intro hQ
 refine JL.fieldAddr fo_85_2 rfl .none rfl ?_
 refine JL.loadOwn 1 az_28 rfl rfl rfl .none rfl ?_
 refine JL.lenSL (R := RInt) ul_28 hb_2 .none rfl ?_
 refine JL.assign .none rfl ?_
 refine JL.done hQ ?_
 refine JQ.go ?_
 refine JC.seq ?_
 refine JC.draw (by rfl) mo_ (by kernel_rfl) ?_
 intro hQ
 refine JL.fieldAddr fo_58_0 rfl .none rfl ?_
 refine JL.loadOwn 0 az_3 rfl rfl rfl .none rfl ?_
 refine JL.fieldAddr fo_85_0 rfl .none rfl ?_
 refine JL.loadOwn 1 az_3 rfl rfl rfl .none rfl ?_
 refine JL.bin rfl rfl rfl .none rfl ?_
 refine JL.fieldAddr fo_85_2 rfl .none rfl ?_
 refine JL.loadOwn 1 az_28 rfl rfl rfl .none rfl ?_
 refine JL.move .none rfl ?_
 refine JL.fieldAddr fo_58_1 rfl .none rfl ?_
 refine JL.loadOwn 0 az_3 rfl rfl rfl .none rfl ?_
 refine JL.bin rfl rfl rfl .none rfl ?_
 refine JL.move .none rfl ?_
 refine JL.bin rfl rfl rfl .none rfl ?_
 refine JL.move .none rfl ?_
 obtain ⟨u9, hu9, hF⟩ := bind_some hF
 refine JL.div rfl rfl (nz_some hu9) rfl .none rfl ?_
 obtain ⟨y10, hy10, hF⟩ := bind_some hF
 refine JL.indexSL (R := RInt) sl_28 hb_2 rfl hy10 .none rfl ?_
 rintro b11 o12 cs13 hc14 - rfl
 refine JL.loadH 0 az_3 rfl hc14 rfl .none rfl ?_
 refine JL.bin rfl rfl rfl .none rfl ?_
 refine JL.div rfl rfl (by decide) rfl .none rfl ?_
 refine JL.assign .none rfl ?_
 refine JL.doneQ hQ ?_
 refine JQ.go ?_
 refine JC.fresh (fun f => f 6 = .int .i64 (w64 ((w64 ((w64 (g.Force * b.lift)) * y10)).tdiv 100))) rfl ?_
 rintro f hf6
 refine (JC.norm (i := 6) hf6 ?_)
 refine JC.ret ?_
 obtain rfl := Option.some.inj hF
 exact JQ.outS rfl (.tmp .nil) rfl

-- 93 (ferrule/gusts.blown).bears
def F_gusts_blown_bears_s2 (n : Nat) (b : gusts_blown) (g : Gust) (rib : Int) (gone : Int) (y410 : Int) : Int × Int → Option ((Int × Int) ⊕ Int)
 | (side_472, i_473) => (if (i_473 != rib) = true then ((nneg i_473).bind fun _ => some ((band .u16 (bshr .u16 gone i_473) 1) == 1)) else (some false) : Option Bool).bind fun p478 => if p478 = true then ((F_gusts_blown_load n b g i_473).bind fun y483 => (nz (b.ribs.length : Int)).bind fun _ => some (Sum.inl ((w64 (side_472 + y483)), ((w64 (i_473 + y410)).tmod (b.ribs.length : Int))))) else (some (Sum.inr side_472))
def F_gusts_blown_bears_s1 (n : Nat) (b : gusts_blown) (g : Gust) (rib : Int) (gone : Int) : Int × Int → Option ((Int × Int) ⊕ Int)
 | (sum_404, x_405) => if decide (x_405 < 2) = true then ((geti [1, (w64 ((b.ribs.length : Int) - 1))] x_405).bind fun y410 => (nz (b.ribs.length : Int)).bind fun _ => (loopO n (F_gusts_blown_bears_s2 n b g rib gone y410) (0, ((w64 (rib + y410)).tmod (b.ribs.length : Int)))).bind fun side_447 => some (Sum.inl ((w64 (sum_404 + (w64 (side_447.tdiv 2)))), (w64 (x_405 + 1))))) else (some (Sum.inr sum_404))
def F_gusts_blown_bears (n : Nat) (b : gusts_blown) (g : Gust) (rib : Int) (gone : Int) : Option Int :=
 (F_gusts_blown_load n b g rib).bind fun y3 => (loopO n (F_gusts_blown_bears_s1 n b g rib gone) (y3, 0)).bind fun sum_243 => some sum_243
set_option maxRecDepth 100000 in
set_option maxHeartbeats 40000000 in
theorem c_gusts_blown_bears (n : Nat) (H : Hp) (b : gusts_blown) (b_v1 : Value) (hb_1 : SL H 1 RInt b_v1 b.ribs) (b_v2 : Value) (hb_2 : SL H 1 RInt b_v2 b.shares) (g : Gust) (rib : Int) (gone : Int) (y : Int) (hF : F_gusts_blown_bears n b g rib gone = some y) : SC Try.prog 93 [.agg [.int .i64 b.lift, b_v1, b_v2].toArray, .agg [.int .i64 g.Force, .int .i64 g.At].toArray, .int .i64 rib, .int .u16 gone] (.int .i64 y) H := by
 rw [F_gusts_blown_bears] at hF
 refine SC.of (N := 60) Try.func93 rfl rfl rfl fun w => ?_
 refine JC.seq ?_
 refine JC.region (by rfl) ?_
 intro hQ
 refine JL.box (cs := [.int .i64 b.lift, b_v1, b_v2]) rfl .none rfl ?_
 intro b1
 refine JL.box (cs := [.int .i64 g.Force, .int .i64 g.At]) rfl .none rfl ?_
 intro b2
 refine JL.assign .none rfl ?_
 refine JL.done hQ ?_
 refine JQ.go ?_
 refine JC.seq ?_
 refine JC.region (by rfl) ?_
 intro hQ
 refine JL.loadOwn 1 az_85 rfl rfl rfl .none rfl ?_
 refine JL.loadOwn 0 az_58 rfl rfl rfl .none rfl ?_
 refine JL.move .none rfl ?_
 obtain ⟨y3, hy3, hF⟩ := bind_some hF
 refine JL.callS (c_gusts_blown_load n H b b_v1 hb_1 b_v2 hb_2 g rib y3 hy3) rfl en_97 .none rfl ?_
 refine JL.assign .none rfl ?_
 refine JL.done hQ ?_
 refine JQ.go ?_
 refine JC.seq ?_
 refine JC.region (by rfl) ?_
 intro hQ
 refine JL.fieldAddr fo_85_1 rfl .none rfl ?_
 refine JL.loadOwn 1 az_28 rfl rfl rfl .none rfl ?_
 refine JL.lenSL (R := RInt) ul_28 hb_1 .none rfl ?_
 refine JL.assign .none rfl ?_
 refine JL.done hQ ?_
 refine JQ.go ?_
 refine JC.fresh (fun f => f 2 = .int .i64 rib ∧ f 3 = .int .u16 gone ∧ f 4 = .pointer (some ⟨b1, 0, none⟩) ∧ f 5 = .pointer (some ⟨b2, 0, none⟩) ∧ f 8 = .int .i64 0 ∧ f 9 = .int .i64 y3 ∧ f 10 = .int .i64 (b.ribs.length : Int)) ⟨rfl, rfl, rfl, rfl, rfl, rfl, rfl⟩ ?_
 rintro f ⟨hf2, hf3, hf4, hf5, hf8, hf9, hf10⟩
 refine (JC.norm (i := 2) hf2 (JC.norm (i := 3) hf3 (JC.norm (i := 4) hf4 (JC.norm (i := 5) hf5 (JC.norm (i := 8) hf8 (JC.norm (i := 9) hf9 (JC.norm (i := 10) hf10 ?_)))))))
 refine JC.seq ?_
 refine JC.seq ?_
 refine JC.region (by rfl) ?_
 intro hQ
 refine JL.move .none rfl ?_
 refine JL.bin rfl rfl rfl .none rfl ?_
 refine JL.build (l := [.int .i64 1, .int .i64 (w64 ((b.ribs.length : Int) - 1))]) (by kernel_rfl) .none rfl ?_
 refine JL.move .none rfl ?_
 refine JL.done hQ ?_
 refine JQ.go ?_
 obtain ⟨r245, hlr245, hKr245⟩ := bind_some hF
 refine JC.join (fun (sum_243 : Int) H244 f bs gs => f 9 = .int .i64 sum_243 ∧ bs = [] ∧ gs = [] ∧ HSub H H244 ∧ sum_243 = r245) ?_ ?_
 ·skip
  refine JC.block ?_
  refine JC.loop hlr245 (fun (x : Int × Int) H406 f bs gs => match x with | (sum_404, x_405) => f 2 = .int .i64 rib ∧ f 3 = .int .u16 gone ∧ f 4 = .pointer (some ⟨b1, 0, none⟩) ∧ f 5 = .pointer (some ⟨b2, 0, none⟩) ∧ f 9 = .int .i64 sum_404 ∧ f 10 = .int .i64 (b.ribs.length : Int) ∧ f 24 = .agg (av .i64 [1, (w64 ((b.ribs.length : Int) - 1))]).toArray ∧ f 25 = .int .i64 x_405 ∧ bs = [(b2, .cells [.int .i64 g.Force, .int .i64 g.At].toArray 58), (b1, .cells [.int .i64 b.lift, b_v1, b_v2].toArray 85)] ∧ gs = [] ∧ HSub H H406) ⟨rfl, rfl, rfl, rfl, rfl, rfl, rfl, rfl, rfl, rfl, (HSub.refl _)⟩ ?_
  rintro ⟨sum_404, x_405⟩ x408 H406 f bs gs ⟨hf2, hf3, hf4, hf5, hf9, hf10, hf24, hf25, rfl, rfl, hs406⟩ hF hr407
  rw [F_gusts_blown_bears_s1] at hF
  refine (JC.norm (i := 2) hf2 (JC.norm (i := 3) hf3 (JC.norm (i := 4) hf4 (JC.norm (i := 5) hf5 (JC.norm (i := 9) hf9 (JC.norm (i := 10) hf10 (JC.norm (i := 24) hf24 (JC.norm (i := 25) hf25 ?_))))))))
  refine JC.seq ?_
  refine JC.region (by rfl) ?_
  intro hQ
  refine JL.bin rfl rfl rfl .none rfl ?_
  refine JL.done hQ ?_
  refine JQ.go ?_
  refine JC.seq ?_
  rcases ite_some hF with ⟨hc409, hF⟩ | ⟨hc409, hF⟩
  ·refine JC.cond_t (b := decide (x_405 < 2)) rfl hc409 ?_
   refine JC.skip ?_
   refine JQ.go ?_
   refine JC.seq ?_
   refine JC.block ?_
   refine JC.seq ?_
   refine JC.region (by rfl) ?_
   intro hQ
   obtain ⟨y410, hy410, hF⟩ := bind_some hF
   refine JL.indexArr (l := av .i64 [1, (w64 ((b.ribs.length : Int) - 1))]) (v := .int .i64 y410) ar_61 az_3 rfl rfl (geti_map (f := fun z => Value.int .i64 z) hy410) (av_len rfl) .none rfl ?_
   refine JL.assign .none rfl ?_
   refine JL.done hQ ?_
   refine JQ.go ?_
   refine JC.seq ?_
   refine JC.region (by rfl) ?_
   intro hQ
   refine JL.assign .none rfl ?_
   refine JL.done hQ ?_
   refine JQ.go ?_
   refine JC.seq ?_
   refine JC.seq ?_
   refine JC.region (by rfl) ?_
   intro hQ
   refine JL.move .none rfl ?_
   refine JL.move .none rfl ?_
   refine JL.bin rfl rfl rfl .none rfl ?_
   refine JL.move .none rfl ?_
   obtain ⟨u411, hu411, hF⟩ := bind_some hF
   refine JL.div rfl rfl (nz_some hu411) rfl .none rfl ?_
   refine JL.assign .none rfl ?_
   refine JL.done hQ ?_
   refine JQ.go ?_
   obtain ⟨r449, hlr449, hKr449⟩ := bind_some hF
   refine JC.join (fun (side_447 : Int) H448 f bs gs => f 2 = .int .i64 rib ∧ f 3 = .int .u16 gone ∧ f 4 = .pointer (some ⟨b1, 0, none⟩) ∧ f 5 = .pointer (some ⟨b2, 0, none⟩) ∧ f 9 = .int .i64 sum_404 ∧ f 10 = .int .i64 (b.ribs.length : Int) ∧ f 13 = .int .i64 side_447 ∧ f 24 = .agg (av .i64 [1, (w64 ((b.ribs.length : Int) - 1))]).toArray ∧ f 25 = .int .i64 x_405 ∧ bs = [(b2, .cells [.int .i64 g.Force, .int .i64 g.At].toArray 58), (b1, .cells [.int .i64 b.lift, b_v1, b_v2].toArray 85)] ∧ gs = [] ∧ HSub H406 H448 ∧ side_447 = r449) ?_ ?_
   ·skip
    refine JC.block ?_
    refine JC.loop hlr449 (fun (x : Int × Int) H474 f bs gs => match x with | (side_472, i_473) => f 2 = .int .i64 rib ∧ f 3 = .int .u16 gone ∧ f 4 = .pointer (some ⟨b1, 0, none⟩) ∧ f 5 = .pointer (some ⟨b2, 0, none⟩) ∧ f 9 = .int .i64 sum_404 ∧ f 10 = .int .i64 (b.ribs.length : Int) ∧ f 12 = .int .i64 y410 ∧ f 13 = .int .i64 side_472 ∧ f 14 = .int .i64 i_473 ∧ f 24 = .agg (av .i64 [1, (w64 ((b.ribs.length : Int) - 1))]).toArray ∧ f 25 = .int .i64 x_405 ∧ bs = [(b2, .cells [.int .i64 g.Force, .int .i64 g.At].toArray 58), (b1, .cells [.int .i64 b.lift, b_v1, b_v2].toArray 85)] ∧ gs = [] ∧ HSub H406 H474) ⟨rfl, rfl, rfl, rfl, rfl, rfl, rfl, rfl, rfl, rfl, rfl, rfl, rfl, (HSub.refl _)⟩ ?_
    rintro ⟨side_472, i_473⟩ x476 H474 f bs gs ⟨hf2, hf3, hf4, hf5, hf9, hf10, hf12, hf13, hf14, hf24, hf25, rfl, rfl, hs474⟩ hF hr475
    rw [F_gusts_blown_bears_s2] at hF
    refine (JC.norm (i := 2) hf2 (JC.norm (i := 3) hf3 (JC.norm (i := 4) hf4 (JC.norm (i := 5) hf5 (JC.norm (i := 9) hf9 (JC.norm (i := 10) hf10 (JC.norm (i := 12) hf12 (JC.norm (i := 13) hf13 (JC.norm (i := 14) hf14 (JC.norm (i := 24) hf24 (JC.norm (i := 25) hf25 ?_)))))))))))
    refine JC.seq ?_
    refine JC.seq ?_
    refine JC.region (by rfl) ?_
    intro hQ
    refine JL.move .none rfl ?_
    refine JL.move .none rfl ?_
    refine JL.bin rfl rfl rfl .none rfl ?_
    refine JL.move .none rfl ?_
    obtain ⟨p478, hp478, hF⟩ := bind_some hF
    refine JL.cut 6 (fun f => f 2 = .int .i64 rib ∧ f 3 = .int .u16 gone ∧ f 4 = .pointer (some ⟨b1, 0, none⟩) ∧ f 5 = .pointer (some ⟨b2, 0, none⟩) ∧ f 9 = .int .i64 sum_404 ∧ f 10 = .int .i64 (b.ribs.length : Int) ∧ f 12 = .int .i64 y410 ∧ f 13 = .int .i64 side_472 ∧ f 14 = .int .i64 i_473 ∧ f 24 = .agg (av .i64 [1, (w64 ((b.ribs.length : Int) - 1))]).toArray ∧ f 25 = .int .i64 x_405 ∧ f 42 = .bool p478) ?_ ?_
    ·intro hJ479
     rcases ite_some hp478 with ⟨hc480, hF⟩ | ⟨hc480, hF⟩
     ·skip
      refine JL.move (.some rfl rfl rfl hc480) rfl ?_
      refine JL.move (.some rfl rfl rfl hc480) rfl ?_
      obtain ⟨u481, hu481, hF⟩ := bind_some hF
      refine JL.shr rfl rfl (nneg_some hu481) (.some rfl rfl rfl hc480) rfl ?_
      refine JL.and rfl rfl (.some rfl rfl rfl hc480) rfl ?_
      refine JL.bin rfl rfl rfl (.some rfl rfl rfl hc480) rfl ?_
      refine JL.pick_t (b := (i_473 != rib)) rfl hc480 .none rfl ?_
      obtain rfl := Option.some.inj hF
      exact hJ479 _ ⟨rfl, rfl, rfl, rfl, rfl, rfl, rfl, rfl, rfl, rfl, rfl, rfl⟩
     ·skip
      refine JL.skip (.bool rfl rfl rfl hc480) rfl ?_
      refine JL.skip (.bool rfl rfl rfl hc480) rfl ?_
      refine JL.skip (.bool rfl rfl rfl hc480) rfl ?_
      refine JL.skip (.bool rfl rfl rfl hc480) rfl ?_
      refine JL.skip (.bool rfl rfl rfl hc480) rfl ?_
      refine JL.pick_f (b := (i_473 != rib)) rfl hc480 .none rfl ?_
      obtain rfl := Option.some.inj hF
      exact hJ479 _ ⟨rfl, rfl, rfl, rfl, rfl, rfl, rfl, rfl, rfl, rfl, rfl, rfl⟩
    ·rintro f ⟨hf2, hf3, hf4, hf5, hf9, hf10, hf12, hf13, hf14, hf24, hf25, hf42⟩
     refine (JL.norm (i := 2) hf2 (JL.norm (i := 3) hf3 (JL.norm (i := 4) hf4 (JL.norm (i := 5) hf5 (JL.norm (i := 9) hf9 (JL.norm (i := 10) hf10 (JL.norm (i := 12) hf12 (JL.norm (i := 13) hf13 (JL.norm (i := 14) hf14 (JL.norm (i := 24) hf24 (JL.norm (i := 25) hf25 (JL.norm (i := 42) hf42 ?_))))))))))))
     refine JL.done hQ ?_
     refine JQ.go ?_
     rcases ite_some hF with ⟨hc482, hF⟩ | ⟨hc482, hF⟩
     ·refine JC.cond_t (b := p478) rfl hc482 ?_
      refine JC.skip ?_
      refine JQ.go ?_
      refine JC.seq ?_
      refine JC.block ?_
      refine JC.region (by rfl) ?_
      intro hQ
      refine JL.move .none rfl ?_
      refine JL.loadOwn 1 az_85 rfl rfl rfl .none rfl ?_
      refine JL.loadOwn 0 az_58 rfl rfl rfl .none rfl ?_
      refine JL.move .none rfl ?_
      obtain ⟨y483, hy483, hF⟩ := bind_some hF
      refine JL.callS (c_gusts_blown_load n H474 b b_v1 (SL.mono RInt.mono (HSub.trans hs406 hs474) hb_1) b_v2 (SL.mono RInt.mono (HSub.trans hs406 hs474) hb_2) g i_473 y483 hy483) rfl en_97 .none rfl ?_
      refine JL.bin rfl rfl rfl .none rfl ?_
      refine JL.assign .none rfl ?_
      refine JL.done hQ ?_
      refine JQ.normal_block ?_
      refine JQ.go ?_
      refine JC.region (by rfl) ?_
      intro hQ
      refine JL.move .none rfl ?_
      refine JL.move .none rfl ?_
      refine JL.bin rfl rfl rfl .none rfl ?_
      refine JL.move .none rfl ?_
      obtain ⟨u484, hu484, hF⟩ := bind_some hF
      refine JL.div rfl rfl (nz_some hu484) rfl .none rfl ?_
      refine JL.assign .none rfl ?_
      refine JL.done hQ ?_
      obtain rfl := Option.some.inj hF
      exact JQ.next rfl ⟨rfl, rfl, rfl, rfl, rfl, rfl, rfl, rfl, rfl, rfl, rfl, rfl, rfl, hs474⟩
     ·refine JC.cond_f (b := p478) rfl hc482 ?_
      refine JC.exit ?_
      refine JQ.exit_then ?_
      refine JQ.exit_then ?_
      refine JQ.exit_block ?_
      obtain rfl := Option.some.inj hF
      have ehr475 := hr475 _ rfl
      subst ehr475
      exact JQ.join side_472 ⟨rfl, rfl, rfl, rfl, rfl, rfl, rfl, rfl, rfl, rfl, rfl, hs474, rfl⟩
   ·rintro side_447 H448 f bs gs ⟨hf2, hf3, hf4, hf5, hf9, hf10, hf13, hf24, hf25, rfl, rfl, hs448, rfl⟩
    have hF := hKr449
    try dsimp only at hF
    refine (JQ.norm (i := 2) hf2 (JQ.norm (i := 3) hf3 (JQ.norm (i := 4) hf4 (JQ.norm (i := 5) hf5 (JQ.norm (i := 9) hf9 (JQ.norm (i := 10) hf10 (JQ.norm (i := 13) hf13 (JQ.norm (i := 24) hf24 (JQ.norm (i := 25) hf25 ?_)))))))))
    refine JQ.go ?_
    refine JC.region (by rfl) ?_
    intro hQ
    refine JL.move .none rfl ?_
    refine JL.move .none rfl ?_
    refine JL.div rfl rfl (by decide) rfl .none rfl ?_
    refine JL.bin rfl rfl rfl .none rfl ?_
    refine JL.assign .none rfl ?_
    refine JL.done hQ ?_
    refine JQ.normal_block ?_
    refine JQ.go ?_
    refine JC.region (by rfl) ?_
    intro hQ
    refine JL.bin rfl rfl rfl .none rfl ?_
    refine JL.move .none rfl ?_
    refine JL.done hQ ?_
    obtain rfl := Option.some.inj hF
    exact JQ.next rfl ⟨rfl, rfl, rfl, rfl, rfl, rfl, rfl, rfl, rfl, rfl, (HSub.trans hs406 hs448)⟩
  ·refine JC.cond_f (b := decide (x_405 < 2)) rfl hc409 ?_
   refine JC.exit ?_
   refine JQ.exit_then ?_
   refine JQ.exit_then ?_
   refine JQ.exit_block ?_
   obtain rfl := Option.some.inj hF
   have ehr407 := hr407 _ rfl
   subst ehr407
   refine JQ.mask [false, false] [] ?_
   exact JQ.join sum_404 ⟨rfl, rfl, rfl, hs406, rfl⟩
 ·rintro sum_243 H244 f bs gs ⟨hf9, rfl, rfl, hs244, rfl⟩
  have hF := hKr245
  try dsimp only at hF
  refine (JQ.norm (i := 9) hf9 ?_)
  refine JQ.go ?_
  refine JC.seq ?_
  refine JC.region (by rfl) ?_
  intro hQ
  refine JL.move .none rfl ?_
  refine JL.assign .none rfl ?_
  refine JL.done hQ ?_
  refine JQ.go ?_
  refine JC.ret ?_
  obtain rfl := Option.some.inj hF
  exact JQ.outS rfl (.tmp .nil) rfl

-- 88 ferrule/frames.truths
def F_frames_truths (n : Nat) (s : Section) : Option Section :=
 some s
set_option maxRecDepth 100000 in
set_option maxHeartbeats 40000000 in
theorem c_frames_truths (n : Nat) (H : Hp) (s : Section) (y : Section) (hF : F_frames_truths n s = some y) : HC Try.prog 88 [.agg [.int .i64 s.Arm.Low, .int .i64 s.Arm.High, .int .i64 s.Stretch.Low, .int .i64 s.Stretch.High, .int .i64 s.Base, .int .i64 s.Gear.Num, .int .i64 s.Gear.Den].toArray] H (fun H' v => ∃ b0_ : Nat, v = .func (.func 95) #[] [.pointer (some ⟨b0_, 0, none⟩)].toArray ∧ Cells H' b0_ 0 [.int .i64 y.Arm.Low, .int .i64 y.Arm.High, .int .i64 y.Stretch.Low, .int .i64 y.Stretch.High, .int .i64 y.Base, .int .i64 y.Gear.Num, .int .i64 y.Gear.Den]) := by
 rw [F_frames_truths] at hF
 refine HC.of (N := 4) Try.func88 rfl rfl rfl fun w => ?_
 refine JC.seq ?_
 refine JC.region (by rfl) ?_
 intro hQ
 refine JL.box (cs := [.int .i64 s.Arm.Low, .int .i64 s.Arm.High, .int .i64 s.Stretch.Low, .int .i64 s.Stretch.High, .int .i64 s.Base, .int .i64 s.Gear.Num, .int .i64 s.Gear.Den]) rfl .none rfl ?_
 intro b1
 refine JL.assign .none rfl ?_
 refine JL.done hQ ?_
 refine JQ.go ?_
 refine JC.seq ?_
 refine JC.region (by rfl) ?_
 intro hQ
 refine JL.makeFunc .none rfl ?_
 refine JL.assign .none rfl ?_
 refine JL.done hQ ?_
 refine JQ.go ?_
 refine JC.ret ?_
 refine JQ.freezeC 0 (l := [.int .i64 s.Arm.Low, .int .i64 s.Arm.High, .int .i64 s.Stretch.Low, .int .i64 s.Stretch.High, .int .i64 s.Base, .int .i64 s.Gear.Num, .int .i64 s.Gear.Den]) rfl ?_
 intro H2 hs2 hc3
 obtain rfl := Option.some.inj hF
 exact JQ.outH rfl (.tmp .nil) ⟨b1, rfl, hc3⟩

-- 42 ferrule/ferrulelaw05.Far
def F_law05_Far (n : Nat) (d : Canopy) : Option Bool :=
 some (((decide (20 < (d.Frame.Sections.length : Int))) || (decide (40 < (d.Ribs.length : Int)))) || (decide (40 < (d.Shares.length : Int))))
set_option maxRecDepth 100000 in
set_option maxHeartbeats 40000000 in
theorem c_law05_Far (n : Nat) (H : Hp) (d : Canopy) (d_v0 : Value) (hd_0 : SL H 7 R_Section d_v0 d.Frame.Sections) (d_v7 : Value) (hd_7 : SL H 2 R_Span d_v7 d.Ribs) (d_v8 : Value) (hd_8 : SL H 1 RInt d_v8 d.Shares) (y : Bool) (hF : F_law05_Far n d = some y) : SC Try.prog 42 [.agg [d_v0, .int .i64 d.Frame.Low, .int .i64 d.Frame.High, .int .i64 d.Frame.Ease.Num, .int .i64 d.Frame.Ease.Den, .int .i64 d.Frame.Rod, .int .i64 d.Frame.Case, d_v7, d_v8].toArray] (.bool y) H := by
 rw [F_law05_Far] at hF
 refine SC.of (N := 20) Try.func42 rfl rfl rfl fun w => ?_
 refine JC.seq ?_
 refine JC.region (by rfl) ?_
 intro hQ
 refine JL.box (cs := [d_v0, .int .i64 d.Frame.Low, .int .i64 d.Frame.High, .int .i64 d.Frame.Ease.Num, .int .i64 d.Frame.Ease.Den, .int .i64 d.Frame.Rod, .int .i64 d.Frame.Case, d_v7, d_v8]) rfl .none rfl ?_
 intro b1
 refine JL.assign .none rfl ?_
 refine JL.done hQ ?_
 refine JQ.go ?_
 refine JC.seq ?_
 refine JC.region (by rfl) ?_
 intro hQ
 refine JL.fieldAddr fo_30_0 rfl .none rfl ?_
 refine JL.fieldAddr fo_26_0 rfl .none rfl ?_
 refine JL.loadOwn 0 az_22 rfl rfl rfl .none rfl ?_
 refine JL.lenSL (R := R_Section) ul_22 hd_0 .none rfl ?_
 refine JL.bin rfl rfl rfl .none rfl ?_
 refine JL.move .none rfl ?_
 refine JL.cut 5 (fun f => f 1 = .pointer (some ⟨b1, 0, none⟩) ∧ f 13 = .bool ((decide (20 < (d.Frame.Sections.length : Int))) || (decide (40 < (d.Ribs.length : Int))))) ?_ ?_
 ·intro hJ2
  rcases bcases (decide (20 < (d.Frame.Sections.length : Int))) with hc3 | hc3
  ·skip
   refine JL.skip (.bool rfl rfl rfl hc3) rfl ?_
   refine JL.skip (.bool rfl rfl rfl hc3) rfl ?_
   refine JL.skip (.bool rfl rfl rfl hc3) rfl ?_
   refine JL.skip (.bool rfl rfl rfl hc3) rfl ?_
   refine JL.pick_t (b := decide (20 < (d.Frame.Sections.length : Int))) rfl hc3 .none rfl ?_
   exact hJ2 _ ⟨rfl, or_t hc3 rfl⟩
  ·skip
   refine JL.fieldAddr fo_30_1 rfl (.some rfl rfl rfl hc3) rfl ?_
   refine JL.loadOwn 0 az_27 rfl rfl rfl (.some rfl rfl rfl hc3) rfl ?_
   refine JL.lenSL (R := R_Span) ul_27 hd_7 (.some rfl rfl rfl hc3) rfl ?_
   refine JL.bin rfl rfl rfl (.some rfl rfl rfl hc3) rfl ?_
   refine JL.pick_f (b := decide (20 < (d.Frame.Sections.length : Int))) rfl hc3 .none rfl ?_
   exact hJ2 _ ⟨rfl, or_f hc3 rfl⟩
 ·rintro f ⟨hf1, hf13⟩
  refine (JL.norm (i := 1) hf1 (JL.norm (i := 13) hf13 ?_))
  refine JL.move .none rfl ?_
  refine JL.cut 5 (fun f => f 19 = .bool (((decide (20 < (d.Frame.Sections.length : Int))) || (decide (40 < (d.Ribs.length : Int)))) || (decide (40 < (d.Shares.length : Int))))) ?_ ?_
  ·intro hJ4
   rcases bcases ((decide (20 < (d.Frame.Sections.length : Int))) || (decide (40 < (d.Ribs.length : Int)))) with hc5 | hc5
   ·skip
    refine JL.skip (.bool rfl rfl rfl hc5) rfl ?_
    refine JL.skip (.bool rfl rfl rfl hc5) rfl ?_
    refine JL.skip (.bool rfl rfl rfl hc5) rfl ?_
    refine JL.skip (.bool rfl rfl rfl hc5) rfl ?_
    refine JL.pick_t (b := ((decide (20 < (d.Frame.Sections.length : Int))) || (decide (40 < (d.Ribs.length : Int))))) rfl hc5 .none rfl ?_
    exact hJ4 _ (or_t hc5 rfl)
   ·skip
    refine JL.fieldAddr fo_30_2 rfl (.some rfl rfl rfl hc5) rfl ?_
    refine JL.loadOwn 0 az_28 rfl rfl rfl (.some rfl rfl rfl hc5) rfl ?_
    refine JL.lenSL (R := RInt) ul_28 hd_8 (.some rfl rfl rfl hc5) rfl ?_
    refine JL.bin rfl rfl rfl (.some rfl rfl rfl hc5) rfl ?_
    refine JL.pick_f (b := ((decide (20 < (d.Frame.Sections.length : Int))) || (decide (40 < (d.Ribs.length : Int))))) rfl hc5 .none rfl ?_
    exact hJ4 _ (or_f hc5 rfl)
  ·rintro f hf19
   refine (JL.norm (i := 19) hf19 ?_)
   refine JL.assign .none rfl ?_
   refine JL.done hQ ?_
   refine JQ.go ?_
   refine JC.ret ?_
   obtain rfl := Option.some.inj hF
   exact JQ.outS rfl (.tmp .nil) rfl

-- 47 ferrule/ferruleref01.Within
def F_ref01_Within (n : Nat) (n_ : Int) (low : Int) (high : Int) : Option Bool :=
 some ((decide (low ≤ n_)) && (decide (n_ ≤ high)))
set_option maxRecDepth 100000 in
set_option maxHeartbeats 40000000 in
theorem c_ref01_Within (n : Nat) (H : Hp) (n_ : Int) (low : Int) (high : Int) (y : Bool) (hF : F_ref01_Within n n_ low high = some y) : SC Try.prog 47 [.int .i64 n_, .int .i64 low, .int .i64 high] (.bool y) H := by
 rw [F_ref01_Within] at hF
 refine SC.of (N := 15) Try.func47 rfl rfl rfl fun w => ?_
 refine JC.seq ?_
 refine JC.region (by rfl) ?_
 intro hQ
 refine JL.assign .none rfl ?_
 refine JL.done hQ ?_
 refine JQ.go ?_
 refine JC.seq ?_
 refine JC.region (by rfl) ?_
 intro hQ
 refine JL.move .none rfl ?_
 refine JL.move .none rfl ?_
 refine JL.bin rfl rfl rfl .none rfl ?_
 refine JL.move .none rfl ?_
 refine JL.cut 4 (fun f => f 14 = .bool ((decide (low ≤ n_)) && (decide (n_ ≤ high)))) ?_ ?_
 ·intro hJ1
  rcases bcases (decide (low ≤ n_)) with hc2 | hc2
  ·skip
   refine JL.move (.some rfl rfl rfl hc2) rfl ?_
   refine JL.move (.some rfl rfl rfl hc2) rfl ?_
   refine JL.bin rfl rfl rfl (.some rfl rfl rfl hc2) rfl ?_
   refine JL.pick_t (b := decide (low ≤ n_)) rfl hc2 .none rfl ?_
   exact hJ1 _ (and_t hc2 rfl)
  ·skip
   refine JL.skip (.bool rfl rfl rfl hc2) rfl ?_
   refine JL.skip (.bool rfl rfl rfl hc2) rfl ?_
   refine JL.skip (.bool rfl rfl rfl hc2) rfl ?_
   refine JL.pick_f (b := decide (low ≤ n_)) rfl hc2 .none rfl ?_
   exact hJ1 _ (and_f hc2 rfl)
 ·rintro f hf14
  refine (JL.norm (i := 14) hf14 ?_)
  refine JL.assign .none rfl ?_
  refine JL.done hQ ?_
  refine JQ.go ?_
  refine JC.ret ?_
  obtain rfl := Option.some.inj hF
  exact JQ.outS rfl (.tmp .nil) rfl

-- 77 ferrule/ferruleref01.isLong
def F_ref01_isLong (n : Nat) (s : Span) : Option Bool :=
 (F_ref01_Within n s.Low 1 s.High).bind fun y2 => some ((y2 && (decide (s.High ≤ 2000))) && (decide ((w64 (s.High - s.Low)) ≤ 6)))
set_option maxRecDepth 100000 in
set_option maxHeartbeats 40000000 in
theorem c_ref01_isLong (n : Nat) (H : Hp) (s : Span) (y : Bool) (hF : F_ref01_isLong n s = some y) : SC Try.prog 77 [.agg [.int .i64 s.Low, .int .i64 s.High].toArray] (.bool y) H := by
 rw [F_ref01_isLong] at hF
 refine SC.of (N := 21) Try.func77 rfl rfl rfl fun w => ?_
 refine JC.seq ?_
 refine JC.region (by rfl) ?_
 intro hQ
 refine JL.box (cs := [.int .i64 s.Low, .int .i64 s.High]) rfl .none rfl ?_
 intro b1
 refine JL.assign .none rfl ?_
 refine JL.done hQ ?_
 refine JQ.go ?_
 refine JC.seq ?_
 refine JC.region (by rfl) ?_
 intro hQ
 refine JL.fieldAddr fo_49_0 rfl .none rfl ?_
 refine JL.loadOwn 0 az_3 rfl rfl rfl .none rfl ?_
 refine JL.fieldAddr fo_49_1 rfl .none rfl ?_
 refine JL.loadOwn 0 az_3 rfl rfl rfl .none rfl ?_
 obtain ⟨y2, hy2, hF⟩ := bind_some hF
 refine JL.callS (c_ref01_Within n H s.Low 1 s.High y2 hy2) rfl en_47 .none rfl ?_
 refine JL.move .none rfl ?_
 refine JL.cut 4 (fun f => f 1 = .pointer (some ⟨b1, 0, none⟩) ∧ f 12 = .bool (y2 && (decide (s.High ≤ 2000)))) ?_ ?_
 ·intro hJ3
  rcases bcases y2 with hc4 | hc4
  ·skip
   refine JL.fieldAddr fo_49_1 rfl (.some rfl rfl rfl hc4) rfl ?_
   refine JL.loadOwn 0 az_3 rfl rfl rfl (.some rfl rfl rfl hc4) rfl ?_
   refine JL.bin rfl rfl rfl (.some rfl rfl rfl hc4) rfl ?_
   refine JL.pick_t (b := y2) rfl hc4 .none rfl ?_
   exact hJ3 _ ⟨rfl, and_t hc4 rfl⟩
  ·skip
   refine JL.skip (.bool rfl rfl rfl hc4) rfl ?_
   refine JL.skip (.bool rfl rfl rfl hc4) rfl ?_
   refine JL.skip (.bool rfl rfl rfl hc4) rfl ?_
   refine JL.pick_f (b := y2) rfl hc4 .none rfl ?_
   exact hJ3 _ ⟨rfl, and_f hc4 rfl⟩
 ·rintro f ⟨hf1, hf12⟩
  refine (JL.norm (i := 1) hf1 (JL.norm (i := 12) hf12 ?_))
  refine JL.move .none rfl ?_
  refine JL.cut 7 (fun f => f 20 = .bool ((y2 && (decide (s.High ≤ 2000))) && (decide ((w64 (s.High - s.Low)) ≤ 6)))) ?_ ?_
  ·intro hJ5
   rcases bcases (y2 && (decide (s.High ≤ 2000))) with hc6 | hc6
   ·skip
    refine JL.fieldAddr fo_49_1 rfl (.some rfl rfl rfl hc6) rfl ?_
    refine JL.loadOwn 0 az_3 rfl rfl rfl (.some rfl rfl rfl hc6) rfl ?_
    refine JL.fieldAddr fo_49_0 rfl (.some rfl rfl rfl hc6) rfl ?_
    refine JL.loadOwn 0 az_3 rfl rfl rfl (.some rfl rfl rfl hc6) rfl ?_
    refine JL.bin rfl rfl rfl (.some rfl rfl rfl hc6) rfl ?_
    refine JL.bin rfl rfl rfl (.some rfl rfl rfl hc6) rfl ?_
    refine JL.pick_t (b := (y2 && (decide (s.High ≤ 2000)))) rfl hc6 .none rfl ?_
    exact hJ5 _ (and_t hc6 rfl)
   ·skip
    refine JL.skip (.bool rfl rfl rfl hc6) rfl ?_
    refine JL.skip (.bool rfl rfl rfl hc6) rfl ?_
    refine JL.skip (.bool rfl rfl rfl hc6) rfl ?_
    refine JL.skip (.bool rfl rfl rfl hc6) rfl ?_
    refine JL.skip (.bool rfl rfl rfl hc6) rfl ?_
    refine JL.skip (.bool rfl rfl rfl hc6) rfl ?_
    refine JL.pick_f (b := (y2 && (decide (s.High ≤ 2000)))) rfl hc6 .none rfl ?_
    exact hJ5 _ (and_f hc6 rfl)
  ·rintro f hf20
   refine (JL.norm (i := 20) hf20 ?_)
   refine JL.assign .none rfl ?_
   refine JL.done hQ ?_
   refine JQ.go ?_
   refine JC.ret ?_
   obtain rfl := Option.some.inj hF
   exact JQ.outS rfl (.tmp .nil) rfl

-- 78 ferrule/ferruleref01.isShare
def F_ref01_isShare (n : Nat) (x_ : Frac) : Option Bool :=
 (F_ref01_Within n x_.Den 1 20).bind fun y2 => (if y2 = true then ((F_ref01_Within n x_.Num 0 x_.Den).bind fun y7 => some y7) else (some false) : Option Bool).bind fun p4 => some p4
set_option maxRecDepth 100000 in
set_option maxHeartbeats 40000000 in
theorem c_ref01_isShare (n : Nat) (H : Hp) (x_ : Frac) (y : Bool) (hF : F_ref01_isShare n x_ = some y) : SC Try.prog 78 [.agg [.int .i64 x_.Num, .int .i64 x_.Den].toArray] (.bool y) H := by
 rw [F_ref01_isShare] at hF
 refine SC.of (N := 13) Try.func78 rfl rfl rfl fun w => ?_
 refine JC.seq ?_
 refine JC.region (by rfl) ?_
 intro hQ
 refine JL.box (cs := [.int .i64 x_.Num, .int .i64 x_.Den]) rfl .none rfl ?_
 intro b1
 refine JL.assign .none rfl ?_
 refine JL.done hQ ?_
 refine JQ.go ?_
 refine JC.seq ?_
 refine JC.region (by rfl) ?_
 intro hQ
 refine JL.fieldAddr fo_24_1 rfl .none rfl ?_
 refine JL.loadOwn 0 az_3 rfl rfl rfl .none rfl ?_
 obtain ⟨y2, hy2, hF⟩ := bind_some hF
 refine JL.callS (c_ref01_Within n H x_.Den 1 20 y2 hy2) rfl en_47 .none rfl ?_
 refine JL.move .none rfl ?_
 obtain ⟨p4, hp4, hF⟩ := bind_some hF
 refine JL.cut 6 (fun f => f 12 = .bool p4) ?_ ?_
 ·intro hJ5
  rcases ite_some hp4 with ⟨hc6, hF⟩ | ⟨hc6, hF⟩
  ·skip
   refine JL.fieldAddr fo_24_0 rfl (.some rfl rfl rfl hc6) rfl ?_
   refine JL.loadOwn 0 az_3 rfl rfl rfl (.some rfl rfl rfl hc6) rfl ?_
   refine JL.fieldAddr fo_24_1 rfl (.some rfl rfl rfl hc6) rfl ?_
   refine JL.loadOwn 0 az_3 rfl rfl rfl (.some rfl rfl rfl hc6) rfl ?_
   obtain ⟨y7, hy7, hF⟩ := bind_some hF
   refine JL.callS (c_ref01_Within n H x_.Num 0 x_.Den y7 hy7) rfl en_47 (.some rfl rfl rfl hc6) rfl ?_
   refine JL.pick_t (b := y2) rfl hc6 .none rfl ?_
   obtain rfl := Option.some.inj hF
   exact hJ5 _ (rfl)
  ·skip
   refine JL.skip (.bool rfl rfl rfl hc6) rfl ?_
   refine JL.skip (.bool rfl rfl rfl hc6) rfl ?_
   refine JL.skip (.bool rfl rfl rfl hc6) rfl ?_
   refine JL.skip (.bool rfl rfl rfl hc6) rfl ?_
   refine JL.skip (.bool rfl rfl rfl hc6) rfl ?_
   refine JL.pick_f (b := y2) rfl hc6 .none rfl ?_
   obtain rfl := Option.some.inj hF
   exact hJ5 _ (rfl)
 ·rintro f hf12
  refine (JL.norm (i := 12) hf12 ?_)
  refine JL.assign .none rfl ?_
  refine JL.done hQ ?_
  refine JQ.go ?_
  refine JC.ret ?_
  obtain rfl := Option.some.inj hF
  exact JQ.outS rfl (.tmp .nil) rfl

-- 63 ferrule/ferruleref01.Check
def F_ref01_Check_s1 (n : Nat) (f_ : Frame) : Int → Option (Int ⊕ (Int ⊕ Unit))
 | i_136 => if decide (i_136 < (f_.Sections.length : Int)) = true then ((geti f_.Sections i_136).bind fun y141 => (F_ref01_isLong n y141.Arm).bind fun y147 => (if (!y147) = true then (some true) else ((F_ref01_isLong n y141.Stretch).bind fun y152 => some (!y152)) : Option Bool).bind fun p149 => (if p149 = true then (some true) else ((F_ref01_Within n y141.Base 0 2000).bind fun y157 => some (!y157)) : Option Bool).bind fun p154 => (if p154 = true then (some true) else ((F_ref01_isShare n y141.Gear).bind fun y162 => some (!y162)) : Option Bool).bind fun p159 => if p159 = true then (some (Sum.inr (Sum.inl 10))) else (some (Sum.inl (w64 (i_136 + 1))))) else (some (Sum.inr (Sum.inr ())))
def F_ref01_Check (n : Nat) (f_ : Frame) : Option Int :=
 (loopO n (F_ref01_Check_s1 n f_) 0).bind fun r83 => match r83 with | .inl o => some o | .inr _ => (F_ref01_Within n (f_.Sections.length : Int) 1 3).bind fun y164 => (if (!y164) = true then (some true) else ((F_ref01_Within n f_.Low 1 f_.High).bind fun y169 => some (!y169)) : Option Bool).bind fun p166 => (if ((p166 || (decide (2000 < f_.High))) || (decide (200 < (w64 (f_.High - f_.Low))))) = true then (some true) else ((F_ref01_isShare n f_.Ease).bind fun y178 => some (!y178)) : Option Bool).bind fun p175 => (if p175 = true then (some true) else ((F_ref01_Within n f_.Rod 0 4000).bind fun y183 => some (!y183)) : Option Bool).bind fun p180 => (if p180 = true then (some true) else ((F_ref01_Within n f_.Case 0 4000).bind fun y188 => some (!y188)) : Option Bool).bind fun p185 => if p185 = true then (some 10) else (some 0)
set_option maxRecDepth 100000 in
set_option maxHeartbeats 40000000 in
theorem c_ref01_Check (n : Nat) (H : Hp) (f_ : Frame) (f__v0 : Value) (hf__0 : SL H 7 R_Section f__v0 f_.Sections) (y : Int) (hF : F_ref01_Check n f_ = some y) : SC Try.prog 63 [.agg [f__v0, .int .i64 f_.Low, .int .i64 f_.High, .int .i64 f_.Ease.Num, .int .i64 f_.Ease.Den, .int .i64 f_.Rod, .int .i64 f_.Case].toArray] (.int .i64 y) H := by
 rw [F_ref01_Check] at hF
 refine SC.of (N := 83) Try.func63 rfl rfl rfl fun w => ?_
 refine JC.seq ?_
 refine JC.region (by rfl) ?_
 intro hQ
 refine JL.box (cs := [f__v0, .int .i64 f_.Low, .int .i64 f_.High, .int .i64 f_.Ease.Num, .int .i64 f_.Ease.Den, .int .i64 f_.Rod, .int .i64 f_.Case]) rfl .none rfl ?_
 intro b1
 refine JL.assign .none rfl ?_
 refine JL.done hQ ?_
 refine JQ.go ?_
 refine JC.seq ?_
 refine JC.seq ?_
 refine JC.region (by rfl) ?_
 intro hQ
 refine JL.assign .none rfl ?_
 refine JL.done hQ ?_
 refine JQ.go ?_
 obtain ⟨r83, hlr83, hKr83⟩ := bind_some hF
 refine JC.join (fun (_ : Unit) H82 f bs gs => f 1 = .pointer (some ⟨b1, 0, none⟩) ∧ bs = [(b1, .cells [f__v0, .int .i64 f_.Low, .int .i64 f_.High, .int .i64 f_.Ease.Num, .int .i64 f_.Ease.Den, .int .i64 f_.Rod, .int .i64 f_.Case].toArray 26)] ∧ gs = [] ∧ HSub H H82 ∧ Sum.inr () = r83) ?_ ?_
 ·skip
  refine JC.block ?_
  refine JC.loop hlr83 (fun (i_136 : Int) H137 f bs gs => f 1 = .pointer (some ⟨b1, 0, none⟩) ∧ f 3 = .int .i64 i_136 ∧ bs = [(b1, .cells [f__v0, .int .i64 f_.Low, .int .i64 f_.High, .int .i64 f_.Ease.Num, .int .i64 f_.Ease.Den, .int .i64 f_.Rod, .int .i64 f_.Case].toArray 26)] ∧ gs = [] ∧ HSub H H137) ⟨rfl, rfl, rfl, rfl, (HSub.refl _)⟩ ?_
  rintro i_136 x139 H137 f bs gs ⟨hf1, hf3, rfl, rfl, hs137⟩ hF hr138
  rw [F_ref01_Check_s1] at hF
  refine (JC.norm (i := 1) hf1 (JC.norm (i := 3) hf3 ?_))
  refine JC.seq ?_
  refine JC.seq ?_
  refine JC.region (by rfl) ?_
  intro hQ
  refine JL.move .none rfl ?_
  refine JL.fieldAddr fo_26_0 rfl .none rfl ?_
  refine JL.loadOwn 0 az_22 rfl rfl rfl .none rfl ?_
  refine JL.lenSL (R := R_Section) ul_22 (SL.mono R_Section_mono hs137 hf__0) .none rfl ?_
  refine JL.bin rfl rfl rfl .none rfl ?_
  refine JL.done hQ ?_
  refine JQ.go ?_
  rcases ite_some hF with ⟨hc140, hF⟩ | ⟨hc140, hF⟩
  ·refine JC.cond_t (b := decide (i_136 < (f_.Sections.length : Int))) rfl hc140 ?_
   refine JC.skip ?_
   refine JQ.go ?_
   refine JC.seq ?_
   refine JC.block ?_
   refine JC.seq ?_
   refine JC.region (by rfl) ?_
   intro hQ
   refine JL.fieldAddr fo_26_0 rfl .none rfl ?_
   refine JL.loadOwn 0 az_22 rfl rfl rfl .none rfl ?_
   refine JL.move .none rfl ?_
   obtain ⟨y141, hy141, hF⟩ := bind_some hF
   refine JL.indexSL (R := R_Section) sl_22 (SL.mono R_Section_mono hs137 hf__0) rfl hy141 .none rfl ?_
   rintro b142 o143 cs144 hc145 - rfl
   refine JL.loadH 0 az_129 rfl hc145 rfl .none rfl ?_
   refine JL.alloc ze_129 .none rfl ?_
   intro b146
   refine JL.storeOwn 0 (cs := [.int .i64 y141.Arm.Low, .int .i64 y141.Arm.High, .int .i64 y141.Stretch.Low, .int .i64 y141.Stretch.High, .int .i64 y141.Base, .int .i64 y141.Gear.Num, .int .i64 y141.Gear.Den]) az_129 rfl rfl rfl (one_cons rfl (one_cons rfl (one_cons rfl (one_cons rfl (one_cons rfl (one_cons rfl (one_cons rfl one_nil))))))) rfl rfl .none ?_
   refine JL.done hQ ?_
   refine JQ.go ?_
   refine JC.seq ?_
   refine JC.region (by rfl) ?_
   intro hQ
   refine JL.fieldAddr fo_129_0 rfl .none rfl ?_
   refine JL.loadOwn 0 az_49 rfl rfl rfl .none rfl ?_
   obtain ⟨y147, hy147, hF⟩ := bind_some hF
   refine JL.callS (c_ref01_isLong n H137 y141.Arm y147 hy147) rfl en_77 .none rfl ?_
   refine JL.not rfl .none rfl ?_
   refine JL.move .none rfl ?_
   obtain ⟨p149, hp149, hF⟩ := bind_some hF
   refine JL.cut 5 (fun f => f 1 = .pointer (some ⟨b1, 0, none⟩) ∧ f 3 = .int .i64 i_136 ∧ f 4 = .pointer (some ⟨b146, 0, none⟩) ∧ f 26 = .bool p149) ?_ ?_
   ·intro hJ150
    rcases ite_some hp149 with ⟨hc151, hF⟩ | ⟨hc151, hF⟩
    ·skip
     refine JL.skip (.bool rfl rfl rfl hc151) rfl ?_
     refine JL.skip (.bool rfl rfl rfl hc151) rfl ?_
     refine JL.skip (.bool rfl rfl rfl hc151) rfl ?_
     refine JL.skip (.bool rfl rfl rfl hc151) rfl ?_
     refine JL.pick_t (b := (!y147)) rfl hc151 .none rfl ?_
     obtain rfl := Option.some.inj hF
     exact hJ150 _ ⟨rfl, rfl, rfl, rfl⟩
    ·skip
     refine JL.fieldAddr fo_129_1 rfl (.some rfl rfl rfl hc151) rfl ?_
     refine JL.loadOwn 0 az_49 rfl rfl rfl (.some rfl rfl rfl hc151) rfl ?_
     obtain ⟨y152, hy152, hF⟩ := bind_some hF
     refine JL.callS (c_ref01_isLong n H137 y141.Stretch y152 hy152) rfl en_77 (.some rfl rfl rfl hc151) rfl ?_
     refine JL.not rfl (.some rfl rfl rfl hc151) rfl ?_
     refine JL.pick_f (b := (!y147)) rfl hc151 .none rfl ?_
     obtain rfl := Option.some.inj hF
     exact hJ150 _ ⟨rfl, rfl, rfl, rfl⟩
   ·rintro f ⟨hf1, hf3, hf4, hf26⟩
    refine (JL.norm (i := 1) hf1 (JL.norm (i := 3) hf3 (JL.norm (i := 4) hf4 (JL.norm (i := 26) hf26 ?_))))
    refine JL.move .none rfl ?_
    obtain ⟨p154, hp154, hF⟩ := bind_some hF
    refine JL.cut 5 (fun f => f 1 = .pointer (some ⟨b1, 0, none⟩) ∧ f 3 = .int .i64 i_136 ∧ f 4 = .pointer (some ⟨b146, 0, none⟩) ∧ f 32 = .bool p154) ?_ ?_
    ·intro hJ155
     rcases ite_some hp154 with ⟨hc156, hF⟩ | ⟨hc156, hF⟩
     ·skip
      refine JL.skip (.bool rfl rfl rfl hc156) rfl ?_
      refine JL.skip (.bool rfl rfl rfl hc156) rfl ?_
      refine JL.skip (.bool rfl rfl rfl hc156) rfl ?_
      refine JL.skip (.bool rfl rfl rfl hc156) rfl ?_
      refine JL.pick_t (b := p149) rfl hc156 .none rfl ?_
      obtain rfl := Option.some.inj hF
      exact hJ155 _ ⟨rfl, rfl, rfl, rfl⟩
     ·skip
      refine JL.fieldAddr fo_129_2 rfl (.some rfl rfl rfl hc156) rfl ?_
      refine JL.loadOwn 0 az_3 rfl rfl rfl (.some rfl rfl rfl hc156) rfl ?_
      obtain ⟨y157, hy157, hF⟩ := bind_some hF
      refine JL.callS (c_ref01_Within n H137 y141.Base 0 2000 y157 hy157) rfl en_47 (.some rfl rfl rfl hc156) rfl ?_
      refine JL.not rfl (.some rfl rfl rfl hc156) rfl ?_
      refine JL.pick_f (b := p149) rfl hc156 .none rfl ?_
      obtain rfl := Option.some.inj hF
      exact hJ155 _ ⟨rfl, rfl, rfl, rfl⟩
    ·rintro f ⟨hf1, hf3, hf4, hf32⟩
     refine (JL.norm (i := 1) hf1 (JL.norm (i := 3) hf3 (JL.norm (i := 4) hf4 (JL.norm (i := 32) hf32 ?_))))
     refine JL.move .none rfl ?_
     obtain ⟨p159, hp159, hF⟩ := bind_some hF
     refine JL.cut 5 (fun f => f 1 = .pointer (some ⟨b1, 0, none⟩) ∧ f 3 = .int .i64 i_136 ∧ f 38 = .bool p159) ?_ ?_
     ·intro hJ160
      rcases ite_some hp159 with ⟨hc161, hF⟩ | ⟨hc161, hF⟩
      ·skip
       refine JL.skip (.bool rfl rfl rfl hc161) rfl ?_
       refine JL.skip (.bool rfl rfl rfl hc161) rfl ?_
       refine JL.skip (.bool rfl rfl rfl hc161) rfl ?_
       refine JL.skip (.bool rfl rfl rfl hc161) rfl ?_
       refine JL.pick_t (b := p154) rfl hc161 .none rfl ?_
       obtain rfl := Option.some.inj hF
       exact hJ160 _ ⟨rfl, rfl, rfl⟩
      ·skip
       refine JL.fieldAddr fo_129_3 rfl (.some rfl rfl rfl hc161) rfl ?_
       refine JL.loadOwn 0 az_24 rfl rfl rfl (.some rfl rfl rfl hc161) rfl ?_
       obtain ⟨y162, hy162, hF⟩ := bind_some hF
       refine JL.callS (c_ref01_isShare n H137 y141.Gear y162 hy162) rfl en_78 (.some rfl rfl rfl hc161) rfl ?_
       refine JL.not rfl (.some rfl rfl rfl hc161) rfl ?_
       refine JL.pick_f (b := p154) rfl hc161 .none rfl ?_
       obtain rfl := Option.some.inj hF
       exact hJ160 _ ⟨rfl, rfl, rfl⟩
     ·rintro f ⟨hf1, hf3, hf38⟩
      refine (JL.norm (i := 1) hf1 (JL.norm (i := 3) hf3 (JL.norm (i := 38) hf38 ?_)))
      refine JL.done hQ ?_
      refine JQ.go ?_
      rcases ite_some hF with ⟨hc163, hF⟩ | ⟨hc163, hF⟩
      ·refine JC.cond_t (b := p159) rfl hc163 ?_
       refine JC.seq ?_
       refine JC.region (by rfl) ?_
       intro hQ
       refine JL.assign .none rfl ?_
       refine JL.done hQ ?_
       refine JQ.go ?_
       refine JC.ret ?_
       refine JQ.ret_block ?_
       refine JQ.ret_then ?_
       refine JQ.ret_then ?_
       refine JQ.ret_block ?_
       refine JQ.ret_join ?_
       refine JQ.ret_then ?_
       obtain rfl := Option.some.inj hF
       have ehr138 := hr138 _ rfl
       subst ehr138
       have hF := hKr83
       try dsimp only at hF
       obtain rfl := Option.some.inj hF
       exact JQ.outS rfl (.tmp .nil) rfl
      ·refine JC.cond_f (b := p159) rfl hc163 ?_
       refine JC.skip ?_
       refine JQ.normal_block ?_
       refine JQ.go ?_
       refine JC.region (by rfl) ?_
       intro hQ
       refine JL.move .none rfl ?_
       refine JL.bin rfl rfl rfl .none rfl ?_
       refine JL.assign .none rfl ?_
       refine JL.done hQ ?_
       obtain rfl := Option.some.inj hF
       refine JQ.mask [false, true] [] ?_
       exact JQ.next rfl ⟨rfl, rfl, rfl, rfl, hs137⟩
  ·refine JC.cond_f (b := decide (i_136 < (f_.Sections.length : Int))) rfl hc140 ?_
   refine JC.exit ?_
   refine JQ.exit_then ?_
   refine JQ.exit_then ?_
   refine JQ.exit_block ?_
   obtain rfl := Option.some.inj hF
   have ehr138 := hr138 _ rfl
   subst ehr138
   exact JQ.join () ⟨rfl, rfl, rfl, hs137, rfl⟩
 ·rintro _ H82 f bs gs ⟨hf1, rfl, rfl, hs82, rfl⟩
  have hF := hKr83
  try dsimp only at hF
  refine (JQ.norm (i := 1) hf1 ?_)
  refine JQ.go ?_
  refine JC.seq ?_
  refine JC.seq ?_
  refine JC.region (by rfl) ?_
  intro hQ
  refine JL.fieldAddr fo_26_0 rfl .none rfl ?_
  refine JL.loadOwn 0 az_22 rfl rfl rfl .none rfl ?_
  refine JL.lenSL (R := R_Section) ul_22 (SL.mono R_Section_mono hs82 hf__0) .none rfl ?_
  obtain ⟨y164, hy164, hF⟩ := bind_some hF
  refine JL.callS (c_ref01_Within n H82 (f_.Sections.length : Int) 1 3 y164 hy164) rfl en_47 .none rfl ?_
  refine JL.not rfl .none rfl ?_
  refine JL.move .none rfl ?_
  obtain ⟨p166, hp166, hF⟩ := bind_some hF
  refine JL.cut 7 (fun f => f 1 = .pointer (some ⟨b1, 0, none⟩) ∧ f 51 = .bool p166) ?_ ?_
  ·intro hJ167
   rcases ite_some hp166 with ⟨hc168, hF⟩ | ⟨hc168, hF⟩
   ·skip
    refine JL.skip (.bool rfl rfl rfl hc168) rfl ?_
    refine JL.skip (.bool rfl rfl rfl hc168) rfl ?_
    refine JL.skip (.bool rfl rfl rfl hc168) rfl ?_
    refine JL.skip (.bool rfl rfl rfl hc168) rfl ?_
    refine JL.skip (.bool rfl rfl rfl hc168) rfl ?_
    refine JL.skip (.bool rfl rfl rfl hc168) rfl ?_
    refine JL.pick_t (b := (!y164)) rfl hc168 .none rfl ?_
    obtain rfl := Option.some.inj hF
    exact hJ167 _ ⟨rfl, rfl⟩
   ·skip
    refine JL.fieldAddr fo_26_1 rfl (.some rfl rfl rfl hc168) rfl ?_
    refine JL.loadOwn 0 az_3 rfl rfl rfl (.some rfl rfl rfl hc168) rfl ?_
    refine JL.fieldAddr fo_26_2 rfl (.some rfl rfl rfl hc168) rfl ?_
    refine JL.loadOwn 0 az_3 rfl rfl rfl (.some rfl rfl rfl hc168) rfl ?_
    obtain ⟨y169, hy169, hF⟩ := bind_some hF
    refine JL.callS (c_ref01_Within n H82 f_.Low 1 f_.High y169 hy169) rfl en_47 (.some rfl rfl rfl hc168) rfl ?_
    refine JL.not rfl (.some rfl rfl rfl hc168) rfl ?_
    refine JL.pick_f (b := (!y164)) rfl hc168 .none rfl ?_
    obtain rfl := Option.some.inj hF
    exact hJ167 _ ⟨rfl, rfl⟩
  ·rintro f ⟨hf1, hf51⟩
   refine (JL.norm (i := 1) hf1 (JL.norm (i := 51) hf51 ?_))
   refine JL.move .none rfl ?_
   refine JL.cut 4 (fun f => f 1 = .pointer (some ⟨b1, 0, none⟩) ∧ f 56 = .bool (p166 || (decide (2000 < f_.High)))) ?_ ?_
   ·intro hJ170
    rcases bcases p166 with hc171 | hc171
    ·skip
     refine JL.skip (.bool rfl rfl rfl hc171) rfl ?_
     refine JL.skip (.bool rfl rfl rfl hc171) rfl ?_
     refine JL.skip (.bool rfl rfl rfl hc171) rfl ?_
     refine JL.pick_t (b := p166) rfl hc171 .none rfl ?_
     exact hJ170 _ ⟨rfl, or_t hc171 rfl⟩
    ·skip
     refine JL.fieldAddr fo_26_2 rfl (.some rfl rfl rfl hc171) rfl ?_
     refine JL.loadOwn 0 az_3 rfl rfl rfl (.some rfl rfl rfl hc171) rfl ?_
     refine JL.bin rfl rfl rfl (.some rfl rfl rfl hc171) rfl ?_
     refine JL.pick_f (b := p166) rfl hc171 .none rfl ?_
     exact hJ170 _ ⟨rfl, or_f hc171 rfl⟩
   ·rintro f ⟨hf1, hf56⟩
    refine (JL.norm (i := 1) hf1 (JL.norm (i := 56) hf56 ?_))
    refine JL.move .none rfl ?_
    refine JL.cut 7 (fun f => f 1 = .pointer (some ⟨b1, 0, none⟩) ∧ f 64 = .bool ((p166 || (decide (2000 < f_.High))) || (decide (200 < (w64 (f_.High - f_.Low)))))) ?_ ?_
    ·intro hJ172
     rcases bcases (p166 || (decide (2000 < f_.High))) with hc173 | hc173
     ·skip
      refine JL.skip (.bool rfl rfl rfl hc173) rfl ?_
      refine JL.skip (.bool rfl rfl rfl hc173) rfl ?_
      refine JL.skip (.bool rfl rfl rfl hc173) rfl ?_
      refine JL.skip (.bool rfl rfl rfl hc173) rfl ?_
      refine JL.skip (.bool rfl rfl rfl hc173) rfl ?_
      refine JL.skip (.bool rfl rfl rfl hc173) rfl ?_
      refine JL.pick_t (b := (p166 || (decide (2000 < f_.High)))) rfl hc173 .none rfl ?_
      exact hJ172 _ ⟨rfl, or_t hc173 rfl⟩
     ·skip
      refine JL.fieldAddr fo_26_2 rfl (.some rfl rfl rfl hc173) rfl ?_
      refine JL.loadOwn 0 az_3 rfl rfl rfl (.some rfl rfl rfl hc173) rfl ?_
      refine JL.fieldAddr fo_26_1 rfl (.some rfl rfl rfl hc173) rfl ?_
      refine JL.loadOwn 0 az_3 rfl rfl rfl (.some rfl rfl rfl hc173) rfl ?_
      refine JL.bin rfl rfl rfl (.some rfl rfl rfl hc173) rfl ?_
      refine JL.bin rfl rfl rfl (.some rfl rfl rfl hc173) rfl ?_
      refine JL.pick_f (b := (p166 || (decide (2000 < f_.High)))) rfl hc173 .none rfl ?_
      exact hJ172 _ ⟨rfl, or_f hc173 rfl⟩
    ·rintro f ⟨hf1, hf64⟩
     refine (JL.norm (i := 1) hf1 (JL.norm (i := 64) hf64 ?_))
     refine JL.move .none rfl ?_
     obtain ⟨p175, hp175, hF⟩ := bind_some hF
     refine JL.cut 5 (fun f => f 1 = .pointer (some ⟨b1, 0, none⟩) ∧ f 70 = .bool p175) ?_ ?_
     ·intro hJ176
      rcases ite_some hp175 with ⟨hc177, hF⟩ | ⟨hc177, hF⟩
      ·skip
       refine JL.skip (.bool rfl rfl rfl hc177) rfl ?_
       refine JL.skip (.bool rfl rfl rfl hc177) rfl ?_
       refine JL.skip (.bool rfl rfl rfl hc177) rfl ?_
       refine JL.skip (.bool rfl rfl rfl hc177) rfl ?_
       refine JL.pick_t (b := ((p166 || (decide (2000 < f_.High))) || (decide (200 < (w64 (f_.High - f_.Low)))))) rfl hc177 .none rfl ?_
       obtain rfl := Option.some.inj hF
       exact hJ176 _ ⟨rfl, rfl⟩
      ·skip
       refine JL.fieldAddr fo_26_3 rfl (.some rfl rfl rfl hc177) rfl ?_
       refine JL.loadOwn 0 az_24 rfl rfl rfl (.some rfl rfl rfl hc177) rfl ?_
       obtain ⟨y178, hy178, hF⟩ := bind_some hF
       refine JL.callS (c_ref01_isShare n H82 f_.Ease y178 hy178) rfl en_78 (.some rfl rfl rfl hc177) rfl ?_
       refine JL.not rfl (.some rfl rfl rfl hc177) rfl ?_
       refine JL.pick_f (b := ((p166 || (decide (2000 < f_.High))) || (decide (200 < (w64 (f_.High - f_.Low)))))) rfl hc177 .none rfl ?_
       obtain rfl := Option.some.inj hF
       exact hJ176 _ ⟨rfl, rfl⟩
     ·rintro f ⟨hf1, hf70⟩
      refine (JL.norm (i := 1) hf1 (JL.norm (i := 70) hf70 ?_))
      refine JL.move .none rfl ?_
      obtain ⟨p180, hp180, hF⟩ := bind_some hF
      refine JL.cut 5 (fun f => f 1 = .pointer (some ⟨b1, 0, none⟩) ∧ f 76 = .bool p180) ?_ ?_
      ·intro hJ181
       rcases ite_some hp180 with ⟨hc182, hF⟩ | ⟨hc182, hF⟩
       ·skip
        refine JL.skip (.bool rfl rfl rfl hc182) rfl ?_
        refine JL.skip (.bool rfl rfl rfl hc182) rfl ?_
        refine JL.skip (.bool rfl rfl rfl hc182) rfl ?_
        refine JL.skip (.bool rfl rfl rfl hc182) rfl ?_
        refine JL.pick_t (b := p175) rfl hc182 .none rfl ?_
        obtain rfl := Option.some.inj hF
        exact hJ181 _ ⟨rfl, rfl⟩
       ·skip
        refine JL.fieldAddr fo_26_4 rfl (.some rfl rfl rfl hc182) rfl ?_
        refine JL.loadOwn 0 az_3 rfl rfl rfl (.some rfl rfl rfl hc182) rfl ?_
        obtain ⟨y183, hy183, hF⟩ := bind_some hF
        refine JL.callS (c_ref01_Within n H82 f_.Rod 0 4000 y183 hy183) rfl en_47 (.some rfl rfl rfl hc182) rfl ?_
        refine JL.not rfl (.some rfl rfl rfl hc182) rfl ?_
        refine JL.pick_f (b := p175) rfl hc182 .none rfl ?_
        obtain rfl := Option.some.inj hF
        exact hJ181 _ ⟨rfl, rfl⟩
      ·rintro f ⟨hf1, hf76⟩
       refine (JL.norm (i := 1) hf1 (JL.norm (i := 76) hf76 ?_))
       refine JL.move .none rfl ?_
       obtain ⟨p185, hp185, hF⟩ := bind_some hF
       refine JL.cut 5 (fun f => f 82 = .bool p185) ?_ ?_
       ·intro hJ186
        rcases ite_some hp185 with ⟨hc187, hF⟩ | ⟨hc187, hF⟩
        ·skip
         refine JL.skip (.bool rfl rfl rfl hc187) rfl ?_
         refine JL.skip (.bool rfl rfl rfl hc187) rfl ?_
         refine JL.skip (.bool rfl rfl rfl hc187) rfl ?_
         refine JL.skip (.bool rfl rfl rfl hc187) rfl ?_
         refine JL.pick_t (b := p180) rfl hc187 .none rfl ?_
         obtain rfl := Option.some.inj hF
         exact hJ186 _ (rfl)
        ·skip
         refine JL.fieldAddr fo_26_5 rfl (.some rfl rfl rfl hc187) rfl ?_
         refine JL.loadOwn 0 az_3 rfl rfl rfl (.some rfl rfl rfl hc187) rfl ?_
         obtain ⟨y188, hy188, hF⟩ := bind_some hF
         refine JL.callS (c_ref01_Within n H82 f_.Case 0 4000 y188 hy188) rfl en_47 (.some rfl rfl rfl hc187) rfl ?_
         refine JL.not rfl (.some rfl rfl rfl hc187) rfl ?_
         refine JL.pick_f (b := p180) rfl hc187 .none rfl ?_
         obtain rfl := Option.some.inj hF
         exact hJ186 _ (rfl)
       ·rintro f hf82
        refine (JL.norm (i := 82) hf82 ?_)
        refine JL.done hQ ?_
        refine JQ.go ?_
        rcases ite_some hF with ⟨hc189, hF⟩ | ⟨hc189, hF⟩
        ·refine JC.cond_t (b := p185) rfl hc189 ?_
         refine JC.seq ?_
         refine JC.region (by rfl) ?_
         intro hQ
         refine JL.assign .none rfl ?_
         refine JL.done hQ ?_
         refine JQ.go ?_
         refine JC.ret ?_
         refine JQ.ret_then ?_
         obtain rfl := Option.some.inj hF
         exact JQ.outS rfl (.tmp .nil) rfl
        ·refine JC.cond_f (b := p185) rfl hc189 ?_
         refine JC.skip ?_
         refine JQ.go ?_
         refine JC.seq ?_
         refine JC.region (by rfl) ?_
         intro hQ
         refine JL.assign .none rfl ?_
         refine JL.done hQ ?_
         refine JQ.go ?_
         refine JC.ret ?_
         obtain rfl := Option.some.inj hF
         exact JQ.outS rfl (.tmp .nil) rfl

-- 27 ferrule/ferruleref05.within
def F_ref05_within (n : Nat) (n_ : Int) (low : Int) (high : Int) : Option Bool :=
 (F_ref01_Within n n_ low high).bind fun y1 => some y1
set_option maxRecDepth 100000 in
set_option maxHeartbeats 40000000 in
theorem c_ref05_within (n : Nat) (H : Hp) (n_ : Int) (low : Int) (high : Int) (y : Bool) (hF : F_ref05_within n n_ low high = some y) : SC Try.prog 27 [.int .i64 n_, .int .i64 low, .int .i64 high] (.bool y) H := by
 rw [F_ref05_within] at hF
 refine SC.of (N := 11) Try.func27 rfl rfl rfl fun w => ?_
 refine JC.seq ?_
 refine JC.region (by rfl) ?_
 intro hQ
 refine JL.assign .none rfl ?_
 refine JL.done hQ ?_
 refine JQ.go ?_
 refine JC.seq ?_
 refine JC.region (by rfl) ?_
 intro hQ
 refine JL.move .none rfl ?_
 refine JL.move .none rfl ?_
 refine JL.move .none rfl ?_
 obtain ⟨y1, hy1, hF⟩ := bind_some hF
 refine JL.callS (c_ref01_Within n H n_ low high y1 hy1) rfl en_47 .none rfl ?_
 refine JL.assign .none rfl ?_
 refine JL.done hQ ?_
 refine JQ.go ?_
 refine JC.ret ?_
 obtain rfl := Option.some.inj hF
 exact JQ.outS rfl (.tmp .nil) rfl

end Go.Proofs.Ytcipdblhopffbaa
end
section
namespace Go.Proofs.Ytcipdblhopffbaa
open Go Go.RowKit Go.Dec
set_option linter.unusedVariables false

theorem mz_az3 : aggsz Try.prog 3 = some (false, 1) := by kernel_rfl
theorem mz_fo61_0 : fieldOff Try.prog 129 0 = some 0 := by kernel_rfl
theorem mz_fo61_1 : fieldOff Try.prog 129 1 = some 2 := by kernel_rfl
theorem mz_fo59_0 : fieldOff Try.prog 49 0 = some 0 := by kernel_rfl
theorem mz_fo59_1 : fieldOff Try.prog 49 1 = some 1 := by kernel_rfl
theorem mz_foB1 : fieldOff Try.prog 85 1 = some 1 := by kernel_rfl
theorem mz_azR : aggsz Try.prog 28 = some (false, 1) := by kernel_rfl
theorem mz_azB : aggsz Try.prog 85 = some (true, 3) := by kernel_rfl
theorem mz_azG : aggsz Try.prog 58 = some (true, 2) := by kernel_rfl
theorem mz_ulR : Try.prog.underlying 28 = some (.slice 3) := by kernel_rfl
theorem mz_slR : slT Try.prog 28 = some (3, 1) := by kernel_rfl
theorem mz_enB : Ent Try.prog 93 := enters_of Try.func93 (by kernel_rfl) rfl

def I_frames_truths_1_s2 {σ ρ : Type} (c_0 : Section) (a : Int) (cs : σ → frames_sides → Option (σ ⊕ ρ)) : Int × σ → Option ((Int × σ) ⊕ (σ ⊕ ρ))
  | (b, s) => if decide (b ≤ c_0.Stretch.High) = true then ((cs s ⟨a, b⟩).bind fun y => match y with | .inl s' => some (.inl (w64 (b + 1), s')) | .inr e => some (.inr (.inr e))) else some (.inr (.inl s))
def I_frames_truths_1_s1 {σ ρ : Type} (n : Nat) (c_0 : Section) (cs : σ → frames_sides → Option (σ ⊕ ρ)) : Int × σ → Option ((Int × σ) ⊕ (σ ⊕ ρ))
  | (a, s) => if decide (a ≤ c_0.Arm.High) = true then ((loopO n (I_frames_truths_1_s2 c_0 a cs) (c_0.Stretch.Low, s)).bind fun y => match y with | .inl s' => some (.inl (w64 (a + 1), s')) | .inr e => some (.inr (.inr e))) else some (.inr (.inl s))
def I_frames_truths_1 {σ ρ : Type} (n : Nat) (c_0 : Section) (cs : σ → frames_sides → Option (σ ⊕ ρ)) (s : σ) : Option (σ ⊕ ρ) :=
  loopO n (I_frames_truths_1_s1 n c_0 cs) (c_0.Arm.Low, s)

set_option maxRecDepth 100000 in
set_option maxHeartbeats 4000000 in
theorem it_frames_truths_1 (n : Nat) (H : Hp) (c_0 : Section) (c_0_b : Nat) (c_0_c : Cells H c_0_b 0 [.int .i64 c_0.Arm.Low, .int .i64 c_0.Arm.High, .int .i64 c_0.Stretch.Low, .int .i64 c_0.Stretch.High, .int .i64 c_0.Base, .int .i64 c_0.Gear.Num, .int .i64 c_0.Gear.Den]) :
    IT Try.prog 95 [.pointer (some ⟨c_0_b, 0, none⟩)] H (VPlain fun (x : frames_sides) => .agg [.int .i64 x.arm, .int .i64 x.stretch].toArray) (fun _ _ cs s => I_frames_truths_1 n c_0 cs s) := by
  refine IT.of (N := 31) Try.func95 rfl rfl rfl rfl fun σ ρ B A Ax cs l s0 y hF hY H1 fr gs Q hs1 hA hout => ?_
  unfold I_frames_truths_1 at hF
  refine JC.seq ?_
  refine JC.region (by rfl) ?_
  intro hQ
  refine JL.fieldAddr mz_fo61_0 rfl .none rfl ?_
  refine JL.fieldAddr mz_fo59_0 rfl .none rfl ?_
  refine JL.loadH 0 mz_az3 rfl (Cells.mono hs1 c_0_c) rfl .none rfl ?_
  refine JL.assign .none rfl ?_
  refine JL.done hQ ?_
  refine JQ.go ?_
  refine JC.block ?_
  refine JC.loop hF (fun (z : Int × σ) Hz f bs gs => match z with | (a, s) => f 0 = .func (.yield l) #[] #[] ∧ f 1 = .pointer (some ⟨c_0_b, 0, none⟩) ∧ f 3 = .int .i64 a ∧ A s Hz bs gs ∧ HSub H1 Hz) ⟨rfl, rfl, rfl, hA, HSub.refl _⟩ ?_
  rintro ⟨a, s⟩ x H2 f bs gs2 ⟨hf0, hf1, hf3, hA2, hs2⟩ hF hr
  rw [I_frames_truths_1_s1] at hF
  refine (JC.norm (i := 0) hf0 (JC.norm (i := 1) hf1 (JC.norm (i := 3) hf3 ?_)))
  refine JC.seq ?_
  refine JC.seq ?_
  refine JC.region (by rfl) ?_
  intro hQ
  refine JL.move .none rfl ?_
  refine JL.fieldAddr mz_fo61_0 rfl .none rfl ?_
  refine JL.fieldAddr mz_fo59_1 rfl .none rfl ?_
  refine JL.loadH 1 mz_az3 rfl (Cells.mono (hs1.trans hs2) c_0_c) rfl .none rfl ?_
  refine JL.bin rfl rfl rfl .none rfl ?_
  refine JL.done hQ ?_
  refine JQ.go ?_
  rcases ite_some hF with ⟨hc, hF⟩ | ⟨hc, hF⟩
  · refine JC.cond_t (b := decide (a ≤ c_0.Arm.High)) rfl hc ?_
    refine JC.skip ?_
    refine JQ.go ?_
    refine JC.seq ?_
    refine JC.block ?_
    refine JC.seq ?_
    refine JC.region (by rfl) ?_
    intro hQ
    refine JL.fieldAddr mz_fo61_1 rfl .none rfl ?_
    refine JL.fieldAddr mz_fo59_0 rfl .none rfl ?_
    refine JL.loadH 2 mz_az3 rfl (Cells.mono (hs1.trans hs2) c_0_c) rfl .none rfl ?_
    refine JL.assign .none rfl ?_
    refine JL.done hQ ?_
    refine JQ.go ?_
    obtain ⟨r1, hl1, hK1⟩ := bind_some hF
    refine JC.join (fun (s' : σ) H3 f bs gs => f 0 = .func (.yield l) #[] #[] ∧ f 1 = .pointer (some ⟨c_0_b, 0, none⟩) ∧ f 3 = .int .i64 a ∧ A s' H3 bs gs ∧ HSub H2 H3 ∧ Sum.inl s' = r1) ?_ ?_
    · refine JC.block ?_
      refine JC.loop hl1 (fun (z : Int × σ) Hz f bs gs => match z with | (b, s) => f 0 = .func (.yield l) #[] #[] ∧ f 1 = .pointer (some ⟨c_0_b, 0, none⟩) ∧ f 3 = .int .i64 a ∧ f 4 = .int .i64 b ∧ A s Hz bs gs ∧ HSub H2 Hz) ⟨rfl, rfl, rfl, rfl, hA2, HSub.refl _⟩ ?_
      rintro ⟨b, s1⟩ x1 H3 f bs3 gs3 ⟨hf0, hf1, hf3, hf4, hA3, hs3⟩ hF hr1
      rw [I_frames_truths_1_s2] at hF
      refine (JC.norm (i := 0) hf0 (JC.norm (i := 1) hf1 (JC.norm (i := 3) hf3 (JC.norm (i := 4) hf4 ?_))))
      refine JC.seq ?_
      refine JC.seq ?_
      refine JC.region (by rfl) ?_
      intro hQ
      refine JL.move .none rfl ?_
      refine JL.fieldAddr mz_fo61_1 rfl .none rfl ?_
      refine JL.fieldAddr mz_fo59_1 rfl .none rfl ?_
      refine JL.loadH 3 mz_az3 rfl (Cells.mono ((hs1.trans hs2).trans hs3) c_0_c) rfl .none rfl ?_
      refine JL.bin rfl rfl rfl .none rfl ?_
      refine JL.done hQ ?_
      refine JQ.go ?_
      rcases ite_some hF with ⟨hc3, hF⟩ | ⟨hc3, hF⟩
      · refine JC.cond_t (b := decide (b ≤ c_0.Stretch.High)) rfl hc3 ?_
        refine JC.skip ?_
        refine JQ.go ?_
        refine JC.seq ?_
        refine JC.block ?_
        refine JC.seq ?_
        obtain ⟨y0, hy0, hF⟩ := bind_some hF
        refine JC.regionY _ 4 rfl rfl (by rfl) ?_
        intro hQ
        refine JL.move .none rfl ?_
        refine JL.move .none rfl ?_
        refine JL.move .none rfl ?_
        refine JL.build (l := [.int .i64 a, .int .i64 b]) (by kernel_rfl) .none rfl ?_
        refine JL.atYield (A := A) (Ax := Ax) (y := y0) (tl := []) hQ (by rfl) rfl rfl rfl rfl (fun w hw => hY s1 ⟨a, b⟩ y0 _ [] [] H3 bs3 gs3 w hA3 hy0 ⟨rfl, rfl⟩ hw) ?_ ?_
        · rintro s' H4 fr4 gs4 rfl hs4 hA4
          refine JL.not rfl .none rfl ?_
          refine JL.done hQ ?_
          refine JQ.go ?_
          refine JC.cond_f (b := !true) rfl rfl ?_
          refine JC.skip ?_
          refine JQ.normal_block ?_
          refine JQ.go ?_
          refine JC.region (by rfl) ?_
          intro hQ
          refine JL.move .none rfl ?_
          refine JL.bin rfl rfl rfl .none rfl ?_
          refine JL.assign .none rfl ?_
          refine JL.done hQ ?_
          obtain rfl := Option.some.inj hF
          exact JQ.next rfl ⟨rfl, rfl, rfl, rfl, hA4, hs3.trans hs4⟩
        · rintro e H4 fr4 gs4 rfl hs4 hA4
          refine JL.not rfl .none rfl ?_
          refine JL.done hQ ?_
          refine JQ.go ?_
          refine JC.cond_t (b := !false) rfl rfl ?_
          refine JC.ret ?_
          refine JQ.ret_block ?_
          refine JQ.ret_then ?_
          refine JQ.ret_then ?_
          refine JQ.ret_block ?_
          refine JQ.ret_join ?_
          refine JQ.ret_block ?_
          refine JQ.ret_then ?_
          refine JQ.ret_then ?_
          refine JQ.ret_block ?_
          obtain rfl := Option.some.inj hF
          have e1 := hr1 _ rfl
          subst e1
          have hF := hK1
          dsimp only at hF
          obtain rfl := Option.some.inj hF
          have e2 := hr _ rfl
          subst e2
          exact (hout H4 _ [] fr4 gs4 ((hs2.trans hs3).trans hs4) hA4).1
      · refine JC.cond_f (b := decide (b ≤ c_0.Stretch.High)) rfl hc3 ?_
        refine JC.exit ?_
        refine JQ.exit_then ?_
        refine JQ.exit_then ?_
        refine JQ.exit_block ?_
        obtain rfl := Option.some.inj hF
        have e1 := hr1 _ rfl
        subst e1
        exact JQ.join s1 ⟨rfl, rfl, rfl, hA3, hs3, rfl⟩
    · rintro s' H3 f bs3 gs3 ⟨hf0, hf1, hf3, hA3, hs3, rfl⟩
      have hF := hK1
      dsimp only at hF
      refine (JQ.norm (i := 0) hf0 (JQ.norm (i := 1) hf1 (JQ.norm (i := 3) hf3 ?_)))
      refine JQ.normal_block ?_
      refine JQ.go ?_
      refine JC.region (by rfl) ?_
      intro hQ
      refine JL.move .none rfl ?_
      refine JL.bin rfl rfl rfl .none rfl ?_
      refine JL.assign .none rfl ?_
      refine JL.done hQ ?_
      obtain rfl := Option.some.inj hF
      exact JQ.next rfl ⟨rfl, rfl, rfl, hA3, hs2.trans hs3⟩
  · refine JC.cond_f (b := decide (a ≤ c_0.Arm.High)) rfl hc ?_
    refine JC.exit ?_
    refine JQ.exit_then ?_
    refine JQ.exit_then ?_
    refine JQ.exit_block ?_
    obtain rfl := Option.some.inj hF
    have e2 := hr _ rfl
    subst e2
    exact (hout H2 _ [] bs gs2 hs2 hA2).2

def I_gusts_blown_rounds_1_s2 (n : Nat) (c_0 : gusts_blown) (c_1 : Gust) (gone : Int) : Int × Int → Option ((Int × Int) ⊕ Int)
  | (next, x) => if decide (x < (c_0.ribs.length : Int)) = true then ((geti c_0.ribs x).bind fun y => (nneg x).bind fun _ => (if ((band .u16 (bshr .u16 gone x) 1) == 0) = true then ((F_gusts_blown_bears n c_0 c_1 x gone).bind fun y2 => some (decide (y < y2))) else (some false) : Option Bool).bind fun p => (if p = true then ((nneg x).bind fun _ => some (bor .u16 next (bshl .u16 1 x))) else (some next)).bind fun next2 => some (Sum.inl (next2, (w64 (x + 1))))) else (some (Sum.inr next))
def I_gusts_blown_rounds_1_s1 {σ ρ : Type} (n : Nat) (c_0 : gusts_blown) (c_1 : Gust) (cs : σ → Int → Option (σ ⊕ ρ)) : Int × σ → Option ((Int × σ) ⊕ (σ ⊕ ρ))
  | (gone, s) => (loopO n (I_gusts_blown_rounds_1_s2 n c_0 c_1 gone) (gone, 0)).bind fun next => if (next == gone) = true then (some (.inr (.inl s))) else ((cs s next).bind fun y => match y with | .inl s' => some (.inl (next, s')) | .inr e => some (.inr (.inr e)))
def I_gusts_blown_rounds_1 {σ ρ : Type} (n : Nat) (c_0 : gusts_blown) (c_1 : Gust) (cs : σ → Int → Option (σ ⊕ ρ)) (s : σ) : Option (σ ⊕ ρ) :=
  loopO n (I_gusts_blown_rounds_1_s1 n c_0 c_1 cs) (0, s)

set_option maxRecDepth 100000 in
set_option maxHeartbeats 40000000 in
theorem it_gusts_blown_rounds_1 (n : Nat) (H : Hp) (c_0 : gusts_blown) (c_0_v1 : Value) (hc_0_1 : SL H 1 RInt c_0_v1 c_0.ribs) (c_0_v2 : Value) (hc_0_2 : SL H 1 RInt c_0_v2 c_0.shares) (c_0_b : Nat) (c_0_c : Cells H c_0_b 0 [.int .i64 c_0.lift, c_0_v1, c_0_v2]) (c_1 : Gust) (c_1_b : Nat) (c_1_c : Cells H c_1_b 0 [.int .i64 c_1.Force, .int .i64 c_1.At]) :
    IT Try.prog 92 [.pointer (some ⟨c_0_b, 0, none⟩), .pointer (some ⟨c_1_b, 0, none⟩)] H (VPlain fun (x : Int) => .int .u16 x) (fun _ _ cs s => I_gusts_blown_rounds_1 n c_0 c_1 cs s) := by
  refine IT.of (N := 46) Try.func92 rfl rfl rfl rfl fun σ ρ B A Ax cs l s0 y hF hY H1 fr gs Q hs1 hA hout => ?_
  unfold I_gusts_blown_rounds_1 at hF
  refine JC.seq ?_
  refine JC.region (by rfl) ?_
  intro hQ
  refine JL.assign .none rfl ?_
  refine JL.done hQ ?_
  refine JQ.go ?_
  refine JC.block ?_
  refine JC.loop hF (fun (z : Int × σ) Hz f bs gs => match z with | (gone, s) => f 0 = .func (.yield l) #[] #[] ∧ f 1 = .pointer (some ⟨c_0_b, 0, none⟩) ∧ f 2 = .pointer (some ⟨c_1_b, 0, none⟩) ∧ f 4 = .int .u16 gone ∧ A s Hz bs gs ∧ HSub H1 Hz) ⟨rfl, rfl, rfl, rfl, hA, HSub.refl _⟩ ?_
  rintro ⟨gone, s⟩ xo H2 f bs gs2 ⟨hf0, hf1, hf2, hf4, hA2, hs2⟩ hF hr
  rw [I_gusts_blown_rounds_1_s1] at hF
  refine (JC.norm (i := 0) hf0 (JC.norm (i := 1) hf1 (JC.norm (i := 2) hf2 (JC.norm (i := 4) hf4 ?_))))
  have hs12 := hs1.trans hs2
  refine JC.block ?_
  refine JC.seq ?_
  refine JC.region (by rfl) ?_
  intro hQ
  refine JL.move .none rfl ?_
  refine JL.assign .none rfl ?_
  refine JL.done hQ ?_
  refine JQ.go ?_
  refine JC.seq ?_
  refine JC.seq ?_
  refine JC.region (by rfl) ?_
  intro hQ
  refine JL.fieldAddr mz_foB1 rfl .none rfl ?_
  refine JL.loadH 1 mz_azR rfl (Cells.mono hs12 c_0_c) rfl .none rfl ?_
  refine JL.lenSL (R := RInt) mz_ulR (SL.mono RInt.mono hs12 hc_0_1) .none rfl ?_
  refine JL.move .none rfl ?_
  refine JL.done hQ ?_
  refine JQ.go ?_
  obtain ⟨r1, hl1, hK1⟩ := bind_some hF
  refine JC.join (fun (next : Int) H3 f bs gs => f 0 = .func (.yield l) #[] #[] ∧ f 1 = .pointer (some ⟨c_0_b, 0, none⟩) ∧ f 2 = .pointer (some ⟨c_1_b, 0, none⟩) ∧ f 4 = .int .u16 gone ∧ f 5 = .int .u16 next ∧ A s H3 bs gs ∧ HSub H2 H3 ∧ next = r1) ?_ ?_
  · skip
    refine JC.block ?_
    refine JC.loop hl1 (fun (z : Int × Int) H3 f bs gs => match z with | (next, x) => f 0 = .func (.yield l) #[] #[] ∧ f 1 = .pointer (some ⟨c_0_b, 0, none⟩) ∧ f 2 = .pointer (some ⟨c_1_b, 0, none⟩) ∧ f 4 = .int .u16 gone ∧ f 5 = .int .u16 next ∧ f 10 = c_0_v1 ∧ f 11 = .int .i64 (c_0.ribs.length : Int) ∧ f 12 = .int .i64 x ∧ A s H3 bs gs ∧ HSub H2 H3) ⟨rfl, rfl, rfl, rfl, rfl, rfl, rfl, rfl, hA2, (HSub.refl _)⟩ ?_
    rintro ⟨next, x⟩ x1 H3 f bs gs ⟨hf0, hf1, hf2, hf4, hf5, hf10, hf11, hf12, hA3, hs3⟩ hF hr1
    rw [I_gusts_blown_rounds_1_s2] at hF
    have hs13 := hs12.trans hs3
    refine (JC.norm (i := 0) hf0 (JC.norm (i := 1) hf1 (JC.norm (i := 2) hf2 (JC.norm (i := 4) hf4 (JC.norm (i := 5) hf5 (JC.norm (i := 10) hf10 (JC.norm (i := 11) hf11 (JC.norm (i := 12) hf12 ?_))))))))
    refine JC.seq ?_
    refine JC.region (by rfl) ?_
    intro hQ
    refine JL.bin rfl rfl rfl .none rfl ?_
    refine JL.done hQ ?_
    refine JQ.go ?_
    refine JC.seq ?_
    rcases ite_some hF with ⟨hc, hF⟩ | ⟨hc, hF⟩
    · refine JC.cond_t (b := decide (x < (c_0.ribs.length : Int))) rfl hc ?_
      refine JC.skip ?_
      refine JQ.go ?_
      refine JC.seq ?_
      refine JC.block ?_
      refine JC.seq ?_
      refine JC.region (by rfl) ?_
      intro hQ
      refine JL.move .none rfl ?_
      obtain ⟨y829, hy829, hF⟩ := bind_some hF
      refine JL.indexSL (R := RInt) mz_slR (SL.mono RInt.mono hs13 hc_0_1) rfl hy829 .none rfl ?_
      rintro b830 o831 cs832 hc833 - rfl
      refine JL.loadH 0 mz_az3 rfl hc833 rfl .none rfl ?_
      refine JL.assign .none rfl ?_
      refine JL.assign .none rfl ?_
      refine JL.done hQ ?_
      refine JQ.go ?_
      refine JC.seq ?_
      refine JC.region (by rfl) ?_
      intro hQ
      refine JL.move .none rfl ?_
      refine JL.move .none rfl ?_
      obtain ⟨u834, hu834, hF⟩ := bind_some hF
      refine JL.shr rfl rfl (nneg_some hu834) .none rfl ?_
      refine JL.and rfl rfl .none rfl ?_
      refine JL.bin rfl rfl rfl .none rfl ?_
      refine JL.move .none rfl ?_
      obtain ⟨p836, hp836, hF⟩ := bind_some hF
      refine JL.cut 8 (fun f => f 0 = .func (.yield l) #[] #[] ∧ f 1 = .pointer (some ⟨c_0_b, 0, none⟩) ∧ f 2 = .pointer (some ⟨c_1_b, 0, none⟩) ∧ f 4 = .int .u16 gone ∧ f 5 = .int .u16 next ∧ f 6 = .int .i64 x ∧ f 10 = c_0_v1 ∧ f 11 = .int .i64 (c_0.ribs.length : Int) ∧ f 12 = .int .i64 x ∧ f 30 = .bool p836) ?_ ?_
      · intro hJ837
        rcases ite_some hp836 with ⟨hc838, hF⟩ | ⟨hc838, hF⟩
        · skip
          refine JL.loadH 0 mz_azB rfl (Cells.mono hs13 c_0_c) rfl (.some rfl rfl rfl hc838) rfl ?_
          refine JL.loadH 0 mz_azG rfl (Cells.mono hs13 c_1_c) rfl (.some rfl rfl rfl hc838) rfl ?_
          refine JL.move (.some rfl rfl rfl hc838) rfl ?_
          refine JL.move (.some rfl rfl rfl hc838) rfl ?_
          obtain ⟨y839, hy839, hF⟩ := bind_some hF
          refine JL.callS (c_gusts_blown_bears n H3 c_0 c_0_v1 (SL.mono RInt.mono hs13 hc_0_1) c_0_v2 (SL.mono RInt.mono hs13 hc_0_2) c_1 x gone y839 hy839) rfl mz_enB (.some rfl rfl rfl hc838) rfl ?_
          refine JL.move (.some rfl rfl rfl hc838) rfl ?_
          refine JL.bin rfl rfl rfl (.some rfl rfl rfl hc838) rfl ?_
          refine JL.pick_t (b := ((band .u16 (bshr .u16 gone x) 1) == 0)) rfl hc838 .none rfl ?_
          obtain rfl := Option.some.inj hF
          exact hJ837 _ ⟨rfl, rfl, rfl, rfl, rfl, rfl, rfl, rfl, rfl, rfl⟩
        · skip
          refine JL.skip (.bool rfl rfl rfl hc838) rfl ?_
          refine JL.skip (.bool rfl rfl rfl hc838) rfl ?_
          refine JL.skip (.bool rfl rfl rfl hc838) rfl ?_
          refine JL.skip (.bool rfl rfl rfl hc838) rfl ?_
          refine JL.skip (.bool rfl rfl rfl hc838) rfl ?_
          refine JL.skip (.bool rfl rfl rfl hc838) rfl ?_
          refine JL.skip (.bool rfl rfl rfl hc838) rfl ?_
          refine JL.pick_f (b := ((band .u16 (bshr .u16 gone x) 1) == 0)) rfl hc838 .none rfl ?_
          obtain rfl := Option.some.inj hF
          exact hJ837 _ ⟨rfl, rfl, rfl, rfl, rfl, rfl, rfl, rfl, rfl, rfl⟩
      · rintro f ⟨hf0, hf1, hf2, hf4, hf5, hf6, hf10, hf11, hf12, hf30⟩
        refine (JL.norm (i := 0) hf0 (JL.norm (i := 1) hf1 (JL.norm (i := 2) hf2 (JL.norm (i := 4) hf4 (JL.norm (i := 5) hf5 (JL.norm (i := 6) hf6 (JL.norm (i := 10) hf10 (JL.norm (i := 11) hf11 (JL.norm (i := 12) hf12 (JL.norm (i := 30) hf30 ?_))))))))))
        refine JL.done hQ ?_
        refine JQ.go ?_
        obtain ⟨r844, hlr844, hKr844⟩ := bind_some hF
        refine JC.join (fun (next2 : Int) H4 f bs gs => f 0 = .func (.yield l) #[] #[] ∧ f 1 = .pointer (some ⟨c_0_b, 0, none⟩) ∧ f 2 = .pointer (some ⟨c_1_b, 0, none⟩) ∧ f 4 = .int .u16 gone ∧ f 5 = .int .u16 next2 ∧ f 10 = c_0_v1 ∧ f 11 = .int .i64 (c_0.ribs.length : Int) ∧ f 12 = .int .i64 x ∧ A s H4 bs gs ∧ HSub H3 H4 ∧ next2 = r844) ?_ ?_
        · have hF := hlr844
          rcases ite_some hF with ⟨hc845, hF⟩ | ⟨hc845, hF⟩
          · refine JC.cond_t (b := p836) rfl hc845 ?_
            refine JC.region (by rfl) ?_
            intro hQ
            refine JL.move .none rfl ?_
            refine JL.move .none rfl ?_
            obtain ⟨u846, hu846, hF⟩ := bind_some hF
            refine JL.shl rfl rfl (nneg_some hu846) .none rfl ?_
            refine JL.or rfl rfl .none rfl ?_
            refine JL.assign .none rfl ?_
            refine JL.done hQ ?_
            obtain rfl := Option.some.inj hF
            exact JQ.join (bor .u16 next (bshl .u16 1 x)) ⟨rfl, rfl, rfl, rfl, rfl, rfl, rfl, rfl, hA3, (HSub.refl _), rfl⟩
          · refine JC.cond_f (b := p836) rfl hc845 ?_
            refine JC.skip ?_
            obtain rfl := Option.some.inj hF
            exact JQ.join next ⟨rfl, rfl, rfl, rfl, rfl, rfl, rfl, rfl, hA3, (HSub.refl _), rfl⟩
        · rintro next2 H4 f bs gs ⟨hf0, hf1, hf2, hf4, hf5, hf10, hf11, hf12, hA4, hs4, rfl⟩
          have hF := hKr844
          try dsimp only at hF
          refine (JQ.norm (i := 0) hf0 (JQ.norm (i := 1) hf1 (JQ.norm (i := 2) hf2 (JQ.norm (i := 4) hf4 (JQ.norm (i := 5) hf5 (JQ.norm (i := 10) hf10 (JQ.norm (i := 11) hf11 (JQ.norm (i := 12) hf12 ?_))))))))
          refine JQ.normal_block ?_
          refine JQ.go ?_
          refine JC.region (by rfl) ?_
          intro hQ
          refine JL.bin rfl rfl rfl .none rfl ?_
          refine JL.move .none rfl ?_
          refine JL.done hQ ?_
          obtain rfl := Option.some.inj hF
          exact JQ.next rfl ⟨rfl, rfl, rfl, rfl, rfl, rfl, rfl, rfl, hA4, (HSub.trans hs3 hs4)⟩
    · refine JC.cond_f (b := decide (x < (c_0.ribs.length : Int))) rfl hc ?_
      refine JC.exit ?_
      refine JQ.exit_then ?_
      refine JQ.exit_then ?_
      refine JQ.exit_block ?_
      obtain rfl := Option.some.inj hF
      have ehr1 := hr1 _ rfl
      subst ehr1
      exact JQ.join next ⟨rfl, rfl, rfl, rfl, rfl, hA3, hs3, rfl⟩
  · rintro next H3 f bs gs ⟨hf0, hf1, hf2, hf4, hf5, hA3, hs3, rfl⟩
    have hF := hK1
    try dsimp only at hF
    refine (JQ.norm (i := 0) hf0 (JQ.norm (i := 1) hf1 (JQ.norm (i := 2) hf2 (JQ.norm (i := 4) hf4 (JQ.norm (i := 5) hf5 ?_)))))
    refine JQ.go ?_
    refine JC.seq ?_
    rcases ite_some hF with ⟨hc, hF⟩ | ⟨hc, hF⟩
    · refine JC.seq ?_
      refine JC.region (by rfl) ?_
      intro hQ
      refine JL.move .none rfl ?_
      refine JL.move .none rfl ?_
      refine JL.bin rfl rfl rfl .none rfl ?_
      refine JL.move .none rfl ?_
      refine JL.skip (.bool rfl rfl rfl hc) rfl ?_
      refine JL.skip (.bool rfl rfl rfl hc) rfl ?_
      refine JL.skip (.bool rfl rfl rfl hc) rfl ?_
      refine JL.skip (.bool rfl rfl rfl hc) rfl ?_
      refine JL.pick_t (b := (next == gone)) rfl hc .none rfl ?_
      refine JL.done hQ ?_
      refine JQ.go ?_
      refine JC.cond_t (b := true) rfl rfl ?_
      refine JC.ret ?_
      refine JQ.ret_then ?_
      refine JQ.ret_block ?_
      refine JQ.ret_then ?_
      refine JQ.ret_block ?_
      obtain rfl := Option.some.inj hF
      have e2 := hr _ rfl
      subst e2
      exact (hout H3 _ [] bs gs (hs2.trans hs3) hA3).1
    · refine JC.seq ?_
      obtain ⟨y0, hy0, hF⟩ := bind_some hF
      refine JC.regionY _ 6 rfl rfl (by rfl) ?_
      intro hQ
      refine JL.move .none rfl ?_
      refine JL.move .none rfl ?_
      refine JL.bin rfl rfl rfl .none rfl ?_
      refine JL.move .none rfl ?_
      refine JL.move (.some rfl rfl rfl hc) rfl ?_
      refine JL.move (.some rfl rfl rfl hc) rfl ?_
      refine JL.atYieldG (A := A) (Ax := Ax) (y := y0) (tl := []) hQ (by rfl) rfl rfl (.some rfl rfl rfl hc) rfl rfl (fun w hw => hY s next y0 _ [] [] H3 bs gs w hA3 hy0 ⟨rfl, rfl⟩ hw) ?_ ?_
      · rintro s' H4 fr4 gs4 rfl hs4 hA4
        refine JL.not rfl (.some rfl rfl rfl hc) rfl ?_
        refine JL.pick_f (b := (next == gone)) rfl hc .none rfl ?_
        refine JL.done hQ ?_
        refine JQ.go ?_
        refine JC.cond_f (b := !true) rfl rfl ?_
        refine JC.skip ?_
        refine JQ.go ?_
        refine JC.region (by rfl) ?_
        intro hQ
        refine JL.move .none rfl ?_
        refine JL.assign .none rfl ?_
        refine JL.done hQ ?_
        refine JQ.normal_block ?_
        obtain rfl := Option.some.inj hF
        exact JQ.next rfl ⟨rfl, rfl, rfl, rfl, hA4, (hs2.trans hs3).trans hs4⟩
      · rintro e H4 fr4 gs4 rfl hs4 hA4
        refine JL.not rfl (.some rfl rfl rfl hc) rfl ?_
        refine JL.pick_f (b := (next == gone)) rfl hc .none rfl ?_
        refine JL.done hQ ?_
        refine JQ.go ?_
        refine JC.cond_t (b := !false) rfl rfl ?_
        refine JC.ret ?_
        refine JQ.ret_then ?_
        refine JQ.ret_block ?_
        refine JQ.ret_then ?_
        refine JQ.ret_block ?_
        obtain rfl := Option.some.inj hF
        have e2 := hr _ rfl
        subst e2
        exact (hout H4 _ [] fr4 gs4 ((hs2.trans hs3).trans hs4) hA4).1
end Go.Proofs.Ytcipdblhopffbaa
end
