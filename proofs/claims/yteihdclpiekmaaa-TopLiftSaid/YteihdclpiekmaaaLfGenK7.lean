/-
  Printed by a program: functions of the translation as plain functions, and their contracts.
-/
import Derived.Test.YteihdclpiekmaaaLfGenK6
namespace Go.Proofs.Yteihdclpiekmaaa
open Go Go.RowKit Go.Dec
set_option linter.unusedVariables false
-- 145 (ferrule/gusts.blown).rounds
def F_gusts_blown_rounds (n : Nat) (b : gusts_blown) (g : Gust) : Option (gusts_blown × Gust) :=
  some (b, g)
set_option maxRecDepth 100000 in
set_option maxHeartbeats 40000000 in
theorem c_gusts_blown_rounds (n : Nat) (H : Hp) (b : gusts_blown) (b_v1 : Value) (hb_1 : SL H 1 RInt b_v1 b.ribs) (b_v2 : Value) (hb_2 : SL H 1 RInt b_v2 b.shares) (g : Gust) (y : gusts_blown × Gust) (hF : F_gusts_blown_rounds n b g = some y) : HC Try.prog 145 [.agg [.int .i64 b.lift, b_v1, b_v2].toArray, .agg [.int .i64 g.Force, .int .i64 g.At].toArray] H (fun H' v => ∃ b0_ b1_ : Nat, ∃ z0_v1 z0_v2 : Value, v = .func (.func 180) #[] [.pointer (some ⟨b0_, 0, none⟩), .pointer (some ⟨b1_, 0, none⟩)].toArray ∧ Cells H' b0_ 0 [.int .i64 y.1.lift, z0_v1, z0_v2] ∧ Cells H' b1_ 0 [.int .i64 y.2.Force, .int .i64 y.2.At] ∧ SL H' 1 RInt z0_v1 y.1.ribs ∧ SL H' 1 RInt z0_v2 y.1.shares) := by
  rw [F_gusts_blown_rounds] at hF
  refine HC.of (N := 6) Try.func145 rfl rfl rfl fun w => ?_
  refine JC.seq ?_
  refine JC.region (by rfl) ?_
  intro hQ
  refine JL.box (cs := [.int .i64 b.lift, b_v1, b_v2]) rfl .none rfl ?_
  intro b1
  refine JL.box (cs := [.int .i64 g.Force, .int .i64 g.At]) rfl .none rfl ?_
  intro b2
  refine JL.assign .none rfl ?_
  refine JL.done hQ ?_
  refine JQ.go ?_
  refine JC.seq ?_
  refine JC.region (by rfl) ?_
  intro hQ
  refine JL.makeFunc .none rfl ?_
  refine JL.assign .none rfl ?_
  refine JL.done hQ ?_
  refine JQ.go ?_
  refine JC.ret ?_
  refine JQ.freezeC 1 (l := [.int .i64 b.lift, b_v1, b_v2]) rfl ?_
  intro H3 hs3 hc4
  refine JQ.freezeC 0 (l := [.int .i64 g.Force, .int .i64 g.At]) rfl ?_
  intro H5 hs5 hc6
  obtain rfl := Option.some.inj hF
  exact JQ.outH rfl (.tmp .nil) ⟨b1, b2, b_v1, b_v2, rfl, (Cells.mono hs5 hc4), hc6, (SL.mono RInt.mono (HSub.trans hs3 hs5) hb_1), (SL.mono RInt.mono (HSub.trans hs3 hs5) hb_2)⟩

-- 89 (ferrule/gusts.blown).first
def F_gusts_blown_first_s1 (n : Nat)  : Unit → Int → Option (Unit ⊕ Int)
  | _, x7 => some (Sum.inr x7)
def F_gusts_blown_first (n : Nat) (b : gusts_blown) (g : Gust) : Option Int :=
  (F_gusts_blown_rounds n b g).bind fun y4 => (I_gusts_blown_rounds_1 n y4.1 y4.2 (F_gusts_blown_first_s1 n) ()).bind fun r20 => match r20 with | .inl _ => some 0 | .inr z_18 => some z_18
set_option maxRecDepth 100000 in
set_option maxHeartbeats 40000000 in
theorem c_gusts_blown_first (n : Nat) (H : Hp) (b : gusts_blown) (b_v1 : Value) (hb_1 : SL H 1 RInt b_v1 b.ribs) (b_v2 : Value) (hb_2 : SL H 1 RInt b_v2 b.shares) (g : Gust) (y : Int) (hF : F_gusts_blown_first n b g = some y) : SC Try.prog 89 [.agg [.int .i64 b.lift, b_v1, b_v2].toArray, .agg [.int .i64 g.Force, .int .i64 g.At].toArray] (.int .u16 y) H := by
  rw [F_gusts_blown_first] at hF
  refine SC.ofM (N := 11) Try.func89 rfl rfl rfl fun w => ?_
  refine JC.seq ?_
  refine JC.region (by rfl) ?_
  intro hQ
  refine JL.box (cs := [.int .i64 b.lift, b_v1, b_v2]) rfl .none rfl ?_
  intro b1
  refine JL.box (cs := [.int .i64 g.Force, .int .i64 g.At]) rfl .none rfl ?_
  intro b2
  refine JL.alloc ze_160 .none rfl ?_
  intro b3
  refine JL.done hQ ?_
  refine JQ.go ?_
  refine JC.seq ?_
  refine JC.seq ?_
  refine JC.region (by rfl) ?_
  intro hQ
  refine JL.loadOwn 2 az_156 rfl rfl rfl .none rfl ?_
  refine JL.loadOwn 1 az_86 rfl rfl rfl .none rfl ?_
  obtain ⟨y4, hy4, hF⟩ := bind_some hF
  refine JL.callH (c_gusts_blown_rounds n H b b_v1 hb_1 b_v2 hb_2 g y4 hy4) rfl en_145 .none rfl ?_
  rintro H5 vv6 hs5 ⟨y4_b0, y4_b1, y4_0_v1, y4_0_v2, rfl, hy4_b0, hy4_b1, hy4_0_1, hy4_0_2⟩
  refine JL.done hQ ?_
  refine JQ.go ?_
  refine JC.block ?_
  obtain ⟨r20, hl21, hF⟩ := bind_some hF
  refine JC.mask [true, false, false] [] ?_
  refine JC.rangeFunc (ρ := Int) (V := (VPlain fun (x : Int) => .int .u16 x)) (F := fun _ _ step s => I_gusts_blown_rounds_1 n y4.1 y4.2 step s) rfl en_180 (it_gusts_blown_rounds_1 n H5 y4.1 y4_0_v1 hy4_0_1 y4_0_v2 hy4_0_2 y4_b0 hy4_b0 y4.2 y4_b1 hy4_b1) rfl hl21 (fun (_ : Unit) H17 fr gs => fr = [(b3, .cells [.int .u16 0].toArray 160)] ∧ gs = [] ∧ HSub H5 H17) (fun (z_18 : Int) (c : Code) H19 fr gs => c = .ret ∧ fr = [(b3, .cells [.int .u16 z_18].toArray 160)] ∧ gs = [] ∧ HSub H5 H19) ⟨rfl, rfl, (HSub.refl _)⟩ ?_ ?_ ?_
  · rintro l8 _ x7 y22 v9 own T10 H17 fr gs ⟨rfl, rfl, hs17⟩ hF ⟨rfl, rfl⟩ -
    rw [F_gusts_blown_first_s1] at hF
    refine JC.region (by rfl) ?_
    intro hQ
    refine JL.assign .none rfl ?_
    refine JL.done hQ ?_
    refine JQ.assigned [(b3, .cells [.int .u16 0].toArray 160)] (fun T11 => ?_)
    refine JC.block ?_
    refine JC.seq ?_
    refine JC.region (by rfl) ?_
    intro hQ
    refine JL.move .none rfl ?_
    refine JL.storeOwn 0 (cs := [.int .u16 x7]) az_160 rfl rfl rfl (one_cons rfl one_nil) rfl rfl .none ?_
    refine JL.done hQ ?_
    refine JQ.go ?_
    refine JC.ret ?_
    refine JQ.ret_block ?_
    obtain rfl := Option.some.inj hF
    refine JQ.roundRet rfl [(b3, .cells [.int .u16 x7].toArray 160)] (HSub.refl _) ?_
    exact ⟨rfl, rfl, rfl, hs17⟩
  · rintro D23 _ H17 fr gs rfl ⟨rfl, rfl, hs17⟩ -
    try dsimp only at hF
    refine JQ.normal_block ?_
    refine JQ.go ?_
    refine JC.seq ?_
    refine JC.region (by rfl) ?_
    intro hQ
    refine JL.storeOwn 0 (cs := [.int .u16 0]) az_160 rfl rfl rfl (one_cons rfl one_nil) rfl rfl .none ?_
    refine JL.done hQ ?_
    refine JQ.go ?_
    refine JC.ret ?_
    obtain rfl := Option.some.inj hF
    exact JQ.outSM rfl (.cons 1 rfl .nil) (.cell 0 az_160 rfl rfl rfl .nil) rfl
  · rintro D24 z_18 _ H19 fr gs rfl ⟨rfl, rfl, rfl, hs19⟩ -
    try dsimp only at hF
    refine JC.ret ?_
    refine JQ.ret_block ?_
    refine JQ.ret_then ?_
    obtain rfl := Option.some.inj hF
    exact JQ.outSM rfl (.cons 1 rfl .nil) (.cell 0 az_160 rfl rfl rfl .nil) rfl

-- 38 ferrule/gusts.Most
def F_gusts_Most_s1 (n : Nat) (at_ : Int) (y8 : gusts_blown × gusts_blown) : Int → Option (Int ⊕ Int)
  | n_58 => (if decide (n_58 < 99) = true then ((F_gusts_blown_first n y8.2 (Gust.mk (w64 (n_58 + 1)) at_)).bind fun y66 => some (y66 == 0)) else (some false) : Option Bool).bind fun p63 => if p63 = true then (some (Sum.inl (w64 (n_58 + 1)))) else (some (Sum.inr n_58))
def F_gusts_Most (n : Nat) (d : Canopy) (at_ : Int) : Option (Int × Int) :=
  (F_gusts_ask n d [(Gust.mk 0 at_)]).bind fun y6 => if (y6 != 0) = true then (some (0, y6)) else ((F_gusts_ends n d).bind fun y8 => (loopO n (F_gusts_Most_s1 n at_ y8) 0).bind fun n_39 => some (n_39, 0))
set_option maxRecDepth 100000 in
set_option maxHeartbeats 40000000 in
theorem c_gusts_Most (n : Nat) (H : Hp) (d : Canopy) (d_v0 : Value) (hd_0 : SL H 7 R_Section d_v0 d.Frame.Sections) (d_v7 : Value) (hd_7 : SL H 2 R_Span d_v7 d.Ribs) (d_v8 : Value) (hd_8 : SL H 1 RInt d_v8 d.Shares) (at_ : Int) (y : Int × Int) (hF : F_gusts_Most n d at_ = some y) : SC Try.prog 38 [.agg [d_v0, .int .i64 d.Frame.Low, .int .i64 d.Frame.High, .int .i64 d.Frame.Ease.Num, .int .i64 d.Frame.Ease.Den, .int .i64 d.Frame.Rod, .int .i64 d.Frame.Case, d_v7, d_v8].toArray, .int .i64 at_] (.tuple [.int .i64 y.1, .int .i64 y.2].toArray) H := by
  rw [F_gusts_Most] at hF
  refine SC.of (N := 37) Try.func38 rfl rfl rfl fun w => ?_
  refine JC.seq ?_
  refine JC.region (by rfl) ?_
  intro hQ
  refine JL.box (cs := [d_v0, .int .i64 d.Frame.Low, .int .i64 d.Frame.High, .int .i64 d.Frame.Ease.Num, .int .i64 d.Frame.Ease.Den, .int .i64 d.Frame.Rod, .int .i64 d.Frame.Case, d_v7, d_v8]) rfl .none rfl ?_
  intro b1
  refine JL.assign .none rfl ?_
  refine JL.assign .none rfl ?_
  refine JL.done hQ ?_
  refine JQ.go ?_
  refine JC.seq ?_
  refine JC.seq ?_
  refine JC.region (by rfl) ?_
  intro hQ
  refine JL.loadOwn 0 az_76 rfl rfl rfl .none rfl ?_
  refine JL.move .none rfl ?_
  refine JL.build (l := [.int .i64 0, .int .i64 at_]) (by kernel_rfl) .none rfl ?_
  refine JL.buildSlice (e := 86) (l := [.int .i64 0, .int .i64 at_]) (by kernel_rfl) .none rfl ?_
  intro b2
  refine JL.freezeC 0 (l := [.int .i64 0, .int .i64 at_]) rfl ?_
  intro H3 hs3 hc4
  have hg5 : SL H3 2 R_Gust (.slice (some ⟨b2, 0, none⟩) 1 1) [(Gust.mk 0 at_)] := CH.sl (l := [(Gust.mk 0 at_)]) (CH.cons (cs := [.int .i64 0, .int .i64 at_]) rfl rfl CH.nil) hc4 ⟨by simp, by simp⟩
  obtain ⟨y6, hy6, hF⟩ := bind_some hF
  refine JL.callS (c_gusts_ask n H3 d d_v0 (SL.mono R_Section_mono hs3 hd_0) d_v7 (SL.mono R_Span_mono hs3 hd_7) d_v8 (SL.mono RInt.mono hs3 hd_8) [(Gust.mk 0 at_)] (.slice (some ⟨b2, 0, none⟩) 1 1) hg5 y6 hy6) rfl en_87 .none rfl ?_
  refine JL.assign .none rfl ?_
  refine JL.done hQ ?_
  refine JQ.go ?_
  refine JC.seq ?_
  refine JC.region (by rfl) ?_
  intro hQ
  refine JL.move .none rfl ?_
  refine JL.bin rfl rfl rfl .none rfl ?_
  refine JL.done hQ ?_
  refine JQ.go ?_
  rcases ite_some hF with ⟨hc7, hF⟩ | ⟨hc7, hF⟩
  · refine JC.cond_t (b := (y6 != 0)) rfl hc7 ?_
    refine JC.seq ?_
    refine JC.region (by rfl) ?_
    intro hQ
    refine JL.move .none rfl ?_
    refine JL.assign .none rfl ?_
    refine JL.assign .none rfl ?_
    refine JL.done hQ ?_
    refine JQ.go ?_
    refine JC.fresh (fun f => f 4 = .int .i64 0 ∧ f 5 = .int .i64 y6) ⟨rfl, rfl⟩ ?_
    rintro f ⟨hf4, hf5⟩
    refine (JC.norm (i := 4) hf4 (JC.norm (i := 5) hf5 ?_))
    refine JC.ret ?_
    refine JQ.ret_then ?_
    obtain rfl := Option.some.inj hF
    exact JQ.outS rfl (.tmp (.tmp .nil)) rfl
  · refine JC.cond_f (b := (y6 != 0)) rfl hc7 ?_
    refine JC.skip ?_
    refine JQ.go ?_
    refine JC.seq ?_
    refine JC.region (by rfl) ?_
    intro hQ
    refine JL.loadOwn 0 az_76 rfl rfl rfl .none rfl ?_
    obtain ⟨y8, hy8, hF⟩ := bind_some hF
    refine JL.callH (c_gusts_ends n H3 d d_v0 (SL.mono R_Section_mono hs3 hd_0) d_v7 (SL.mono R_Span_mono hs3 hd_7) d_v8 (SL.mono RInt.mono hs3 hd_8) y8 hy8) rfl en_88 .none rfl ?_
    rintro H9 vv10 hs9 ⟨y8a_v1, y8a_v2, y8b_v1, y8b_v2, rfl, hy8a_1, hy8a_2, hy8b_1, hy8b_2⟩
    refine JL.move .none rfl ?_
    refine JL.extract rfl rfl .none rfl ?_
    refine JL.extract rfl rfl .none rfl ?_
    refine JL.alloc ze_156 .none rfl ?_
    intro b11
    refine JL.alloc ze_156 .none rfl ?_
    intro b12
    refine JL.storeOwn 1 (cs := [.int .i64 y8.1.lift, y8a_v1, y8a_v2]) az_156 rfl rfl rfl (one_cons rfl (one_cons (SL.one hy8a_1) (one_cons (SL.one hy8a_2) one_nil))) rfl rfl .none ?_
    refine JL.storeOwn 0 (cs := [.int .i64 y8.2.lift, y8b_v1, y8b_v2]) az_156 rfl rfl rfl (one_cons rfl (one_cons (SL.one hy8b_1) (one_cons (SL.one hy8b_2) one_nil))) rfl rfl .none ?_
    refine JL.done hQ ?_
    refine JQ.go ?_
    refine JC.fresh (fun f => f 1 = .int .i64 at_ ∧ f 4 = .int .i64 0 ∧ f 5 = .int .i64 0 ∧ f 8 = .pointer (some ⟨b12, 0, none⟩)) ⟨rfl, rfl, rfl, rfl⟩ ?_
    rintro f ⟨hf1, hf4, hf5, hf8⟩
    refine (JC.norm (i := 1) hf1 (JC.norm (i := 4) hf4 (JC.norm (i := 5) hf5 (JC.norm (i := 8) hf8 ?_))))
    refine JC.seq ?_
    refine JC.region (by rfl) ?_
    intro hQ
    refine JL.assign .none rfl ?_
    refine JL.done hQ ?_
    refine JQ.go ?_
    refine JC.seq ?_
    obtain ⟨r41, hlr41, hKr41⟩ := bind_some hF
    refine JC.join (fun (n_39 : Int) H40 f bs gs => f 9 = .int .i64 n_39 ∧ bs = [] ∧ gs = [] ∧ HSub H9 H40 ∧ n_39 = r41) ?_ ?_
    · skip
      refine JC.block ?_
      refine JC.mask [true, false, false] [] ?_
      refine JC.loop hlr41 (fun (n_58 : Int) H59 f bs gs => f 1 = .int .i64 at_ ∧ f 8 = .pointer (some ⟨b12, 0, none⟩) ∧ f 9 = .int .i64 n_58 ∧ bs = [(b12, .cells [.int .i64 y8.2.lift, y8b_v1, y8b_v2].toArray 156)] ∧ gs = [] ∧ HSub H9 H59) ⟨rfl, rfl, rfl, rfl, rfl, (HSub.refl _)⟩ ?_
      rintro n_58 x61 H59 f bs gs ⟨hf1, hf8, hf9, rfl, rfl, hs59⟩ hF hr60
      rw [F_gusts_Most_s1] at hF
      refine (JC.norm (i := 1) hf1 (JC.norm (i := 8) hf8 (JC.norm (i := 9) hf9 ?_)))
      refine JC.seq ?_
      refine JC.seq ?_
      refine JC.region (by rfl) ?_
      intro hQ
      refine JL.move .none rfl ?_
      refine JL.bin rfl rfl rfl .none rfl ?_
      refine JL.move .none rfl ?_
      obtain ⟨p63, hp63, hF⟩ := bind_some hF
      refine JL.cut 8 (fun f => f 1 = .int .i64 at_ ∧ f 8 = .pointer (some ⟨b12, 0, none⟩) ∧ f 9 = .int .i64 n_58 ∧ f 33 = .bool p63) ?_ ?_
      · intro hJ64
        rcases ite_some hp63 with ⟨hc65, hF⟩ | ⟨hc65, hF⟩
        · skip
          refine JL.loadOwn 0 az_156 rfl rfl rfl (.some rfl rfl rfl hc65) rfl ?_
          refine JL.move (.some rfl rfl rfl hc65) rfl ?_
          refine JL.bin rfl rfl rfl (.some rfl rfl rfl hc65) rfl ?_
          refine JL.move (.some rfl rfl rfl hc65) rfl ?_
          refine JL.build (l := [.int .i64 (w64 (n_58 + 1)), .int .i64 at_]) (by kernel_rfl) (.some rfl rfl rfl hc65) rfl ?_
          obtain ⟨y66, hy66, hF⟩ := bind_some hF
          refine JL.callS (c_gusts_blown_first n H59 y8.2 y8b_v1 (SL.mono RInt.mono hs59 hy8b_1) y8b_v2 (SL.mono RInt.mono hs59 hy8b_2) (Gust.mk (w64 (n_58 + 1)) at_) y66 hy66) rfl en_89 (.some rfl rfl rfl hc65) rfl ?_
          refine JL.bin rfl rfl rfl (.some rfl rfl rfl hc65) rfl ?_
          refine JL.pick_t (b := decide (n_58 < 99)) rfl hc65 .none rfl ?_
          obtain rfl := Option.some.inj hF
          exact hJ64 _ ⟨rfl, rfl, rfl, rfl⟩
        · skip
          refine JL.skip (.bool rfl rfl rfl hc65) rfl ?_
          refine JL.skip (.bool rfl rfl rfl hc65) rfl ?_
          refine JL.skip (.bool rfl rfl rfl hc65) rfl ?_
          refine JL.skip (.bool rfl rfl rfl hc65) rfl ?_
          refine JL.skip (.bool rfl rfl rfl hc65) rfl ?_
          refine JL.skip (.bool rfl rfl rfl hc65) rfl ?_
          refine JL.skip (.bool rfl rfl rfl hc65) rfl ?_
          refine JL.pick_f (b := decide (n_58 < 99)) rfl hc65 .none rfl ?_
          obtain rfl := Option.some.inj hF
          exact hJ64 _ ⟨rfl, rfl, rfl, rfl⟩
      · rintro f ⟨hf1, hf8, hf9, hf33⟩
        refine (JL.norm (i := 1) hf1 (JL.norm (i := 8) hf8 (JL.norm (i := 9) hf9 (JL.norm (i := 33) hf33 ?_))))
        refine JL.done hQ ?_
        refine JQ.go ?_
        rcases ite_some hF with ⟨hc67, hF⟩ | ⟨hc67, hF⟩
        · refine JC.cond_t (b := p63) rfl hc67 ?_
          refine JC.skip ?_
          refine JQ.go ?_
          refine JC.block ?_
          refine JC.region (by rfl) ?_
          intro hQ
          refine JL.move .none rfl ?_
          refine JL.bin rfl rfl rfl .none rfl ?_
          refine JL.assign .none rfl ?_
          refine JL.done hQ ?_
          refine JQ.normal_block ?_
          obtain rfl := Option.some.inj hF
          exact JQ.next rfl ⟨rfl, rfl, rfl, rfl, rfl, hs59⟩
        · refine JC.cond_f (b := p63) rfl hc67 ?_
          refine JC.exit ?_
          refine JQ.exit_then ?_
          refine JQ.exit_then ?_
          refine JQ.exit_block ?_
          obtain rfl := Option.some.inj hF
          have ehr60 := hr60 _ rfl
          subst ehr60
          refine JQ.mask [false] [] ?_
          exact JQ.join n_58 ⟨rfl, rfl, rfl, hs59, rfl⟩
    · rintro n_39 H40 f bs gs ⟨hf9, rfl, rfl, hs40, rfl⟩
      have hF := hKr41
      try dsimp only at hF
      refine (JQ.norm (i := 9) hf9 ?_)
      refine JQ.go ?_
      refine JC.seq ?_
      refine JC.region (by rfl) ?_
      intro hQ
      refine JL.move .none rfl ?_
      refine JL.assign .none rfl ?_
      refine JL.assign .none rfl ?_
      refine JL.done hQ ?_
      refine JQ.go ?_
      refine JC.ret ?_
      obtain rfl := Option.some.inj hF
      exact JQ.outS rfl (.tmp (.tmp .nil)) rfl

-- 90 (ferrule/gusts.blown).last
def F_gusts_blown_last_s1 (n : Nat)  : Int → Int → Option (Int ⊕ Unit)
  | z_19, x7 => some (Sum.inl x7)
def F_gusts_blown_last (n : Nat) (b : gusts_blown) (g : Gust) : Option Int :=
  (F_gusts_blown_rounds n b g).bind fun y4 => (I_gusts_blown_rounds_1 n y4.1 y4.2 (F_gusts_blown_last_s1 n) 0).bind fun r21 => match r21 with | .inl z_19 => some z_19 | .inr _ => none
set_option maxRecDepth 100000 in
set_option maxHeartbeats 40000000 in
theorem c_gusts_blown_last (n : Nat) (H : Hp) (b : gusts_blown) (b_v1 : Value) (hb_1 : SL H 1 RInt b_v1 b.ribs) (b_v2 : Value) (hb_2 : SL H 1 RInt b_v2 b.shares) (g : Gust) (y : Int) (hF : F_gusts_blown_last n b g = some y) : SC Try.prog 90 [.agg [.int .i64 b.lift, b_v1, b_v2].toArray, .agg [.int .i64 g.Force, .int .i64 g.At].toArray] (.int .u16 y) H := by
  rw [F_gusts_blown_last] at hF
  refine SC.ofM (N := 12) Try.func90 rfl rfl rfl fun w => ?_
  refine JC.seq ?_
  refine JC.region (by rfl) ?_
  intro hQ
  refine JL.box (cs := [.int .i64 b.lift, b_v1, b_v2]) rfl .none rfl ?_
  intro b1
  refine JL.box (cs := [.int .i64 g.Force, .int .i64 g.At]) rfl .none rfl ?_
  intro b2
  refine JL.alloc ze_160 .none rfl ?_
  intro b3
  refine JL.done hQ ?_
  refine JQ.go ?_
  refine JC.seq ?_
  refine JC.seq ?_
  refine JC.region (by rfl) ?_
  intro hQ
  refine JL.loadOwn 2 az_156 rfl rfl rfl .none rfl ?_
  refine JL.loadOwn 1 az_86 rfl rfl rfl .none rfl ?_
  obtain ⟨y4, hy4, hF⟩ := bind_some hF
  refine JL.callH (c_gusts_blown_rounds n H b b_v1 hb_1 b_v2 hb_2 g y4 hy4) rfl en_145 .none rfl ?_
  rintro H5 vv6 hs5 ⟨y4_b0, y4_b1, y4_0_v1, y4_0_v2, rfl, hy4_b0, hy4_b1, hy4_0_1, hy4_0_2⟩
  refine JL.done hQ ?_
  refine JQ.go ?_
  refine JC.block ?_
  obtain ⟨r21, hl22, hF⟩ := bind_some hF
  refine JC.mask [true, false, false] [] ?_
  refine JC.rangeFunc (ρ := Unit) (V := (VPlain fun (x : Int) => .int .u16 x)) (F := fun _ _ step s => I_gusts_blown_rounds_1 n y4.1 y4.2 step s) rfl en_180 (it_gusts_blown_rounds_1 n H5 y4.1 y4_0_v1 hy4_0_1 y4_0_v2 hy4_0_2 y4_b0 hy4_b0 y4.2 y4_b1 hy4_b1) rfl hl22 (fun (z_19 : Int) H20 fr gs => fr = [(b3, .cells [.int .u16 z_19].toArray 160)] ∧ gs = [] ∧ HSub H5 H20) (fun _ _ _ _ _ => False) ⟨rfl, rfl, (HSub.refl _)⟩ ?_ ?_ ?_
  · rintro l8 z_19 x7 y23 v9 own T10 H20 fr gs ⟨rfl, rfl, hs20⟩ hF ⟨rfl, rfl⟩ -
    rw [F_gusts_blown_last_s1] at hF
    refine JC.region (by rfl) ?_
    intro hQ
    refine JL.assign .none rfl ?_
    refine JL.done hQ ?_
    refine JQ.assigned [(b3, .cells [.int .u16 z_19].toArray 160)] (fun T11 => ?_)
    refine JC.block ?_
    refine JC.region (by rfl) ?_
    intro hQ
    refine JL.move .none rfl ?_
    refine JL.storeOwn 0 (cs := [.int .u16 x7]) az_160 rfl rfl rfl (one_cons rfl one_nil) rfl rfl .none ?_
    refine JL.done hQ ?_
    refine JQ.normal_block ?_
    obtain rfl := Option.some.inj hF
    refine JQ.round rfl [(b3, .cells [.int .u16 x7].toArray 160)] (HSub.refl _) ?_
    exact ⟨rfl, rfl, hs20⟩
  · rintro D24 z_19 H20 fr gs rfl ⟨rfl, rfl, hs20⟩ -
    try dsimp only at hF
    refine JQ.normal_block ?_
    refine JQ.go ?_
    refine JC.seq ?_
    refine JC.region (by rfl) ?_
    intro hQ
    refine JL.loadOwn 0 az_160 rfl rfl rfl .none rfl ?_
    refine JL.storeOwn 0 (cs := [.int .u16 z_19]) az_160 rfl rfl rfl (one_cons rfl one_nil) rfl rfl .none ?_
    refine JL.done hQ ?_
    refine JQ.go ?_
    refine JC.ret ?_
    obtain rfl := Option.some.inj hF
    exact JQ.outSM rfl (.cons 1 rfl .nil) (.cell 0 az_160 rfl rfl rfl .nil) rfl
  · rintro _ _ _ _ _ _ _ h; exact h.elim

-- 91 (ferrule/gusts.ribs).list
def F_gusts_ribs_list_s1 (n : Nat) (s : Int) : Int × List Int → Option ((Int × List Int) ⊕ (List Int))
  | (x_130, out_131) => if decide (x_130 < 10) = true then ((nneg x_130).bind fun _ => (if ((band .u16 (bshr .u16 s x_130) 1) == 1) = true then ((lim (out_131 ++ [x_130])).bind fun l148 => some l148) else (some out_131)).bind fun out_143 => some (Sum.inl ((w64 (x_130 + 1)), out_143))) else (some (Sum.inr out_131))
def F_gusts_ribs_list (n : Nat) (s : Int) : Option (List Int) :=
  (loopO n (F_gusts_ribs_list_s1 n s) (0, ([] : List Int))).bind fun out_88 => some out_88
set_option maxRecDepth 100000 in
set_option maxHeartbeats 40000000 in
theorem c_gusts_ribs_list (n : Nat) (H : Hp) (s : Int) (y : (List Int)) (hF : F_gusts_ribs_list n s = some y) : HC Try.prog 91 [.int .u16 s] H (fun H' ra_v0 => SL H' 1 RInt ra_v0 y) := by
  rw [F_gusts_ribs_list] at hF
  refine HC.of (N := 19) Try.func91 rfl rfl rfl fun w => ?_
  refine JC.seq ?_
  refine JC.region (by rfl) ?_
  intro hQ
  refine JL.assign .none rfl ?_
  refine JL.done hQ ?_
  refine JQ.go ?_
  refine JC.seq ?_
  refine JC.region (by rfl) ?_
  intro hQ
  refine JL.assign .none rfl ?_
  refine JL.done hQ ?_
  refine JQ.go ?_
  refine JC.seq ?_
  refine JC.seq ?_
  refine JC.region (by rfl) ?_
  intro hQ
  refine JL.move .none rfl ?_
  refine JL.done hQ ?_
  refine JQ.go ?_
  refine JC.newNil (e := 3) (sz := 1) ?_
  obtain ⟨r90, hlr90, hKr90⟩ := bind_some hF
  refine JC.join (fun (out_88 : List Int) H89 f bs gs => ∃ (vout_88 : Value) (xsout_88 : List Value), f 3 = vout_88 ∧ bs = [] ∧ gs = [⟨vout_88, 3, 1, out_88.length, xsout_88⟩] ∧ CH H89 1 RInt xsout_88 out_88 ∧ HSub H H89 ∧ out_88 = r90) ?_ ?_
  · skip
    refine JC.block ?_
    refine JC.loop hlr90 (fun (x : Int × List Int) H132 f bs gs => match x with | (x_130, out_131) => ∃ (vout_131 : Value) (xsout_131 : List Value), f 0 = .int .u16 s ∧ f 3 = vout_131 ∧ f 5 = .int .i64 x_130 ∧ bs = [] ∧ gs = [⟨vout_131, 3, 1, out_131.length, xsout_131⟩] ∧ CH H132 1 RInt xsout_131 out_131 ∧ HSub H H132) ⟨(.slice none 0 0), [], rfl, rfl, rfl, rfl, rfl, CH.nil, (HSub.refl _)⟩ ?_
    rintro ⟨x_130, out_131⟩ x134 H132 f bs gs ⟨vout_131, xsout_131, hf0, hf3, hf5, rfl, rfl, hout_131, hs132⟩ hF hr133
    rw [F_gusts_ribs_list_s1] at hF
    refine (JC.norm (i := 0) hf0 (JC.norm (i := 3) hf3 (JC.norm (i := 5) hf5 ?_)))
    refine JC.seq ?_
    refine JC.region (by rfl) ?_
    intro hQ
    refine JL.bin rfl rfl rfl .none rfl ?_
    refine JL.done hQ ?_
    refine JQ.go ?_
    refine JC.seq ?_
    rcases ite_some hF with ⟨hc135, hF⟩ | ⟨hc135, hF⟩
    · refine JC.cond_t (b := decide (x_130 < 10)) rfl hc135 ?_
      refine JC.skip ?_
      refine JQ.go ?_
      refine JC.seq ?_
      refine JC.block ?_
      refine JC.seq ?_
      refine JC.region (by rfl) ?_
      intro hQ
      refine JL.move .none rfl ?_
      refine JL.assign .none rfl ?_
      refine JL.done hQ ?_
      refine JQ.go ?_
      refine JC.seq ?_
      refine JC.region (by rfl) ?_
      intro hQ
      refine JL.move .none rfl ?_
      refine JL.move .none rfl ?_
      obtain ⟨u136, hu136, hF⟩ := bind_some hF
      refine JL.shr rfl rfl (nneg_some hu136) .none rfl ?_
      refine JL.and rfl rfl .none rfl ?_
      refine JL.bin rfl rfl rfl .none rfl ?_
      refine JL.done hQ ?_
      refine JQ.go ?_
      obtain ⟨r145, hlr145, hKr145⟩ := bind_some hF
      refine JC.join (fun (out_143 : List Int) H144 f bs gs => ∃ (vout_143 : Value) (xsout_143 : List Value), f 0 = .int .u16 s ∧ f 3 = vout_143 ∧ f 5 = .int .i64 x_130 ∧ bs = [] ∧ gs = [⟨vout_143, 3, 1, out_143.length, xsout_143⟩] ∧ CH H144 1 RInt xsout_143 out_143 ∧ HSub H132 H144 ∧ out_143 = r145) ?_ ?_
      · have hF := hlr145
        rcases ite_some hF with ⟨hc146, hF⟩ | ⟨hc146, hF⟩
        · refine JC.cond_t (b := ((band .u16 (bshr .u16 s x_130) 1) == 1)) rfl hc146 ?_
          refine JC.region (by rfl) ?_
          intro hQ
          refine JL.move .none rfl ?_
          refine JL.move .none rfl ?_
          refine JL.buildSlice (e := 3) (l := [.int .i64 x_130]) (by kernel_rfl) .none rfl ?_
          intro b147
          obtain ⟨l148, hl148, hF⟩ := bind_some hF
          refine JL.appO (R := RInt) 0 0 (l := out_131) (m := [x_130]) ap_23 rfl ⟨rfl, rfl⟩ rfl hout_131 rfl rfl rfl (CH.cons (cs := [.int .i64 x_130]) rfl rfl CH.nil) rfl (one_cons rfl one_nil) hl148 .none rfl ?_
          intro v149 xs150 hch151
          refine JL.assign .none rfl ?_
          refine JL.done hQ ?_
          obtain rfl := Option.some.inj hF
          refine JQ.mask [false] [true] ?_
          exact JQ.join l148 ⟨v149, xs150, rfl, rfl, rfl, rfl, rfl, hch151, (HSub.refl _), rfl⟩
        · refine JC.cond_f (b := ((band .u16 (bshr .u16 s x_130) 1) == 1)) rfl hc146 ?_
          refine JC.skip ?_
          obtain rfl := Option.some.inj hF
          exact JQ.join out_131 ⟨vout_131, xsout_131, rfl, rfl, rfl, rfl, rfl, hout_131, (HSub.refl _), rfl⟩
      · rintro out_143 H144 f bs gs ⟨vout_143, xsout_143, hf0, hf3, hf5, rfl, rfl, hout_143, hs144, rfl⟩
        have hF := hKr145
        try dsimp only at hF
        refine (JQ.norm (i := 0) hf0 (JQ.norm (i := 3) hf3 (JQ.norm (i := 5) hf5 ?_)))
        refine JQ.normal_block ?_
        refine JQ.go ?_
        refine JC.region (by rfl) ?_
        intro hQ
        refine JL.bin rfl rfl rfl .none rfl ?_
        refine JL.move .none rfl ?_
        refine JL.done hQ ?_
        obtain rfl := Option.some.inj hF
        exact JQ.next rfl ⟨vout_143, xsout_143, rfl, rfl, rfl, rfl, rfl, hout_143, (HSub.trans hs132 hs144)⟩
    · refine JC.cond_f (b := decide (x_130 < 10)) rfl hc135 ?_
      refine JC.exit ?_
      refine JQ.exit_then ?_
      refine JQ.exit_then ?_
      refine JQ.exit_block ?_
      obtain rfl := Option.some.inj hF
      have ehr133 := hr133 _ rfl
      subst ehr133
      exact JQ.join out_131 ⟨vout_131, xsout_131, rfl, rfl, rfl, hout_131, hs132, rfl⟩
  · rintro out_88 H89 f bs gs ⟨vout_88, xsout_88, hf3, rfl, rfl, hout_88, hs89, rfl⟩
    have hF := hKr90
    try dsimp only at hF
    refine (JQ.norm (i := 3) hf3 ?_)
    refine JQ.go ?_
    refine JC.seq ?_
    refine JC.region (by rfl) ?_
    intro hQ
    refine JL.move .none rfl ?_
    refine JL.assign .none rfl ?_
    refine JL.done hQ ?_
    refine JQ.go ?_
    refine JC.ret ?_
    refine JQ.freezeG 0 (R := RInt) rfl RInt.mono hout_88 rfl ?_
    intro H152 hs152 hg153
    obtain rfl := Option.some.inj hF
    exact JQ.outH rfl (.tmp .nil) hg153

-- 39 ferrule/gusts.Goes
def F_gusts_Goes (n : Nat) (d : Canopy) (g : Gust) : Option ((List Int) × (List Int) × Int) :=
  (F_gusts_ask n d [g]).bind fun y7 => if (y7 != 0) = true then (some (([] : List Int), ([] : List Int), y7)) else ((F_gusts_ends n d).bind fun y9 => (F_gusts_blown_last n y9.1 g).bind fun y16 => (F_gusts_ribs_list n y16).bind fun y17 => (F_gusts_blown_last n y9.2 g).bind fun y19 => (F_gusts_ribs_list n y19).bind fun y20 => some (y17, y20, 0))
set_option maxRecDepth 100000 in
set_option maxHeartbeats 40000000 in
theorem c_gusts_Goes (n : Nat) (H : Hp) (d : Canopy) (d_v0 : Value) (hd_0 : SL H 7 R_Section d_v0 d.Frame.Sections) (d_v7 : Value) (hd_7 : SL H 2 R_Span d_v7 d.Ribs) (d_v8 : Value) (hd_8 : SL H 1 RInt d_v8 d.Shares) (g : Gust) (y : (List Int) × (List Int) × Int) (hF : F_gusts_Goes n d g = some y) : HC Try.prog 39 [.agg [d_v0, .int .i64 d.Frame.Low, .int .i64 d.Frame.High, .int .i64 d.Frame.Ease.Num, .int .i64 d.Frame.Ease.Den, .int .i64 d.Frame.Rod, .int .i64 d.Frame.Case, d_v7, d_v8].toArray, .agg [.int .i64 g.Force, .int .i64 g.At].toArray] H (fun H' v => ∃ ra_v0 rb_v0 : Value, v = .tuple [ra_v0, rb_v0, .int .i64 y.2.2].toArray ∧ SL H' 1 RInt ra_v0 y.1 ∧ SL H' 1 RInt rb_v0 y.2.1) := by
  rw [F_gusts_Goes] at hF
  refine HC.of (N := 30) Try.func39 rfl rfl rfl fun w => ?_
  refine JC.seq ?_
  refine JC.region (by rfl) ?_
  intro hQ
  refine JL.box (cs := [d_v0, .int .i64 d.Frame.Low, .int .i64 d.Frame.High, .int .i64 d.Frame.Ease.Num, .int .i64 d.Frame.Ease.Den, .int .i64 d.Frame.Rod, .int .i64 d.Frame.Case, d_v7, d_v8]) rfl .none rfl ?_
  intro b1
  refine JL.box (cs := [.int .i64 g.Force, .int .i64 g.At]) rfl .none rfl ?_
  intro b2
  refine JL.assign .none rfl ?_
  refine JL.assign .none rfl ?_
  refine JL.assign .none rfl ?_
  refine JL.done hQ ?_
  refine JQ.go ?_
  refine JC.seq ?_
  refine JC.seq ?_
  refine JC.region (by rfl) ?_
  intro hQ
  refine JL.loadOwn 1 az_76 rfl rfl rfl .none rfl ?_
  refine JL.loadOwn 0 az_86 rfl rfl rfl .none rfl ?_
  refine JL.buildSlice (e := 86) (l := [.int .i64 g.Force, .int .i64 g.At]) (by kernel_rfl) .none rfl ?_
  intro b3
  refine JL.freezeC 0 (l := [.int .i64 g.Force, .int .i64 g.At]) rfl ?_
  intro H4 hs4 hc5
  have hg6 : SL H4 2 R_Gust (.slice (some ⟨b3, 0, none⟩) 1 1) [g] := CH.sl (l := [g]) (CH.cons (cs := [.int .i64 g.Force, .int .i64 g.At]) rfl rfl CH.nil) hc5 ⟨by simp, by simp⟩
  obtain ⟨y7, hy7, hF⟩ := bind_some hF
  refine JL.callS (c_gusts_ask n H4 d d_v0 (SL.mono R_Section_mono hs4 hd_0) d_v7 (SL.mono R_Span_mono hs4 hd_7) d_v8 (SL.mono RInt.mono hs4 hd_8) [g] (.slice (some ⟨b3, 0, none⟩) 1 1) hg6 y7 hy7) rfl en_87 .none rfl ?_
  refine JL.assign .none rfl ?_
  refine JL.done hQ ?_
  refine JQ.go ?_
  refine JC.seq ?_
  refine JC.region (by rfl) ?_
  intro hQ
  refine JL.move .none rfl ?_
  refine JL.bin rfl rfl rfl .none rfl ?_
  refine JL.done hQ ?_
  refine JQ.go ?_
  rcases ite_some hF with ⟨hc8, hF⟩ | ⟨hc8, hF⟩
  · refine JC.cond_t (b := (y7 != 0)) rfl hc8 ?_
    refine JC.seq ?_
    refine JC.region (by rfl) ?_
    intro hQ
    refine JL.move .none rfl ?_
    refine JL.assign .none rfl ?_
    refine JL.assign .none rfl ?_
    refine JL.assign .none rfl ?_
    refine JL.done hQ ?_
    refine JQ.go ?_
    refine JC.fresh (fun f => f 4 = .slice none 0 0 ∧ f 5 = .slice none 0 0 ∧ f 6 = .int .i64 y7) ⟨rfl, rfl, rfl⟩ ?_
    rintro f ⟨hf4, hf5, hf6⟩
    refine (JC.norm (i := 4) hf4 (JC.norm (i := 5) hf5 (JC.norm (i := 6) hf6 ?_)))
    refine JC.ret ?_
    refine JQ.ret_then ?_
    obtain rfl := Option.some.inj hF
    exact JQ.outH rfl (.tmp (.tmp (.tmp .nil))) ⟨(.slice none 0 0), (.slice none 0 0), rfl, SL.nil, SL.nil⟩
  · refine JC.cond_f (b := (y7 != 0)) rfl hc8 ?_
    refine JC.skip ?_
    refine JQ.go ?_
    refine JC.fresh (fun f => f 2 = .pointer (some ⟨b1, 0, none⟩) ∧ f 3 = .pointer (some ⟨b2, 0, none⟩) ∧ f 4 = .slice none 0 0 ∧ f 5 = .slice none 0 0 ∧ f 6 = .int .i64 0) ⟨rfl, rfl, rfl, rfl, rfl⟩ ?_
    rintro f ⟨hf2, hf3, hf4, hf5, hf6⟩
    refine (JC.norm (i := 2) hf2 (JC.norm (i := 3) hf3 (JC.norm (i := 4) hf4 (JC.norm (i := 5) hf5 (JC.norm (i := 6) hf6 ?_)))))
    refine JC.seq ?_
    refine JC.region (by rfl) ?_
    intro hQ
    refine JL.loadOwn 1 az_76 rfl rfl rfl .none rfl ?_
    obtain ⟨y9, hy9, hF⟩ := bind_some hF
    refine JL.callH (c_gusts_ends n H4 d d_v0 (SL.mono R_Section_mono hs4 hd_0) d_v7 (SL.mono R_Span_mono hs4 hd_7) d_v8 (SL.mono RInt.mono hs4 hd_8) y9 hy9) rfl en_88 .none rfl ?_
    rintro H10 vv11 hs10 ⟨y9a_v1, y9a_v2, y9b_v1, y9b_v2, rfl, hy9a_1, hy9a_2, hy9b_1, hy9b_2⟩
    refine JL.move .none rfl ?_
    refine JL.extract rfl rfl .none rfl ?_
    refine JL.extract rfl rfl .none rfl ?_
    refine JL.alloc ze_156 .none rfl ?_
    intro b12
    refine JL.alloc ze_156 .none rfl ?_
    intro b13
    refine JL.storeOwn 1 (cs := [.int .i64 y9.1.lift, y9a_v1, y9a_v2]) az_156 rfl rfl rfl (one_cons rfl (one_cons (SL.one hy9a_1) (one_cons (SL.one hy9a_2) one_nil))) rfl rfl .none ?_
    refine JL.storeOwn 0 (cs := [.int .i64 y9.2.lift, y9b_v1, y9b_v2]) az_156 rfl rfl rfl (one_cons rfl (one_cons (SL.one hy9b_1) (one_cons (SL.one hy9b_2) one_nil))) rfl rfl .none ?_
    refine JL.done hQ ?_
    refine JQ.go ?_
    refine JC.seq ?_
    obtain ⟨y16, hy16, hF⟩ := bind_some hF
    obtain ⟨y17, hy17, hF⟩ := bind_some hF
    obtain ⟨y19, hy19, hF⟩ := bind_some hF
    obtain ⟨y20, hy20, hF⟩ := bind_some hF
    refine JC.mixed 11 11 #[false, false, false, false, false, false, false, false, false, false, false] [(b13, .cells [.int .i64 y9.2.lift, y9b_v1, y9b_v2].toArray 156), (b12, .cells [.int .i64 y9.1.lift, y9a_v1, y9a_v2].toArray 156), (b2, .cells [.int .i64 g.Force, .int .i64 g.At].toArray 86), (b1, .cells [d_v0, .int .i64 d.Frame.Low, .int .i64 d.Frame.High, .int .i64 d.Frame.Ease.Num, .int .i64 d.Frame.Ease.Den, .int .i64 d.Frame.Rod, .int .i64 d.Frame.Case, d_v7, d_v8].toArray 76)] (by rfl) mo_ (by kernel_rfl) (by kernel_rfl) ?_
    intro hQ hE
    refine JA.take 0 (listed' := #[true, false, false, false, false, false, false, false, false, false, false]) hQ rfl (by kernel_rfl) (by kernel_rfl) (by kernel_rfl) (by kernel_rfl) (by kernel_rfl) hE (HSub.refl _) (.cons_cons _ (.cons_cons _ (.cons_cons _ (.cons_cons _ (List.nil_sublist _))))) ?_
    refine JL.loadOwn 1 az_156 rfl rfl rfl .none rfl ?_
    refine JA.cont ?_
    refine JA.take 1 (listed' := #[true, true, false, false, false, false, false, false, false, false, false]) hQ rfl (by kernel_rfl) (by kernel_rfl) (by kernel_rfl) (by kernel_rfl) (by kernel_rfl) hE (HSub.refl _) (.cons_cons _ (.cons_cons _ (.cons_cons _ (.cons_cons _ (List.nil_sublist _))))) ?_
    refine JL.loadOwn 2 az_86 rfl rfl rfl .none rfl ?_
    refine JA.cont ?_
    refine JA.take 4 (listed' := #[true, true, false, false, true, false, false, false, false, false, false]) hQ rfl (by kernel_rfl) (by kernel_rfl) (by kernel_rfl) (by kernel_rfl) (by kernel_rfl) hE (HSub.refl _) (.cons_cons _ (.cons_cons _ (.cons_cons _ (.cons_cons _ (List.nil_sublist _))))) ?_
    refine JL.loadOwn 0 az_156 rfl rfl rfl .none rfl ?_
    refine JA.cont ?_
    refine JA.take 5 (listed' := #[true, true, false, false, true, true, false, false, false, false, false]) hQ rfl (by kernel_rfl) (by kernel_rfl) (by kernel_rfl) (by kernel_rfl) (by kernel_rfl) hE (HSub.refl _) (.cons_cons _ (.cons_cons _ (.cons_cons _ (.cons_cons _ (List.nil_sublist _))))) ?_
    refine JL.loadOwn 2 az_86 rfl rfl rfl .none rfl ?_
    refine JA.cont ?_
    refine JA.many [2] (by kernel_rfl) (by simp) (all_one ⟨_, #[true, true, true, false, true, true, false, false, false, false, false], rfl, (by kernel_rfl), ?_⟩)
    refine JL.callS (c_gusts_blown_last n H10 y9.1 y9a_v1 hy9a_1 y9a_v2 hy9a_2 g y16 hy16) rfl en_90 .none rfl ?_
    refine JA.after hE (HSub.refl _) (.cons_cons _ (.cons_cons _ (.cons_cons _ (.cons_cons _ (List.nil_sublist _))))) ?_
    refine JA.many [3] (by kernel_rfl) (by simp) (all_one ⟨_, #[true, true, true, true, true, true, false, false, false, false, false], rfl, (by kernel_rfl), ?_⟩)
    refine JL.callH (c_gusts_ribs_list n H10 y16 y17 hy17) rfl en_91 .none rfl ?_
    intro H24 y17a_v0 hs24 hy17a_0
    refine JA.after hE hs24 (.cons_cons _ (.cons_cons _ (.cons_cons _ (.cons_cons _ (List.nil_sublist _))))) ?_
    refine JA.many [6] (by kernel_rfl) (by simp) (all_one ⟨_, #[true, true, true, true, true, true, true, false, false, false, false], rfl, (by kernel_rfl), ?_⟩)
    refine JL.callS (c_gusts_blown_last n H24 y9.2 y9b_v1 (SL.mono RInt.mono hs24 hy9b_1) y9b_v2 (SL.mono RInt.mono hs24 hy9b_2) g y19 hy19) rfl en_90 .none rfl ?_
    refine JA.after hE hs24 (.cons_cons _ (.cons_cons _ (.cons_cons _ (.cons_cons _ (List.nil_sublist _))))) ?_
    refine JA.many [7] (by kernel_rfl) (by simp) (all_one ⟨_, #[true, true, true, true, true, true, true, true, false, false, false], rfl, (by kernel_rfl), ?_⟩)
    refine JL.callH (c_gusts_ribs_list n H24 y19 y20 hy20) rfl en_91 .none rfl ?_
    intro H25 y20a_v0 hs25 hy20a_0
    refine JA.after hE (HSub.trans hs24 hs25) (.cons_cons _ (.cons_cons _ (.cons_cons _ (.cons_cons _ (List.nil_sublist _))))) ?_
    refine JA.take 8 (listed' := #[true, true, true, true, true, true, true, true, true, false, false]) hQ rfl (by kernel_rfl) (by kernel_rfl) (by kernel_rfl) (by kernel_rfl) (by kernel_rfl) hE (HSub.trans hs24 hs25) (.cons_cons _ (.cons_cons _ (.cons_cons _ (.cons_cons _ (List.nil_sublist _))))) ?_
    refine JL.assign .none rfl ?_
    refine JA.cont ?_
    refine JA.take 9 (listed' := #[true, true, true, true, true, true, true, true, true, true, false]) hQ rfl (by kernel_rfl) (by kernel_rfl) (by kernel_rfl) (by kernel_rfl) (by kernel_rfl) hE (HSub.trans hs24 hs25) (.cons_cons _ (.cons_cons _ (.cons_cons _ (.cons_cons _ (List.nil_sublist _))))) ?_
    refine JL.assign .none rfl ?_
    refine JA.cont ?_
    refine JA.take 10 (listed' := #[true, true, true, true, true, true, true, true, true, true, true]) hQ rfl (by kernel_rfl) (by kernel_rfl) (by kernel_rfl) (by kernel_rfl) (by kernel_rfl) hE (HSub.trans hs24 hs25) (.cons_cons _ (.cons_cons _ (.cons_cons _ (.cons_cons _ (List.nil_sublist _))))) ?_
    refine JL.assign .none rfl ?_
    refine JA.cont ?_
    refine JA.done hQ (by kernel_rfl) ?_
    refine JQ.go ?_
    refine JC.fresh (fun f => f 4 = y17a_v0 ∧ f 5 = y20a_v0 ∧ f 6 = .int .i64 0) ⟨rfl, rfl, rfl⟩ ?_
    rintro f ⟨hf4, hf5, hf6⟩
    refine (JC.norm (i := 4) hf4 (JC.norm (i := 5) hf5 (JC.norm (i := 6) hf6 ?_)))
    refine JC.ret ?_
    obtain rfl := Option.some.inj hF
    exact JQ.outH rfl (.tmp (.tmp (.tmp .nil))) ⟨y17a_v0, y20a_v0, rfl, (SL.mono RInt.mono hs25 hy17a_0), hy20a_0⟩

end Go.Proofs.Yteihdclpiekmaaa
