/-
  A part of the proof of HcHarm: the texts HaGenK9, HaGenK10, HaGenK11.
-/
import Derived.Test.YtcipdblhopffbaaGreatJHcHarm6
section
set_option maxRecDepth 100000
set_option maxHeartbeats 40000000
namespace Go.Proofs.YtcipdblhopffbaaGreat
open Go Go.RowKit Go.Dec
set_option linter.unusedVariables false
-- 121 (ferrule/gusts.blown).rounds
def F_gusts_blown_rounds (n : Nat) (b : gusts_blown) (g : Gust) : Option (gusts_blown × Gust) :=
 some (b, g)
theorem c_gusts_blown_rounds (n : Nat) (H : Hp) (b : gusts_blown) (b_v1 : Value) (hb_1 : SL H 1 RInt b_v1 b.ribs) (b_v2 : Value) (hb_2 : SL H 1 RInt b_v2 b.shares) (g : Gust) (y : gusts_blown × Gust) (hF : F_gusts_blown_rounds n b g = some y) : HC Tryz.prog 121 [.agg [.int .i64 b.lift, b_v1, b_v2].toArray, .agg [.int .i64 g.Force, .int .i64 g.At].toArray] H (fun H' v => ∃ b0_ b1_ : Nat, ∃ z0_v1 z0_v2 : Value, v = .func (.func 129) #[] [.pointer (some ⟨b0_, 0, none⟩), .pointer (some ⟨b1_, 0, none⟩)].toArray ∧ Cells H' b0_ 0 [.int .i64 y.1.lift, z0_v1, z0_v2] ∧ Cells H' b1_ 0 [.int .i64 y.2.Force, .int .i64 y.2.At] ∧ SL H' 1 RInt z0_v1 y.1.ribs ∧ SL H' 1 RInt z0_v2 y.1.shares) := by
 rw [F_gusts_blown_rounds] at hF
 refine HC.of (N := 6) Tryz.func121 rfl rfl rfl fun w => ?_
 refine JC.seq (JC.region (by rfl) ?_)
 intro hQ
 refine JL.box (cs := [.int .i64 b.lift, b_v1, b_v2]) rfl .none rfl ?_
 intro b1
 refine JL.box (cs := [.int .i64 g.Force, .int .i64 g.At]) rfl .none rfl ?_
 intro b2
 refine JL.assign .none rfl (JL.done hQ (JQ.go (JC.seq (JC.region (by rfl) ?_))))
 intro hQ
 refine JL.makeFunc .none rfl ?_
 refine JL.assign .none rfl (JL.done hQ (JQ.go (JC.ret (JQ.freezeC 1 (l := [.int .i64 b.lift, b_v1, b_v2]) rfl ?_))))
 intro H3 hs3 hc4
 refine JQ.freezeC 0 (l := [.int .i64 g.Force, .int .i64 g.At]) rfl ?_
 intro H5 hs5 hc6
 obtain rfl := Option.some.inj hF
 exact JQ.outH rfl (.tmp .nil) ⟨b1, b2, b_v1, b_v2, rfl, (Cells.mono hs5 hc4), hc6, (SL.mono RInt.mono (HSub.trans hs3 hs5) hb_1), (SL.mono RInt.mono (HSub.trans hs3 hs5) hb_2)⟩
-- 113 (ferrule/gusts.blown).first
def F_gusts_blown_first_s1 (n : Nat)  : Unit → Int → Option (Unit ⊕ Int)
 | _, x7 => some (Sum.inr x7)
def F_gusts_blown_first (n : Nat) (b : gusts_blown) (g : Gust) : Option Int :=
 (F_gusts_blown_rounds n b g).bind fun y4 => (I_gusts_blown_rounds_1 n y4.1 y4.2 (F_gusts_blown_first_s1 n) ()).bind fun r20 => match r20 with | .inl _ => some 0 | .inr z_18 => some z_18
theorem c_gusts_blown_first (n : Nat) (H : Hp) (b : gusts_blown) (b_v1 : Value) (hb_1 : SL H 1 RInt b_v1 b.ribs) (b_v2 : Value) (hb_2 : SL H 1 RInt b_v2 b.shares) (g : Gust) (y : Int) (hF : F_gusts_blown_first n b g = some y) : SC Tryz.prog 113 [.agg [.int .i64 b.lift, b_v1, b_v2].toArray, .agg [.int .i64 g.Force, .int .i64 g.At].toArray] (.int .u16 y) H := by
 rw [F_gusts_blown_first] at hF
 refine SC.ofM (N := 11) Tryz.func113 rfl rfl rfl fun w => ?_
 refine JC.seq (JC.region (by rfl) ?_)
 intro hQ
 refine JL.box (cs := [.int .i64 b.lift, b_v1, b_v2]) rfl .none rfl ?_
 intro b1
 refine JL.box (cs := [.int .i64 g.Force, .int .i64 g.At]) rfl .none rfl ?_
 intro b2
 refine JL.alloc ze_156 .none rfl ?_
 intro b3
 refine JL.done hQ (JQ.go (JC.seq (JC.seq (JC.region (by rfl) ?_))))
 intro hQ
 refine JL.loadOwn 2 az_140 rfl rfl rfl .none rfl (JL.loadOwn 1 az_64 rfl rfl rfl .none rfl ?_)
 obtain ⟨y4, hy4, hF⟩ := bind_some hF
 refine JL.callH (c_gusts_blown_rounds n H b b_v1 hb_1 b_v2 hb_2 g y4 hy4) rfl en_121 .none rfl ?_
 rintro H5 vv6 hs5 ⟨y4_b0, y4_b1, y4_0_v1, y4_0_v2, rfl, hy4_b0, hy4_b1, hy4_0_1, hy4_0_2⟩
 refine JL.done hQ (JQ.go (JC.block ?_))
 obtain ⟨r20, hl21, hF⟩ := bind_some hF
 refine JC.mask [true, false, false] [] ?_
 refine JC.rangeFunc (ρ := Int) (V := (VPlain fun (x : Int) => .int .u16 x)) (F := fun _ _ step s => I_gusts_blown_rounds_1 n y4.1 y4.2 step s) rfl en_129 (it_gusts_blown_rounds_1 n H5 y4.1 y4_0_v1 hy4_0_1 y4_0_v2 hy4_0_2 y4_b0 hy4_b0 y4.2 y4_b1 hy4_b1) rfl hl21 (fun (_ : Unit) H17 fr gs => fr = [(b3, .cells [.int .u16 0].toArray 156)] ∧ gs = [] ∧ HSub H5 H17) (fun (z_18 : Int) (c : Code) H19 fr gs => c = .ret ∧ fr = [(b3, .cells [.int .u16 z_18].toArray 156)] ∧ gs = [] ∧ HSub H5 H19) ⟨rfl, rfl, (HSub.refl _)⟩ ?_ ?_ ?_
 ·rintro l8 _ x7 y22 v9 own T10 H17 fr gs ⟨rfl, rfl, hs17⟩ hF ⟨rfl, rfl⟩ -
  rw [F_gusts_blown_first_s1] at hF
  refine JC.region (by rfl) ?_
  intro hQ
  refine JL.assign .none rfl (JL.done hQ (JQ.assigned [(b3, .cells [.int .u16 0].toArray 156)] (fun T11 => ?_)))
  refine JC.block (JC.seq (JC.region (by rfl) ?_))
  intro hQ
  refine JL.move .none rfl (JL.storeOwn 0 (cs := [.int .u16 x7]) az_156 rfl rfl rfl (one_cons rfl one_nil) rfl rfl .none ?_)
  refine JL.done hQ (JQ.go (JC.ret (JQ.ret_block ?_)))
  obtain rfl := Option.some.inj hF
  refine JQ.roundRet rfl [(b3, .cells [.int .u16 x7].toArray 156)] (HSub.refl _) ?_
  exact ⟨rfl, rfl, rfl, hs17⟩
 ·rintro D23 _ H17 fr gs rfl ⟨rfl, rfl, hs17⟩ -
  try dsimp only at hF
  refine JQ.normal_block (JQ.go (JC.seq (JC.region (by rfl) ?_)))
  intro hQ
  refine JL.storeOwn 0 (cs := [.int .u16 0]) az_156 rfl rfl rfl (one_cons rfl one_nil) rfl rfl .none ?_
  refine JL.done hQ (JQ.go (JC.ret ?_))
  obtain rfl := Option.some.inj hF
  exact JQ.outSM rfl (.cons 1 rfl .nil) (.cell 0 az_156 rfl rfl rfl .nil) rfl
 ·rintro D24 z_18 _ H19 fr gs rfl ⟨rfl, rfl, rfl, hs19⟩ -
  try dsimp only at hF
  refine JC.ret (JQ.ret_block (JQ.ret_then ?_))
  obtain rfl := Option.some.inj hF
  exact JQ.outSM rfl (.cons 1 rfl .nil) (.cell 0 az_156 rfl rfl rfl .nil) rfl
-- 112 (ferrule/gusts.blown).stands$1
def F_gusts_blown_stands_1 (n : Nat) (g : Gust) (c_0 : gusts_blown) : Option Bool :=
 (F_gusts_blown_first n c_0 g).bind fun y2 => some (y2 != 0)
theorem c_gusts_blown_stands_1 (n : Nat) (H : Hp) (g : Gust) (c_0 : gusts_blown) (c_0_v1 : Value) (hc_0_1 : SL H 1 RInt c_0_v1 c_0.ribs) (c_0_v2 : Value) (hc_0_2 : SL H 1 RInt c_0_v2 c_0.shares) (c_0_b : Nat) (c_0_c : Cells H c_0_b 0 [.int .i64 c_0.lift, c_0_v1, c_0_v2]) (y : Bool) (hF : F_gusts_blown_stands_1 n g c_0 = some y) : SC Tryz.prog 112 [.agg [.int .i64 g.Force, .int .i64 g.At].toArray, .pointer (some ⟨c_0_b, 0, none⟩)] (.bool y) H := by
 rw [F_gusts_blown_stands_1] at hF
 refine SC.of (N := 8) Tryz.func112 rfl rfl rfl fun w => ?_
 refine JC.seq (JC.region (by rfl) ?_)
 intro hQ
 refine JL.box (cs := [.int .i64 g.Force, .int .i64 g.At]) rfl .none rfl ?_
 intro b1
 refine JL.assign .none rfl (JL.done hQ (JQ.go (JC.seq (JC.region (by rfl) ?_))))
 intro hQ
 refine JL.loadH 0 az_140 rfl c_0_c rfl .none rfl ?_
 refine JL.loadOwn 0 az_64 rfl rfl rfl .none rfl ?_
 obtain ⟨y2, hy2, hF⟩ := bind_some hF
 refine JL.callS (c_gusts_blown_first n H c_0 c_0_v1 hc_0_1 c_0_v2 hc_0_2 g y2 hy2) rfl en_113 .none rfl ?_
 refine JL.bin rfl rfl rfl .none rfl (JL.assign .none rfl (JL.done hQ (JQ.go (JC.ret ?_))))
 obtain rfl := Option.some.inj hF
 exact JQ.outS rfl (.tmp .nil) rfl
-- 97 (ferrule/gusts.blown).stands
def F_gusts_blown_stands (n : Nat) (b : gusts_blown) (class_ : List Gust) : Option Bool :=
 (F_slices_ContainsFunc___api_Gust_api_Gust_ n class_ (fun a0_ => F_gusts_blown_stands_1 n a0_ b)).bind fun y4 => some (!y4)
theorem c_gusts_blown_stands (n : Nat) (H : Hp) (b : gusts_blown) (b_v1 : Value) (hb_1 : SL H 1 RInt b_v1 b.ribs) (b_v2 : Value) (hb_2 : SL H 1 RInt b_v2 b.shares) (class_ : List Gust) (class__v0 : Value) (hclass__0 : SL H 2 R_Gust class__v0 class_) (y : Bool) (hF : F_gusts_blown_stands n b class_ = some y) : SC Tryz.prog 97 [.agg [.int .i64 b.lift, b_v1, b_v2].toArray, class__v0] (.bool y) H := by
 rw [F_gusts_blown_stands] at hF
 refine SC.of (N := 9) Tryz.func97 rfl rfl rfl fun w => ?_
 refine JC.seq (JC.region (by rfl) ?_)
 intro hQ
 refine JL.box (cs := [.int .i64 b.lift, b_v1, b_v2]) rfl .none rfl ?_
 intro b1
 refine JL.assign .none rfl (JL.done hQ (JQ.go (JC.seq (JC.region (by rfl) ?_))))
 intro hQ
 refine JL.move .none rfl (JL.makeFunc .none rfl ?_)
 refine JL.freezeC 0 (l := [.int .i64 b.lift, b_v1, b_v2]) rfl ?_
 intro H2 hs2 hc3
 obtain ⟨y4, hy4, hF⟩ := bind_some hF
 refine JL.callS (c_slices_ContainsFunc___api_Gust_api_Gust_ n H2 class_ class__v0 (SL.mono R_Gust_mono hs2 hclass__0) (fun a0_ => F_gusts_blown_stands_1 n a0_ b) 112 [.pointer (some ⟨b1, 0, none⟩)] en_112 (fun H' hs' a0_ y' hy' => c_gusts_blown_stands_1 n H' a0_ b b_v1 (SL.mono RInt.mono hs' (SL.mono RInt.mono hs2 hb_1)) b_v2 (SL.mono RInt.mono hs' (SL.mono RInt.mono hs2 hb_2)) b1 (Cells.mono hs' hc3) y' hy') y4 hy4) rfl en_110 .none rfl ?_
 refine JL.not rfl .none rfl (JL.assign .none rfl (JL.done hQ (JQ.go (JC.ret ?_))))
 obtain rfl := Option.some.inj hF
 exact JQ.outS rfl (.tmp .nil) rfl
-- 75 ferrule/gusts.Stands
def F_gusts_Stands (n : Nat) (d : Canopy) (class_ : List Gust) : Option (Int × Int) :=
 (F_gusts_ask n d class_).bind fun y2 => if (y2 != 0) = true then (some (0, y2)) else ((F_gusts_ends n d).bind fun y4 => (F_gusts_blown_stands n y4.2 class_).bind fun y9 => if y9 = true then (some (1, 0)) else ((F_gusts_blown_stands n y4.1 class_).bind fun y11 => if (!y11) = true then (some (2, 0)) else (some (3, 0))))
theorem c_gusts_Stands (n : Nat) (H : Hp) (d : Canopy) (d_v0 : Value) (hd_0 : SL H 7 R_Section d_v0 d.Frame.Sections) (d_v7 : Value) (hd_7 : SL H 2 R_Span d_v7 d.Ribs) (d_v8 : Value) (hd_8 : SL H 1 RInt d_v8 d.Shares) (class_ : List Gust) (class__v0 : Value) (hclass__0 : SL H 2 R_Gust class__v0 class_) (y : Int × Int) (hF : F_gusts_Stands n d class_ = some y) : SC Tryz.prog 75 [.agg [d_v0, .int .i64 d.Frame.Low, .int .i64 d.Frame.High, .int .i64 d.Frame.Ease.Num, .int .i64 d.Frame.Ease.Den, .int .i64 d.Frame.Rod, .int .i64 d.Frame.Case, d_v7, d_v8].toArray, class__v0] (.tuple [.int .i64 y.1, .int .i64 y.2].toArray) H := by
 rw [F_gusts_Stands] at hF
 refine SC.of (N := 29) Tryz.func75 rfl rfl rfl fun w => ?_
 refine JC.seq (JC.region (by rfl) ?_)
 intro hQ
 refine JL.box (cs := [d_v0, .int .i64 d.Frame.Low, .int .i64 d.Frame.High, .int .i64 d.Frame.Ease.Num, .int .i64 d.Frame.Ease.Den, .int .i64 d.Frame.Rod, .int .i64 d.Frame.Case, d_v7, d_v8]) rfl .none rfl ?_
 intro b1
 refine JL.assign .none rfl (JL.assign .none rfl (JL.done hQ (JQ.go (JC.seq (JC.seq (JC.region (by rfl) ?_))))))
 intro hQ
 refine JL.loadOwn 0 az_30 rfl rfl rfl .none rfl (JL.move .none rfl ?_)
 obtain ⟨y2, hy2, hF⟩ := bind_some hF
 refine JL.callS (c_gusts_ask n H d d_v0 hd_0 d_v7 hd_7 d_v8 hd_8 class_ class__v0 hclass__0 y2 hy2) rfl en_95 .none rfl ?_
 refine JL.assign .none rfl (JL.done hQ (JQ.go (JC.seq (JC.region (by rfl) ?_))))
 intro hQ
 refine JL.move .none rfl (JL.bin rfl rfl rfl .none rfl (JL.done hQ (JQ.go ?_)))
 rcases ite_some hF with ⟨hc3, hF⟩ | ⟨hc3, hF⟩
 ·refine JC.cond_t (b := (y2 != 0)) rfl hc3 ?_
  refine JC.seq (JC.region (by rfl) ?_)
  intro hQ
  refine JL.move .none rfl (JL.assign .none rfl (JL.assign .none rfl (JL.done hQ (JQ.go (JC.ret (JQ.ret_then ?_))))))
  obtain rfl := Option.some.inj hF
  exact JQ.outS rfl (.tmp (.tmp .nil)) rfl
 ·refine JC.cond_f (b := (y2 != 0)) rfl hc3 ?_
  refine JC.skip (JQ.go (JC.seq (JC.region (by rfl) ?_)))
  intro hQ
  refine JL.loadOwn 0 az_30 rfl rfl rfl .none rfl ?_
  obtain ⟨y4, hy4, hF⟩ := bind_some hF
  refine JL.callH (c_gusts_ends n H d d_v0 hd_0 d_v7 hd_7 d_v8 hd_8 y4 hy4) rfl en_96 .none rfl ?_
  rintro H5 vv6 hs5 ⟨y4a_v1, y4a_v2, y4b_v1, y4b_v2, rfl, hy4a_1, hy4a_2, hy4b_1, hy4b_2⟩
  refine JL.move .none rfl (JL.extract rfl rfl .none rfl (JL.extract rfl rfl .none rfl (JL.alloc ze_140 .none rfl ?_)))
  intro b7
  refine JL.alloc ze_140 .none rfl ?_
  intro b8
  refine JL.storeOwn 1 (cs := [.int .i64 y4.1.lift, y4a_v1, y4a_v2]) az_140 rfl rfl rfl (one_cons rfl (one_cons (SL.one hy4a_1) (one_cons (SL.one hy4a_2) one_nil))) rfl rfl .none ?_
  refine JL.storeOwn 0 (cs := [.int .i64 y4.2.lift, y4b_v1, y4b_v2]) az_140 rfl rfl rfl (one_cons rfl (one_cons (SL.one hy4b_1) (one_cons (SL.one hy4b_2) one_nil))) rfl rfl .none ?_
  refine JL.done hQ (JQ.go (JC.fresh (fun f => f 1 = class__v0 ∧ f 4 = .int .i64 0 ∧ f 5 = .int .i64 0 ∧ f 7 = .pointer (some ⟨b7, 0, none⟩) ∧ f 8 = .pointer (some ⟨b8, 0, none⟩)) ⟨rfl, rfl, rfl, rfl, rfl⟩ ?_))
  rintro f ⟨hf1, hf4, hf5, hf7, hf8⟩
  refine (JC.norm (i := 1) hf1 (JC.norm (i := 4) hf4 (JC.norm (i := 5) hf5 (JC.norm (i := 7) hf7 (JC.norm (i := 8) hf8 ?_)))))
  refine JC.seq (JC.block (JC.seq (JC.region (by rfl) ?_)))
  intro hQ
  refine JL.loadOwn 0 az_140 rfl rfl rfl .none rfl (JL.move .none rfl ?_)
  obtain ⟨y9, hy9, hF⟩ := bind_some hF
  refine JL.callS (c_gusts_blown_stands n H5 y4.2 y4b_v1 hy4b_1 y4b_v2 hy4b_2 class_ class__v0 (SL.mono R_Gust_mono hs5 hclass__0) y9 hy9) rfl en_97 .none rfl ?_
  refine JL.assign .none rfl (JL.done hQ (JQ.go ?_))
  rcases ite_some hF with ⟨hc10, hF⟩ | ⟨hc10, hF⟩
  ·refine JC.cond_t (b := y9) rfl hc10 ?_
   refine JC.seq (JC.region (by rfl) ?_)
   intro hQ
   refine JL.assign .none rfl (JL.assign .none rfl (JL.done hQ (JQ.go (JC.ret (JQ.ret_block (JQ.ret_then ?_))))))
   obtain rfl := Option.some.inj hF
   exact JQ.outS rfl (.tmp (.tmp .nil)) rfl
  ·refine JC.cond_f (b := y9) rfl hc10 ?_
   refine JC.seq (JC.region (by rfl) ?_)
   intro hQ
   refine JL.loadOwn 1 az_140 rfl rfl rfl .none rfl (JL.move .none rfl ?_)
   obtain ⟨y11, hy11, hF⟩ := bind_some hF
   refine JL.callS (c_gusts_blown_stands n H5 y4.1 y4a_v1 hy4a_1 y4a_v2 hy4a_2 class_ class__v0 (SL.mono R_Gust_mono hs5 hclass__0) y11 hy11) rfl en_97 .none rfl ?_
   refine JL.not rfl .none rfl (JL.assign .none rfl (JL.done hQ (JQ.go (JC.fresh (fun f => f 4 = .int .i64 0 ∧ f 5 = .int .i64 0 ∧ f 24 = .bool (!y11)) ⟨rfl, rfl, rfl⟩ ?_))))
   rintro f ⟨hf4, hf5, hf24⟩
   refine (JC.norm (i := 4) hf4 (JC.norm (i := 5) hf5 (JC.norm (i := 24) hf24 ?_)))
   rcases ite_some hF with ⟨hc12, hF⟩ | ⟨hc12, hF⟩
   ·refine JC.cond_t (b := (!y11)) rfl hc12 ?_
    refine JC.seq (JC.region (by rfl) ?_)
    intro hQ
    refine JL.assign .none rfl (JL.assign .none rfl (JL.done hQ (JQ.go (JC.ret (JQ.ret_block (JQ.ret_then ?_))))))
    obtain rfl := Option.some.inj hF
    exact JQ.outS rfl (.tmp (.tmp .nil)) rfl
   ·refine JC.cond_f (b := (!y11)) rfl hc12 ?_
    refine JC.skip (JQ.normal_block (JQ.go (JC.seq (JC.region (by rfl) ?_))))
    intro hQ
    refine JL.assign .none rfl (JL.assign .none rfl (JL.done hQ (JQ.go (JC.ret ?_))))
    obtain rfl := Option.some.inj hF
    exact JQ.outS rfl (.tmp (.tmp .nil)) rfl
-- 74 ferrule/counts.fells$1
def F_counts_fells_1 (n : Nat) (b : Blow) (force : Int) (m0 : Mp) (c_1 : Canopy) (c_2 : Bool) : Option (Bool × Mp) :=
 (kok 2 [force, b.At]).bind fun _ => (if ((mget m0 [force, b.At]) == 0) = true then ((F_gusts_Stands n c_1 [(Gust.mk force b.At)]).bind fun y43 => (kok 2 [force, b.At]).bind fun _ => some (mput m0 [force, b.At] y43.1)) else (some m0)).bind fun m_35 => (kok 2 [force, b.At]).bind fun _ => (if ((mget m_35 [force, b.At]) == 2) = true then (some true) else ((if (!c_2) = true then ((kok 2 [force, b.At]).bind fun _ => some ((mget m_35 [force, b.At]) == 3)) else (some false) : Option Bool).bind fun p79 => some p79) : Option Bool).bind fun p75 => some (p75, m_35)
theorem c_counts_fells_1 (n : Nat) (H : Hp) (b : Blow) (force : Int) (c_0_b bm : Nat) (c_0_c : Cells H c_0_b 0 [.map (some bm)]) (c_1 : Canopy) (c_1_v0 : Value) (hc_1_0 : SL H 7 R_Section c_1_v0 c_1.Frame.Sections) (c_1_v7 : Value) (hc_1_7 : SL H 2 R_Span c_1_v7 c_1.Ribs) (c_1_v8 : Value) (hc_1_8 : SL H 1 RInt c_1_v8 c_1.Shares) (c_1_b : Nat) (c_1_c : Cells H c_1_b 0 [c_1_v0, .int .i64 c_1.Frame.Low, .int .i64 c_1.Frame.High, .int .i64 c_1.Frame.Ease.Num, .int .i64 c_1.Frame.Ease.Den, .int .i64 c_1.Frame.Rod, .int .i64 c_1.Frame.Case, c_1_v7, c_1_v8]) (c_2 : Bool) (c_2_b : Nat) (c_2_c : Cells H c_2_b 0 [.bool c_2]) (J : Mp → Prop) (hole : H.hole = some (bm, fun o => ∃ es ck m, o = .map es ck ∧ MR 2 ekA m es ck ∧ J m)) (y : Bool) (hF : ∀ m0, J m0 → ∃ m1, J m1 ∧ F_counts_fells_1 n b force m0 c_1 c_2 = some (y, m1)) : SC Tryz.prog 74 [.agg [.int .i64 b.At, .int .i64 b.Force.Low, .int .i64 b.Force.High].toArray, .int .i64 force, .pointer (some ⟨c_0_b, 0, none⟩), .pointer (some ⟨c_1_b, 0, none⟩), .pointer (some ⟨c_2_b, 0, none⟩)] (.bool y) H := by
 refine SC.ofHole (N := 40) (J := J) Tryz.func74 rfl rfl rfl hole fun B H es0 ck0 m0 hsub hm0 hJ => ?_
 obtain ⟨m1_, hJ1, hF⟩ := hF m0 hJ
 refine ⟨m1_, hJ1, ?_⟩
 clear hole
 replace hc_1_0 := SL.fsub R_Section_fz hsub hc_1_0
 replace hc_1_7 := SL.fsub R_Span_fz hsub hc_1_7
 replace hc_1_8 := SL.fsub RInt.fz hsub hc_1_8
 replace c_0_c := Cells.fsub hsub c_0_c
 replace c_1_c := Cells.fsub hsub c_1_c
 replace c_2_c := Cells.fsub hsub c_2_c
 rw [F_counts_fells_1] at hF
 refine JC.seq (JC.region (by rfl) ?_)
 intro hQ
 refine JL.box (cs := [.int .i64 b.At, .int .i64 b.Force.Low, .int .i64 b.Force.High]) rfl .none rfl ?_
 intro b1
 refine JL.assign .none rfl (JL.done hQ (JQ.go (JC.seq (JC.region (by rfl) ?_))))
 intro hQ
 refine JL.move .none rfl (JL.fieldAddr fo_62_0 rfl .none rfl (JL.loadOwn 0 az_3 rfl rfl rfl .none rfl (JL.build (l := [.int .i64 force, .int .i64 b.At]) (by kernel_rfl) .none rfl ?_)))
 refine JL.alloc ze_64 .none rfl ?_
 intro b2
 refine JL.storeOwn 0 (cs := [.int .i64 force, .int .i64 b.At]) az_64 rfl rfl rfl (one_cons rfl (one_cons rfl one_nil)) rfl rfl .none ?_
 refine JL.done hQ (JQ.go (JC.seq (JC.seq (JC.region (by rfl) ?_))))
 intro hQ
 refine JL.loadH 0 az_120 rfl c_0_c rfl .none rfl ?_
 refine JL.loadOwn 0 az_64 rfl rfl rfl .none rfl ?_
 obtain ⟨u3, hu3, hF⟩ := bind_some hF
 refine JL.lookupM (k := [force, b.At]) mp_120 kt_64 rfl (.own 2 rfl) hm0 rfl hu3 .none rfl ?_
 refine JL.bin rfl rfl rfl .none rfl (JL.done hQ (JQ.go (JC.fresh (fun f => f 2 = .pointer (some ⟨c_0_b, 0, none⟩) ∧ f 3 = .pointer (some ⟨c_1_b, 0, none⟩) ∧ f 4 = .pointer (some ⟨c_2_b, 0, none⟩) ∧ f 7 = .bool false ∧ f 8 = .pointer (some ⟨b2, 0, none⟩) ∧ f 16 = .bool ((mget m0 [force, b.At]) == 0)) ⟨rfl, rfl, rfl, rfl, rfl, rfl⟩ ?_)))
 rintro f ⟨hf2, hf3, hf4, hf7, hf8, hf16⟩
 refine (JC.norm (i := 2) hf2 (JC.norm (i := 3) hf3 (JC.norm (i := 4) hf4 (JC.norm (i := 7) hf7 (JC.norm (i := 8) hf8 (JC.norm (i := 16) hf16 ?_))))))
 obtain ⟨r37, hlr37, hKr37⟩ := bind_some hF
 refine JC.join (fun (m_35 : Mp) H36 f bs gs => ∃ (em_35 : Array MapEntry) (cm_35 : Nat), f 2 = .pointer (some ⟨c_0_b, 0, none⟩) ∧ f 4 = .pointer (some ⟨c_2_b, 0, none⟩) ∧ f 8 = .pointer (some ⟨b2, 0, none⟩) ∧ bs = [(b2, .cells [.int .i64 force, .int .i64 b.At].toArray 64), (bm, .map em_35 cm_35)] ∧ gs = [] ∧ MR 2 ekA m_35 em_35 cm_35 ∧ HSub H H36 ∧ m_35 = r37) ?_ ?_
 ·have hF := hlr37
  rcases ite_some hF with ⟨hc38, hF⟩ | ⟨hc38, hF⟩
  ·refine JC.cond_t (b := ((mget m0 [force, b.At]) == 0)) rfl hc38 ?_
   obtain ⟨y43, hy43, hF⟩ := bind_some hF
   obtain ⟨u44, hu44, hF⟩ := bind_some hF
   refine JC.mixed 10 10 (tf 0 10) [(b2, .cells [.int .i64 force, .int .i64 b.At].toArray 64), (b1, .cells [.int .i64 b.At, .int .i64 b.Force.Low, .int .i64 b.Force.High].toArray 62)] (by rfl) mo_ (by kernel_rfl) (by kernel_rfl) ?_
   intro hQ hE
   refine JA.tk 0 (tf 1 9) hQ rfl hE (.cons_cons _ (.cons_cons _ (.cons _ (List.nil_sublist _)))) ?_
   refine JL.loadH 0 az_120 rfl c_0_c rfl .none rfl ?_
   refine JA.cont ?_
   refine JA.tk 1 (tf 2 8) hQ rfl hE (.cons_cons _ (.cons_cons _ (.cons _ (List.nil_sublist _)))) ?_
   refine JL.loadOwn 0 az_64 rfl rfl rfl .none rfl (JA.cont ?_)
   refine JA.tk 2 (tf 3 7) hQ rfl hE (.cons_cons _ (.cons_cons _ (.cons _ (List.nil_sublist _)))) ?_
   refine JL.loadH 0 az_30 rfl c_1_c rfl .none rfl ?_
   refine JA.cont ?_
   refine JA.tk 3 (tf 4 6) hQ rfl hE (.cons_cons _ (.cons_cons _ (.cons _ (List.nil_sublist _)))) ?_
   refine JL.loadOwn 0 az_64 rfl rfl rfl .none rfl (JA.cont ?_)
   refine JA.many [4] (by kernel_rfl) (by simp) (all_one ⟨_, (tf 5 5), rfl, (by kernel_rfl), ?_⟩)
   refine JL.buildSlice (e := 64) (l := [.int .i64 force, .int .i64 b.At]) (by kernel_rfl) .none rfl ?_
   intro b62
   refine JA.after hE (HSub.refl _) (.cons _ (.cons_cons _ (.cons_cons _ (.cons _ (List.nil_sublist _))))) ?_
   refine JA.many [5] (by kernel_rfl) (by simp) (all_one ⟨_, (tf 6 4), rfl, (by kernel_rfl), ?_⟩)
   refine JL.freezeC 0 (l := [.int .i64 force, .int .i64 b.At]) rfl ?_
   intro H63 hs63 hc64
   have hg65 : SL H63 2 R_Gust (.slice (some ⟨b62, 0, none⟩) 1 1) [(Gust.mk force b.At)] := CH.sl (l := [(Gust.mk force b.At)]) (CH.cons (cs := [.int .i64 force, .int .i64 b.At]) rfl rfl CH.nil) hc64 ⟨by simp, by simp⟩
   refine JL.callS (c_gusts_Stands n H63 c_1 c_1_v0 (SL.mono R_Section_mono hs63 hc_1_0) c_1_v7 (SL.mono R_Span_mono hs63 hc_1_7) c_1_v8 (SL.mono RInt.mono hs63 hc_1_8) [(Gust.mk force b.At)] (.slice (some ⟨b62, 0, none⟩) 1 1) hg65 y43 hy43) rfl en_75 .none rfl ?_
   refine JA.after hE hs63 (.cons_cons _ (.cons_cons _ (.cons _ (List.nil_sublist _)))) ?_
   refine JA.take 6 (listed' := (tf 7 3)) hQ rfl (by kernel_rfl) (by kernel_rfl) (by kernel_rfl) (by kernel_rfl) (by kernel_rfl) hE hs63 (.cons_cons _ (.cons_cons _ (.cons _ (List.nil_sublist _)))) ?_
   refine JL.move .none rfl (JA.cont ?_)
   refine JA.take 7 (listed' := (tf 8 2)) hQ rfl (by kernel_rfl) (by kernel_rfl) (by kernel_rfl) (by kernel_rfl) (by kernel_rfl) hE hs63 (.cons_cons _ (.cons_cons _ (.cons _ (List.nil_sublist _)))) ?_
   refine JL.extract rfl rfl .none rfl (JA.cont ?_)
   refine JA.take 8 (listed' := (tf 9 1)) hQ rfl (by kernel_rfl) (by kernel_rfl) (by kernel_rfl) (by kernel_rfl) (by kernel_rfl) hE hs63 (.cons_cons _ (.cons_cons _ (.cons _ (List.nil_sublist _)))) ?_
   refine JL.extract rfl rfl .none rfl (JA.cont ?_)
   refine JA.many [9] (by kernel_rfl) (by simp) (all_one ⟨_, (tf 10 0), rfl, (by kernel_rfl), ?_⟩)
   refine JL.updateM (k := [force, b.At]) 2 mp_120 kt_64 rfl rfl hm0 rfl hu44 rfl .none rfl ?_
   intro es66 ck67 hm68
   refine JA.after hE hs63 (.cons_cons _ (.cons_cons _ (.cons _ (List.nil_sublist _)))) ?_
   refine JA.done hQ (by kernel_rfl) ?_
   obtain rfl := Option.some.inj hF
   refine JQ.mask [true, false, true] [] ?_
   exact JQ.join (mput m0 [force, b.At] y43.1) ⟨es66, ck67, rfl, rfl, rfl, rfl, rfl, hm68, hs63, rfl⟩
  ·refine JC.cond_f (b := ((mget m0 [force, b.At]) == 0)) rfl hc38 ?_
   refine JC.skip ?_
   obtain rfl := Option.some.inj hF
   refine JQ.mask [true, false, true] [] ?_
   exact JQ.join m0 ⟨es0, ck0, rfl, rfl, rfl, rfl, rfl, hm0, (HSub.refl _), rfl⟩
 ·rintro m_35 H36 f bs gs ⟨em_35, cm_35, hf2, hf4, hf8, rfl, rfl, hm_35, hs36, rfl⟩
  have hF := hKr37
  try dsimp only at hF
  refine (JQ.norm (i := 2) hf2 (JQ.norm (i := 4) hf4 (JQ.norm (i := 8) hf8 ?_)))
  refine JQ.go (JC.seq (JC.region (by rfl) ?_))
  intro hQ
  refine JL.loadH 0 az_120 rfl (Cells.mono hs36 c_0_c) rfl .none rfl ?_
  refine JL.loadOwn 0 az_64 rfl rfl rfl .none rfl ?_
  obtain ⟨u69, hu69, hF⟩ := bind_some hF
  refine JL.lookupM (k := [force, b.At]) mp_120 kt_64 rfl (.own 1 rfl) hm_35 rfl hu69 .none rfl ?_
  refine JL.bin rfl rfl rfl .none rfl (JL.move .none rfl ?_)
  obtain ⟨p75, hp75, hF⟩ := bind_some hF
  refine JL.cut 9 (fun f => f 39 = .bool p75) ?_ ?_
  ·intro hJ76
   rcases ite_some hp75 with ⟨hc77, hF⟩ | ⟨hc77, hF⟩
   ·skip
    refine JL.skip (.bool rfl rfl rfl hc77) rfl (JL.skip (.bool rfl rfl rfl hc77) rfl (JL.skip (.bool rfl rfl rfl hc77) rfl (JL.skip (.no rfl rfl rfl) rfl (JL.skip (.no rfl rfl rfl) rfl (JL.skip (.no rfl rfl rfl) rfl (JL.skip (.no rfl rfl rfl) rfl (JL.skip (.bool rfl rfl rfl hc77) rfl (JL.pick_t (b := ((mget m_35 [force, b.At]) == 2)) rfl hc77 .none rfl ?_))))))))
    obtain rfl := Option.some.inj hF
    exact hJ76 _ (rfl)
   ·skip
    refine JL.loadH 0 az_4 rfl (Cells.mono hs36 c_2_c) rfl (.some rfl rfl rfl hc77) rfl ?_
    refine JL.not rfl (.some rfl rfl rfl hc77) rfl (JL.move (.some rfl rfl rfl hc77) rfl ?_)
    obtain ⟨p79, hp79, hF⟩ := bind_some hF
    refine JL.cut 5 (fun f => f 30 = .bool ((mget m_35 [force, b.At]) == 2) ∧ f 38 = .bool p79) ?_ ?_
    ·intro hJ80
     rcases ite_some hp79 with ⟨hc81, hF⟩ | ⟨hc81, hF⟩
     ·skip
      refine JL.loadH 0 az_120 rfl (Cells.mono hs36 c_0_c) rfl (.some rfl rfl rfl hc81) rfl ?_
      refine JL.loadOwn 0 az_64 rfl rfl rfl (.some rfl rfl rfl hc81) rfl ?_
      obtain ⟨u82, hu82, hF⟩ := bind_some hF
      refine JL.lookupM (k := [force, b.At]) mp_120 kt_64 rfl (.own 1 rfl) hm_35 rfl hu82 (.some rfl rfl rfl hc81) rfl ?_
      refine JL.bin rfl rfl rfl (.some rfl rfl rfl hc81) rfl (JL.pick_t (b := (!c_2)) rfl hc81 (.some rfl rfl rfl hc77) rfl ?_)
      obtain rfl := Option.some.inj hF
      exact hJ80 _ ⟨rfl, rfl⟩
     ·skip
      refine JL.skip (.bool rfl rfl rfl hc81) rfl (JL.skip (.bool rfl rfl rfl hc81) rfl (JL.skip (.bool rfl rfl rfl hc81) rfl (JL.skip (.bool rfl rfl rfl hc81) rfl (JL.pick_f (b := (!c_2)) rfl hc81 (.some rfl rfl rfl hc77) rfl ?_))))
      obtain rfl := Option.some.inj hF
      exact hJ80 _ ⟨rfl, rfl⟩
    ·rintro f ⟨hf30, hf38⟩
     refine (JL.norm (i := 30) hf30 (JL.norm (i := 38) hf38 ?_))
     refine JL.pick_f (b := ((mget m_35 [force, b.At]) == 2)) rfl hc77 .none rfl ?_
     obtain rfl := Option.some.inj hF
     exact hJ76 _ (rfl)
  ·rintro f hf39
   refine (JL.norm (i := 39) hf39 ?_)
   refine JL.assign .none rfl (JL.done hQ (JQ.go (JC.ret ?_)))
   obtain ⟨rfl, rfl⟩ := Prod.mk.inj (Option.some.inj hF)
   exact JQ.outK 1 rfl (.tmp .nil) rfl hs36 rfl hm_35
-- 42 ferrule/counts.fells
theorem c_counts_fells (n : Nat) (H : Hp) (d : Canopy) (d_v0 : Value) (hd_0 : SL H 7 R_Section d_v0 d.Frame.Sections) (d_v7 : Value) (hd_7 : SL H 2 R_Span d_v7 d.Ribs) (d_v8 : Value) (hd_8 : SL H 1 RInt d_v8 d.Shares) (surely : Bool) : XB Tryz.prog 42 [.agg [d_v0, .int .i64 d.Frame.Low, .int .i64 d.Frame.High, .int .i64 d.Frame.Ease.Num, .int .i64 d.Frame.Ease.Den, .int .i64 d.Frame.Rod, .int .i64 d.Frame.Case, d_v7, d_v8].toArray, .bool surely] H (fun H' v bs' => ∃ bm b1 b2 b3, v = .func (.func 74) #[] [.pointer (some ⟨b1, 0, none⟩), .pointer (some ⟨b2, 0, none⟩), .pointer (some ⟨b3, 0, none⟩)].toArray ∧ bs' = [(bm, .map #[] 0)] ∧ Cells H' b1 0 [.map (some bm)] ∧ Cells H' b2 0 [d_v0, .int .i64 d.Frame.Low, .int .i64 d.Frame.High, .int .i64 d.Frame.Ease.Num, .int .i64 d.Frame.Ease.Den, .int .i64 d.Frame.Rod, .int .i64 d.Frame.Case, d_v7, d_v8] ∧ Cells H' b3 0 [.bool surely]) := by
 refine XB.of (N := 8) Tryz.func42 rfl rfl rfl fun w => ?_
 refine JC.seq (JC.region (by rfl) ?_)
 intro hQ
 refine JL.box (cs := [d_v0, .int .i64 d.Frame.Low, .int .i64 d.Frame.High, .int .i64 d.Frame.Ease.Num, .int .i64 d.Frame.Ease.Den, .int .i64 d.Frame.Rod, .int .i64 d.Frame.Case, d_v7, d_v8]) rfl .none rfl ?_
 intro b2
 refine JL.box (cs := [.bool surely]) rfl .none rfl ?_
 intro b3
 refine JL.assign .none rfl (JL.done hQ (JQ.go (JC.seq (JC.region (by rfl) ?_))))
 intro hQ
 refine JL.makeMap .none rfl ?_
 intro bm
 refine JL.alloc ze_120 .none rfl ?_
 intro b1
 refine JL.storeOwn 0 (cs := [.map (some bm)]) az_120 rfl rfl rfl (one_cons rfl one_nil) rfl rfl .none ?_
 refine JL.done hQ (JQ.go (JC.seq (JC.region (by rfl) ?_)))
 intro hQ
 refine JL.makeFunc .none rfl ?_
 refine JL.assign .none rfl (JL.done hQ (JQ.go (JC.ret (JQ.freezeC 0 (l := [.map (some bm)]) rfl ?_))))
 intro H1 hs1 hc1
 refine JQ.freezeC 1 (l := [.bool surely]) rfl ?_
 intro H2 hs2 hc2
 refine JQ.freezeC 1 (l := [d_v0, .int .i64 d.Frame.Low, .int .i64 d.Frame.High, .int .i64 d.Frame.Ease.Num, .int .i64 d.Frame.Ease.Den, .int .i64 d.Frame.Rod, .int .i64 d.Frame.Case, d_v7, d_v8]) rfl ?_
 intro H3 hs3 hc3
 exact JQ.outB rfl (.tmp .nil) ⟨bm, b1, b2, b3, rfl, rfl, Cells.mono hs3 (Cells.mono hs2 hc1), hc3, Cells.mono hs3 hc2⟩
-- 41 ferrule/counts.bounds
noncomputable def F_counts_bounds_s1 (n : Nat)  : (Int × Int) → List Int × Int → Option (Int × Int)
 | (z_121, z_122), (kl130, v131) => (geti kl130 5).bind fun y144 => (geti kl130 5).bind fun y145 => some ((min z_121 y144), (max z_122 y145))
noncomputable def F_counts_bounds (n : Nat) (r : Run) (is : Bool) (asked : Blow → Int → Option Bool) : Option (Span × Int) :=
 (F_counts_open n r is asked).bind fun y3 => if (y3.2.2 != 0) = true then (some ((Span.mk 0 0), y3.2.2)) else ((neM y3.2.1).bind fun _ => ((permO (F_counts_bounds_s1 n) ((r.Blows.length : Int), 0) y3.2.1).bind fun z146 => match z146 with | (z_121, z_122) => some (z_121, z_122)).bind fun r84 => match r84 with | (z_81, z_82) => some ((Span.mk z_81 z_82), 0))
theorem c_counts_bounds (n : Nat) (H : Hp) (r : Run) (r_v0 : Value) (hr_0 : SL H 7 R_Section r_v0 r.Canopy.Frame.Sections) (r_v7 : Value) (hr_7 : SL H 2 R_Span r_v7 r.Canopy.Ribs) (r_v8 : Value) (hr_8 : SL H 1 RInt r_v8 r.Canopy.Shares) (r_v9 : Value) (hr_9 : SL H 3 R_Blow r_v9 r.Blows) (r_v10 : Value) (hr_10 : SL H 2 R_Meter r_v10 r.Meters) (is : Bool) (asked : Blow → Int → Option Bool) (asked_k : Nat) (asked_c : List Value) (asked_e : Ent Tryz.prog asked_k) (asked_h : ∀ H', HSub H H' → ∀ (a0_ : Blow) (a1_ : Int) (y : Bool), asked a0_ a1_ = some y → SC Tryz.prog asked_k ([.agg [.int .i64 a0_.At, .int .i64 a0_.Force.Low, .int .i64 a0_.Force.High].toArray, .int .i64 a1_] ++ asked_c) (.bool y) H') (y : Span × Int) (hF : F_counts_bounds n r is asked = some y) : SC Tryz.prog 41 [.agg [r_v0, .int .i64 r.Canopy.Frame.Low, .int .i64 r.Canopy.Frame.High, .int .i64 r.Canopy.Frame.Ease.Num, .int .i64 r.Canopy.Frame.Ease.Den, .int .i64 r.Canopy.Frame.Rod, .int .i64 r.Canopy.Frame.Case, r_v7, r_v8, r_v9, r_v10, .int .i64 r.Wrong].toArray, .bool is, .func (.func asked_k) #[] asked_c.toArray] (.tuple [.agg [.int .i64 y.1.Low, .int .i64 y.1.High].toArray, .int .i64 y.2].toArray) H := by
 rw [F_counts_bounds] at hF
 refine SC.of (N := 47) Tryz.func41 rfl rfl rfl fun w => ?_
 refine JC.seq (JC.region (by rfl) ?_)
 intro hQ
 refine JL.box (cs := [r_v0, .int .i64 r.Canopy.Frame.Low, .int .i64 r.Canopy.Frame.High, .int .i64 r.Canopy.Frame.Ease.Num, .int .i64 r.Canopy.Frame.Ease.Den, .int .i64 r.Canopy.Frame.Rod, .int .i64 r.Canopy.Frame.Case, r_v7, r_v8, r_v9, r_v10, .int .i64 r.Wrong]) rfl .none rfl ?_
 intro b1
 refine JL.alloc ze_42 .none rfl ?_
 intro b2
 refine JL.assign .none rfl (JL.done hQ (JQ.go (JC.seq (JC.region (by rfl) ?_))))
 intro hQ
 refine JL.loadOwn 1 az_34 rfl rfl rfl .none rfl (JL.move .none rfl (JL.move .none rfl ?_))
 obtain ⟨y3, hy3, hF⟩ := bind_some hF
 refine JL.callH (c_counts_open n H r r_v0 hr_0 r_v7 hr_7 r_v8 hr_8 r_v9 hr_9 r_v10 hr_10 is asked asked_k asked_c asked_e (fun H' hs' => asked_h H' hs') y3 hy3) rfl en_47 .none rfl ?_
 rintro H4 vv5 hs4 ⟨y3a_v0, y3b_v0, rfl, hy3a_0, hy3b_0⟩
 refine JL.move .none rfl (JL.extract rfl rfl .none rfl (JL.extract rfl rfl .none rfl (JL.extract rfl rfl .none rfl (JL.assign .none rfl (JL.assign .none rfl (JL.assign .none rfl (JL.done hQ (JQ.go (JC.fresh (fun f => f 3 = .pointer (some ⟨b1, 0, none⟩) ∧ f 6 = .pointer (some ⟨b2, 0, none⟩) ∧ f 7 = .int .i64 0 ∧ f 9 = y3b_v0 ∧ f 10 = .int .i64 y3.2.2) ⟨rfl, rfl, rfl, rfl, rfl⟩ ?_)))))))))
 rintro f ⟨hf3, hf6, hf7, hf9, hf10⟩
 refine (JC.norm (i := 3) hf3 (JC.norm (i := 6) hf6 (JC.norm (i := 7) hf7 (JC.norm (i := 9) hf9 (JC.norm (i := 10) hf10 ?_)))))
 refine JC.seq (JC.seq (JC.region (by rfl) ?_))
 intro hQ
 refine JL.move .none rfl (JL.bin rfl rfl rfl .none rfl (JL.done hQ (JQ.go ?_)))
 rcases ite_some hF with ⟨hc6, hF⟩ | ⟨hc6, hF⟩
 ·refine JC.cond_t (b := (y3.2.2 != 0)) rfl hc6 ?_
  refine JC.seq (JC.region (by rfl) ?_)
  intro hQ
  refine JL.build (l := [.int .i64 0, .int .i64 0]) (by kernel_rfl) .none rfl ?_
  refine JL.move .none rfl (JL.storeOwn 0 (cs := [.int .i64 0, .int .i64 0]) az_42 rfl rfl rfl (one_cons rfl (one_cons rfl one_nil)) rfl rfl .none ?_)
  refine JL.assign .none rfl (JL.done hQ (JQ.go (JC.ret (JQ.ret_then ?_))))
  obtain rfl := Option.some.inj hF
  exact JQ.outS rfl (.cell 0 az_42 rfl rfl rfl (.tmp .nil)) rfl
 ·refine JC.cond_f (b := (y3.2.2 != 0)) rfl hc6 ?_
  refine JC.skip (JQ.go (JC.seq (JC.region (by rfl) ?_)))
  intro hQ
  refine JL.fieldAddr fo_34_1 rfl .none rfl (JL.loadOwn 1 az_31 rfl rfl rfl .none rfl (JL.lenSL (R := R_Blow) ul_31 (SL.mono R_Blow_mono hs4 hr_9) .none rfl ?_))
  refine JL.build (l := [.int .i64 (r.Blows.length : Int), .int .i64 0]) (by kernel_rfl) .none rfl ?_
  refine JL.alloc ze_42 .none rfl ?_
  intro b7
  refine JL.storeOwn 0 (cs := [.int .i64 (r.Blows.length : Int), .int .i64 0]) az_42 rfl rfl rfl (one_cons rfl (one_cons rfl one_nil)) rfl rfl .none ?_
  refine JL.done hQ (JQ.go (JC.seq (JC.seq (JC.region (by rfl) ?_))))
  intro hQ
  refine JL.move .none rfl ?_
  obtain ⟨u13, hu13, hF⟩ := bind_some hF
  obtain ⟨mb14, es15, ck16, hv17, hH18, hm19⟩ := MD.get hy3b_0 (neM_some hu13)
  refine JL.rangeM mp_92 hv17 (.data hH18) hm19 .none rfl ?_
  intro r8 sn9 seen10 cz11 hI12
  refine JL.done hQ (JQ.go (JC.fresh (fun f => f 6 = .pointer (some ⟨b2, 0, none⟩) ∧ f 7 = .int .i64 0 ∧ f 11 = .pointer (some ⟨b7, 0, none⟩) ∧ f 30 = .pointer (some ⟨r8, 0, none⟩)) ⟨rfl, rfl, rfl, rfl⟩ ?_))
  rintro f ⟨hf6, hf7, hf11, hf30⟩
  refine (JC.norm (i := 6) hf6 (JC.norm (i := 7) hf7 (JC.norm (i := 11) hf11 (JC.norm (i := 30) hf30 ?_))))
  obtain ⟨r84, hlr84, hKr84⟩ := bind_some hF
  refine JC.join (fun (x : Int × Int) H83 f bs gs => match x with | (z_81, z_82) => f 6 = .pointer (some ⟨b2, 0, none⟩) ∧ f 11 = .pointer (some ⟨b7, 0, none⟩) ∧ bs = [(b7, .cells [.int .i64 z_81, .int .i64 z_82].toArray 42), (b2, .cells [.int .i64 0, .int .i64 0].toArray 42)] ∧ gs = [] ∧ HSub H4 H83 ∧ (z_81, z_82) = r84) ?_ ?_
  ·skip
   obtain ⟨rs124, hper125, hl126⟩ := bind_some hlr84
   refine JC.block (JC.mask [true, true, true, false] [] ?_)
   refine JC.mapLoop (srt_nodup hI12.srt) hper125 (fun (dd : Mp) (x : Int × Int) H123 f bs gs => match x with | (z_121, z_122) => ∃ (sn_r8 : Nat) (se_r8 : Array Nat) (cz_r8 : Nat), f 6 = .pointer (some ⟨b2, 0, none⟩) ∧ f 11 = .pointer (some ⟨b7, 0, none⟩) ∧ f 30 = .pointer (some ⟨r8, 0, none⟩) ∧ bs = [(r8, .mapIter (some mb14) sn_r8 se_r8 cz_r8), (b7, .cells [.int .i64 z_121, .int .i64 z_122].toArray 42), (b2, .cells [.int .i64 0, .int .i64 0].toArray 42)] ∧ gs = [] ∧ IR 6 ekA y3.2.1 y3.2.1 es15 ck16 sn_r8 se_r8 cz_r8 dd ∧ HSub H4 H123) ⟨sn9, seen10, cz11, rfl, rfl, rfl, rfl, rfl, hI12, (HSub.refl _)⟩ ?_
   rintro dd ⟨z_121, z_122⟩ H123 f bs gs ⟨sn_r8, se_r8, cz_r8, hf6, hf11, hf30, rfl, rfl, hI_r8, hs123⟩ hend127 hgo128
   refine (JC.norm (i := 6) hf6 (JC.norm (i := 11) hf11 (JC.norm (i := 30) hf30 ?_)))
   refine JC.seq (JC.region (by rfl) ?_)
   intro hQ
   refine JL.nextM 0 kt_104 rfl rfl (.data (hs123.le _ _ hH18)) hm19 hI_r8 .none rfl ?_ ?_
   ·intro hp129
    refine JL.extract rfl rfl .none rfl (JL.done hQ (JQ.go (JC.seq (JC.cond_f (b := false) rfl rfl ?_))))
    refine JC.exit (JQ.exit_then (JQ.exit_then (JQ.exit_block ?_)))
    have er141 := hend127 hp129
    subst er141
    obtain rfl := Option.some.inj hl126
    refine JQ.mask [false, true, true] [] ?_
    exact JQ.join (z_121, z_122) ⟨rfl, rfl, rfl, rfl, hs123, rfl⟩
   ·rintro ⟨kl130, v131⟩ seen132 cz133 hx134 hxm135 hxn136 hI137 hE138
    have kok142 := (hm19.okk _ hxm135)
    dsimp only at kok142
    obtain ⟨sp140, hst139⟩ := hgo128 (kl130, v131) hx134 hxn136
    have hF := hst139
    rw [F_counts_bounds_s1] at hF
    refine JL.extract rfl rfl .none rfl (JL.done hQ (JQ.go (JC.seq (JC.cond_t (b := true) rfl rfl ?_))))
    refine JC.skip (JQ.go (JC.block (JC.seq (JC.region (by rfl) ?_))))
    intro hQ
    refine JL.entryIt (y := (kl130, v131)) 0 rfl rfl (.data (hs123.le _ _ hH18)) hm19 hE138 .none rfl ?_
    refine JL.extract rfl rfl .none rfl (JL.alloc ze_104 .none rfl ?_)
    intro b143
    refine JL.storeArr (l := [0, 0, 0, 0, 0, 0]) (l' := kl130) 0 az_104 rfl rfl rfl rfl kok142.1 .none ?_
    refine JL.done hQ (JQ.go (JC.region (by rfl) ?_))
    intro hQ
    refine JL.fieldAddr fo_42_0 rfl .none rfl (JL.loadOwn 2 az_3 rfl rfl rfl .none rfl ?_)
    obtain ⟨y144, hy144, hF⟩ := bind_some hF
    refine JL.indexArrP (l := kl130) ar_104 az_3 rfl rfl kok142.1 hy144 .none rfl ?_
    refine JL.loadEl (j := 5) 0 az_3 rfl rfl hy144 .none rfl ?_
    refine JL.min rfl rfl .none rfl ?_
    refine JL.fieldAddr fo_42_1 rfl .none rfl (JL.loadOwn 2 az_3 rfl rfl rfl .none rfl ?_)
    obtain ⟨y145, hy145, hF⟩ := bind_some hF
    refine JL.indexArrP (l := kl130) ar_104 az_3 rfl rfl kok142.1 hy145 .none rfl ?_
    refine JL.loadEl (j := 5) 0 az_3 rfl rfl hy145 .none rfl ?_
    refine JL.max rfl rfl .none rfl ?_
    refine JL.build (l := [.int .i64 (min z_121 y144), .int .i64 (max z_122 y145)]) (by kernel_rfl) .none rfl ?_
    refine JL.storeOwn 2 (cs := [.int .i64 (min z_121 y144), .int .i64 (max z_122 y145)]) az_42 rfl rfl rfl (one_cons rfl (one_cons rfl one_nil)) rfl rfl .none ?_
    refine JL.done hQ (JQ.normal_block ?_)
    obtain rfl := Option.some.inj hF
    refine JQ.mask [false, true, true, true] [] ?_
    exact JQ.mnext hx134 hxn136 hst139 ⟨sn_r8, seen132, cz133, rfl, rfl, rfl, rfl, rfl, hI137, hs123⟩
  ·rintro ⟨z_81, z_82⟩ H83 f bs gs ⟨hf6, hf11, rfl, rfl, hs83, rfl⟩
   have hF := hKr84
   try dsimp only at hF
   refine (JQ.norm (i := 6) hf6 (JQ.norm (i := 11) hf11 ?_))
   refine JQ.go (JC.seq (JC.region (by rfl) ?_))
   intro hQ
   refine JL.loadOwn 0 az_42 rfl rfl rfl .none rfl (JL.storeOwn 1 (cs := [.int .i64 z_81, .int .i64 z_82]) az_42 rfl rfl rfl (one_cons rfl (one_cons rfl one_nil)) rfl rfl .none ?_)
   refine JL.assign .none rfl (JL.done hQ (JQ.go (JC.ret ?_)))
   obtain rfl := Option.some.inj hF
   exact JQ.outS rfl (.cell 1 az_42 rfl rfl rfl (.tmp .nil)) rfl
end Go.Proofs.YtcipdblhopffbaaGreat
end
section
set_option maxRecDepth 100000
set_option maxHeartbeats 40000000
namespace Go.Proofs.YtcipdblhopffbaaGreat
open Go Go.RowKit Go.Dec
set_option linter.unusedVariables false
-- 11 ferrule/counts.Harm
/-- what the function that remembers answers -/
noncomputable def F_asked (n : Nat) (d : Canopy) (surely : Bool) (b : Blow) (force : Int) : Option Bool :=
 (kok 2 [force, b.At]).bind fun _ => (F_gusts_Stands n d [Gust.mk force b.At]).bind fun y => some ((y.1 == 2) || (!surely && (y.1 == 3)))
/-- what is remembered -/
def Cached (n : Nat) (d : Canopy) (m : Mp) : Prop := Srt m ∧ ∀ p ∈ m, ∃ f a e, p.1 = [f, a] ∧ F_gusts_Stands n d [Gust.mk f a] = some (p.2, e)
theorem cached_nil {n : Nat} {d : Canopy} : Cached n d [] := ⟨List.Pairwise.nil, by simp⟩
theorem asked_ok {n : Nat} {d : Canopy} {surely : Bool} {b : Blow} {force : Int} {y : Bool} (h : F_asked n d surely b force = some y) {m0 : Mp} (hJ : Cached n d m0) : ∃ m1, Cached n d m1 ∧ F_counts_fells_1 n b force m0 d surely = some (y, m1) := by
 unfold F_asked at h
 obtain ⟨u, hu, h⟩ := bind_some h
 obtain ⟨z, hz, h⟩ := bind_some h
 cases Option.some.inj h
 obtain ⟨hs, hm⟩ := hJ
 have tail : ∀ m : Mp, mget m [force, b.At] = z.1 → ((kok 2 [force, b.At]).bind fun _ => (if ((mget m [force, b.At]) == 2) = true then (some true) else ((if (!surely) = true then ((kok 2 [force, b.At]).bind fun _ => some ((mget m [force, b.At]) == 3)) else (some false) : Option Bool).bind fun p79 => some p79) : Option Bool).bind fun p75 => some (p75, m)) = some ((z.1 == 2) || (!surely && (z.1 == 3)), m) := fun m e => by
  rw [hu, e]
  cases surely <;> cases h2 : (z.1 == 2) <;> simp
 unfold F_counts_fells_1
 rw [hu]
 simp only [Option.bind_some]
 by_cases h0 : (mget m0 [force, b.At] == 0) = true
 ·refine ⟨mput m0 [force, b.At] z.1, ⟨srt_mput hs, fun p hp => ?_⟩, ?_⟩
  ·rcases (mem_mput hs).1 hp with rfl | ⟨hp, _⟩
   ·exact ⟨force, b.At, z.2, rfl, hz⟩
   ·exact hm p hp
  ·rw [if_pos h0, hz]
   simp only [Option.bind_some]
   have := tail (mput m0 [force, b.At] z.1) (mget_mput hs)
   rw [hu] at this
   simpa only [Option.bind_some] using this
 ·have hne : mget m0 [force, b.At] ≠ 0 := by simpa using h0
  have hv : mget m0 [force, b.At] = z.1 := by
   unfold mget at hne ⊢
   cases hf : m0.find? (fun p => p.1 == [force, b.At]) with
   | none => rw [hf] at hne; exact absurd rfl hne
   | some p =>
    obtain ⟨f, a, e, h1, h2⟩ := hm p (List.mem_of_find?_eq_some hf)
    have h3 := List.find?_some hf
    simp only [beq_iff_eq] at h3
    rw [h1] at h3
    simp only [List.cons.injEq, and_true] at h3
    obtain ⟨rfl, rfl⟩ := h3
    rw [hz] at h2
    simp only [Option.some.injEq] at h2
    rw [h2]
  refine ⟨m0, ⟨hs, hm⟩, ?_⟩
  rw [if_neg h0]
  simp only [Option.bind_some]
  have := tail m0 hv
  rw [hu] at this
  simpa only [Option.bind_some] using this
theorem c_harm_bounds (n : Nat) (H : Hp) (r : Run) (r_v0 : Value) (hr_0 : SL H 7 R_Section r_v0 r.Canopy.Frame.Sections) (r_v7 : Value) (hr_7 : SL H 2 R_Span r_v7 r.Canopy.Ribs) (r_v8 : Value) (hr_8 : SL H 1 RInt r_v8 r.Canopy.Shares) (r_v9 : Value) (hr_9 : SL H 3 R_Blow r_v9 r.Blows) (r_v10 : Value) (hr_10 : SL H 2 R_Meter r_v10 r.Meters) (surely : Bool) (bm b1 b2 b3 : Nat) (hc1 : Cells H b1 0 [.map (some bm)]) (hc2 : Cells H b2 0 [r_v0, .int .i64 r.Canopy.Frame.Low, .int .i64 r.Canopy.Frame.High, .int .i64 r.Canopy.Frame.Ease.Num, .int .i64 r.Canopy.Frame.Ease.Den, .int .i64 r.Canopy.Frame.Rod, .int .i64 r.Canopy.Frame.Case, r_v7, r_v8]) (hc3 : Cells H b3 0 [.bool surely]) (y : Span × Int) (hF : F_counts_bounds n r true (F_asked n r.Canopy surely) = some y) :
  SC Tryz.prog 41 [.agg [r_v0, .int .i64 r.Canopy.Frame.Low, .int .i64 r.Canopy.Frame.High, .int .i64 r.Canopy.Frame.Ease.Num, .int .i64 r.Canopy.Frame.Ease.Den, .int .i64 r.Canopy.Frame.Rod, .int .i64 r.Canopy.Frame.Case, r_v7, r_v8, r_v9, r_v10, .int .i64 r.Wrong].toArray, .bool true, .func (.func 74) #[] [.pointer (some ⟨b1, 0, none⟩), .pointer (some ⟨b2, 0, none⟩), .pointer (some ⟨b3, 0, none⟩)].toArray] (.tuple [.agg [.int .i64 y.1.Low, .int .i64 y.1.High].toArray, .int .i64 y.2].toArray) (hol H bm (fun o => ∃ es ck m, o = .map es ck ∧ MR 2 ekA m es ck ∧ Cached n r.Canopy m)) :=
 c_counts_bounds n (hol H bm (fun o => ∃ es ck m, o = .map es ck ∧ MR 2 ekA m es ck ∧ Cached n r.Canopy m)) r r_v0 (SL.fsub R_Section_fz (fun _ _ h => h) hr_0) r_v7 (SL.fsub R_Span_fz (fun _ _ h => h) hr_7) r_v8 (SL.fsub RInt.fz (fun _ _ h => h) hr_8) r_v9 (SL.fsub R_Blow_fz (fun _ _ h => h) hr_9) r_v10 (SL.fsub R_Meter_fz (fun _ _ h => h) hr_10) true (F_asked n r.Canopy surely) 74 [.pointer (some ⟨b1, 0, none⟩), .pointer (some ⟨b2, 0, none⟩), .pointer (some ⟨b3, 0, none⟩)] en_74
  (fun H' hs' a0 a1 y' hy' => c_counts_fells_1 n H' a0 a1 b1 bm (Cells.mono hs' (Cells.hol hc1)) r.Canopy r_v0 (SL.mono R_Section_mono hs' (SL.fsub R_Section_fz (fun _ _ h => h) hr_0)) r_v7 (SL.mono R_Span_mono hs' (SL.fsub R_Span_fz (fun _ _ h => h) hr_7)) r_v8 (SL.mono RInt.mono hs' (SL.fsub RInt.fz (fun _ _ h => h) hr_8)) b2 (Cells.mono hs' (Cells.hol hc2)) surely b3 (Cells.mono hs' (Cells.hol hc3)) (Cached n r.Canopy) hs'.hole y' (fun m0 hJ => asked_ok hy' hJ)) y hF
noncomputable def F_counts_Harm (n : Nat) (r : Run) : Option (Span × Int) :=
 (F_counts_bounds n r true (F_asked n r.Canopy true)).bind fun y11 => if (y11.2 != 0) = true then (some ((Span.mk 0 0), y11.2)) else ((F_counts_bounds n r true (F_asked n r.Canopy false)).bind fun y42 => some ((Span.mk y11.1.Low y42.1.High), 0))
theorem c_counts_Harm (n : Nat) (H : Hp) (r : Run) (r_v0 : Value) (hr_0 : SL H 7 R_Section r_v0 r.Canopy.Frame.Sections) (r_v7 : Value) (hr_7 : SL H 2 R_Span r_v7 r.Canopy.Ribs) (r_v8 : Value) (hr_8 : SL H 1 RInt r_v8 r.Canopy.Shares) (r_v9 : Value) (hr_9 : SL H 3 R_Blow r_v9 r.Blows) (r_v10 : Value) (hr_10 : SL H 2 R_Meter r_v10 r.Meters) (y : Span × Int) (hF : F_counts_Harm n r = some y) : SC Tryz.prog 11 [.agg [r_v0, .int .i64 r.Canopy.Frame.Low, .int .i64 r.Canopy.Frame.High, .int .i64 r.Canopy.Frame.Ease.Num, .int .i64 r.Canopy.Frame.Ease.Den, .int .i64 r.Canopy.Frame.Rod, .int .i64 r.Canopy.Frame.Case, r_v7, r_v8, r_v9, r_v10, .int .i64 r.Wrong].toArray] (.tuple [.agg [.int .i64 y.1.Low, .int .i64 y.1.High].toArray, .int .i64 y.2].toArray) H := by
 rw [F_counts_Harm] at hF
 refine SC.of (N := 33) Tryz.func11 rfl rfl rfl fun w => ?_
 refine JC.seq (JC.region (by rfl) ?_)
 intro hQ
 refine JL.box (cs := [r_v0, .int .i64 r.Canopy.Frame.Low, .int .i64 r.Canopy.Frame.High, .int .i64 r.Canopy.Frame.Ease.Num, .int .i64 r.Canopy.Frame.Ease.Den, .int .i64 r.Canopy.Frame.Rod, .int .i64 r.Canopy.Frame.Case, r_v7, r_v8, r_v9, r_v10, .int .i64 r.Wrong]) rfl .none rfl ?_
 intro b1
 refine JL.alloc ze_42 .none rfl ?_
 intro b2
 refine JL.assign .none rfl (JL.done hQ (JQ.go (JC.seq ?_)))
 obtain ⟨y11, hy11, hF⟩ := bind_some hF
 refine JC.mixed 11 11 (tf 0 11) [(b2, .cells [.int .i64 0, .int .i64 0].toArray 42), (b1, .cells [r_v0, .int .i64 r.Canopy.Frame.Low, .int .i64 r.Canopy.Frame.High, .int .i64 r.Canopy.Frame.Ease.Num, .int .i64 r.Canopy.Frame.Ease.Den, .int .i64 r.Canopy.Frame.Rod, .int .i64 r.Canopy.Frame.Case, r_v7, r_v8, r_v9, r_v10, .int .i64 r.Wrong].toArray 34)] (by rfl) mo_ (by kernel_rfl) (by kernel_rfl) ?_
 intro hQ hE
 refine JA.cut 2 (tf 9 2) (fun H32 f bs gs => ∃ (b31 : Nat), f 1 = .pointer (some ⟨b1, 0, none⟩) ∧ f 2 = .pointer (some ⟨b2, 0, none⟩) ∧ f 4 = .pointer (some ⟨b31, 0, none⟩) ∧ f 14 = .agg [.int .i64 y11.1.Low, .int .i64 y11.1.High].toArray ∧ f 15 = .int .i64 y11.2 ∧ bs = [(b31, .cells [.int .i64 0, .int .i64 0].toArray 42), (b2, .cells [.int .i64 0, .int .i64 0].toArray 42), (b1, .cells [r_v0, .int .i64 r.Canopy.Frame.Low, .int .i64 r.Canopy.Frame.High, .int .i64 r.Canopy.Frame.Ease.Num, .int .i64 r.Canopy.Frame.Ease.Den, .int .i64 r.Canopy.Frame.Rod, .int .i64 r.Canopy.Frame.Case, r_v7, r_v8, r_v9, r_v10, .int .i64 r.Wrong].toArray 34)] ∧ gs = [] ∧ HSub H H32) ?_ ?_
 ·rintro H32 f bs gs ⟨b31, hf1, hf2, hf4, hf14, hf15, rfl, rfl, hs32⟩
  refine (JA.norm (i := 1) hf1 (JA.norm (i := 2) hf2 (JA.norm (i := 4) hf4 (JA.norm (i := 14) hf14 (JA.norm (i := 15) hf15 ?_)))))
  refine JA.many [9] (by kernel_rfl) (by simp) (all_one ⟨_, (tf 10 1), rfl, (by kernel_rfl), ?_⟩)
  refine JL.storeOwn 0 (cs := [.int .i64 y11.1.Low, .int .i64 y11.1.High]) az_42 rfl rfl rfl (one_cons rfl (one_cons rfl one_nil)) rfl rfl .none ?_
  refine JA.after hE hs32 (.cons _ (.cons_cons _ (.cons_cons _ (List.nil_sublist _)))) ?_
  refine JA.take 10 (listed' := (tf 11 0)) hQ rfl (by kernel_rfl) (by kernel_rfl) (by kernel_rfl) (by kernel_rfl) (by kernel_rfl) hE hs32 (.cons _ (.cons_cons _ (.cons_cons _ (List.nil_sublist _)))) ?_
  refine JL.assign .none rfl (JA.cont ?_)
  refine JA.done hQ (by kernel_rfl) ?_
  refine JQ.go (JC.seq (JC.seq (JC.region (by rfl) ?_)))
  intro hQ
  refine JL.move .none rfl (JL.bin rfl rfl rfl .none rfl (JL.done hQ (JQ.go ?_)))
  rcases ite_some hF with ⟨hc33, hF⟩ | ⟨hc33, hF⟩
  ·refine JC.cond_t (b := (y11.2 != 0)) rfl hc33 ?_
   refine JC.seq (JC.region (by rfl) ?_)
   intro hQ
   refine JL.build (l := [.int .i64 0, .int .i64 0]) (by kernel_rfl) .none rfl ?_
   refine JL.move .none rfl (JL.storeOwn 1 (cs := [.int .i64 0, .int .i64 0]) az_42 rfl rfl rfl (one_cons rfl (one_cons rfl one_nil)) rfl rfl .none ?_)
   refine JL.assign .none rfl (JL.done hQ (JQ.go (JC.ret (JQ.ret_then ?_))))
   obtain rfl := Option.some.inj hF
   exact JQ.outS rfl (.cell 1 az_42 rfl rfl rfl (.tmp .nil)) rfl
  ·refine JC.cond_f (b := (y11.2 != 0)) rfl hc33 ?_
   refine JC.skip (JQ.go (JC.seq ?_))
   obtain ⟨y42, hy42, hF⟩ := bind_some hF
   refine JC.mixed 11 11 (tf 0 11) [(b31, .cells [.int .i64 y11.1.Low, .int .i64 y11.1.High].toArray 42), (b2, .cells [.int .i64 0, .int .i64 0].toArray 42), (b1, .cells [r_v0, .int .i64 r.Canopy.Frame.Low, .int .i64 r.Canopy.Frame.High, .int .i64 r.Canopy.Frame.Ease.Num, .int .i64 r.Canopy.Frame.Ease.Den, .int .i64 r.Canopy.Frame.Rod, .int .i64 r.Canopy.Frame.Case, r_v7, r_v8, r_v9, r_v10, .int .i64 r.Wrong].toArray 34)] (by rfl) mo_ (by kernel_rfl) (by kernel_rfl) ?_
   intro hQ hE
   refine JA.cut 2 (tf 9 2) (fun H63 f bs gs => ∃ (b62 : Nat), f 2 = .pointer (some ⟨b2, 0, none⟩) ∧ f 4 = .pointer (some ⟨b31, 0, none⟩) ∧ f 6 = .pointer (some ⟨b62, 0, none⟩) ∧ f 26 = .agg [.int .i64 y42.1.Low, .int .i64 y42.1.High].toArray ∧ f 27 = .int .i64 y42.2 ∧ bs = [(b62, .cells [.int .i64 0, .int .i64 0].toArray 42), (b31, .cells [.int .i64 y11.1.Low, .int .i64 y11.1.High].toArray 42), (b2, .cells [.int .i64 0, .int .i64 0].toArray 42), (b1, .cells [r_v0, .int .i64 r.Canopy.Frame.Low, .int .i64 r.Canopy.Frame.High, .int .i64 r.Canopy.Frame.Ease.Num, .int .i64 r.Canopy.Frame.Ease.Den, .int .i64 r.Canopy.Frame.Rod, .int .i64 r.Canopy.Frame.Case, r_v7, r_v8, r_v9, r_v10, .int .i64 r.Wrong].toArray 34)] ∧ gs = [] ∧ HSub H32 H63) ?_ ?_
   ·rintro H63 f bs gs ⟨b62, hf2, hf4, hf6, hf26, hf27, rfl, rfl, hs63⟩
    refine (JA.norm (i := 2) hf2 (JA.norm (i := 4) hf4 (JA.norm (i := 6) hf6 (JA.norm (i := 26) hf26 (JA.norm (i := 27) hf27 ?_)))))
    refine JA.many [9] (by kernel_rfl) (by simp) (all_one ⟨_, (tf 10 1), rfl, (by kernel_rfl), ?_⟩)
    refine JL.storeOwn 0 (cs := [.int .i64 y42.1.Low, .int .i64 y42.1.High]) az_42 rfl rfl rfl (one_cons rfl (one_cons rfl one_nil)) rfl rfl .none ?_
    refine JA.after hE hs63 (.cons _ (.cons_cons _ (.cons_cons _ (.cons_cons _ (List.nil_sublist _))))) ?_
    refine JA.take 10 (listed' := (tf 11 0)) hQ rfl (by kernel_rfl) (by kernel_rfl) (by kernel_rfl) (by kernel_rfl) (by kernel_rfl) hE hs63 (.cons _ (.cons_cons _ (.cons_cons _ (.cons_cons _ (List.nil_sublist _))))) ?_
    refine JL.assign .none rfl (JA.cont ?_)
    refine JA.done hQ (by kernel_rfl) ?_
    refine JQ.go (JC.seq (JC.region (by rfl) ?_))
    intro hQ
    refine JL.fieldAddr fo_42_0 rfl .none rfl (JL.loadOwn 1 az_3 rfl rfl rfl .none rfl (JL.fieldAddr fo_42_1 rfl .none rfl (JL.loadOwn 0 az_3 rfl rfl rfl .none rfl (JL.build (l := [.int .i64 y11.1.Low, .int .i64 y42.1.High]) (by kernel_rfl) .none rfl ?_))))
    refine JL.storeOwn 2 (cs := [.int .i64 y11.1.Low, .int .i64 y42.1.High]) az_42 rfl rfl rfl (one_cons rfl (one_cons rfl one_nil)) rfl rfl .none ?_
    refine JL.assign .none rfl (JL.done hQ (JQ.go (JC.ret ?_)))
    obtain rfl := Option.some.inj hF
    exact JQ.outS rfl (.cell 2 az_42 rfl rfl rfl (.tmp .nil)) rfl
   intro nd62_0
   refine JA.cut 6 #[true, true, true, true, false, false, false, false, true, false, false] (fun H64 f bs gs => ∃ (b53 : Nat) (bm45 : Nat) (b46 : Nat) (b47 : Nat) (b48 : Nat), f 2 = .pointer (some ⟨b2, 0, none⟩) ∧ f 4 = .pointer (some ⟨b31, 0, none⟩) ∧ f 6 = .pointer (some ⟨b53, 0, none⟩) ∧ f 21 = .agg [r_v0, .int .i64 r.Canopy.Frame.Low, .int .i64 r.Canopy.Frame.High, .int .i64 r.Canopy.Frame.Ease.Num, .int .i64 r.Canopy.Frame.Ease.Den, .int .i64 r.Canopy.Frame.Rod, .int .i64 r.Canopy.Frame.Case, r_v7, r_v8, r_v9, r_v10, .int .i64 r.Wrong].toArray ∧ f 24 = .func (.func 74) #[] [.pointer (some ⟨b46, 0, none⟩), .pointer (some ⟨b47, 0, none⟩), .pointer (some ⟨b48, 0, none⟩)].toArray ∧ bs = [(b53, .cells [.int .i64 0, .int .i64 0].toArray 42), (bm45, .map #[] 0), (b31, .cells [.int .i64 y11.1.Low, .int .i64 y11.1.High].toArray 42), (b2, .cells [.int .i64 0, .int .i64 0].toArray 42), (b1, .cells [r_v0, .int .i64 r.Canopy.Frame.Low, .int .i64 r.Canopy.Frame.High, .int .i64 r.Canopy.Frame.Ease.Num, .int .i64 r.Canopy.Frame.Ease.Den, .int .i64 r.Canopy.Frame.Rod, .int .i64 r.Canopy.Frame.Case, r_v7, r_v8, r_v9, r_v10, .int .i64 r.Wrong].toArray 34)] ∧ gs = [] ∧ MR 2 ekA ([] : Mp) #[] 0 ∧ Cells H64 b46 0 [.map (some bm45)] ∧ Cells H64 b47 0 [r_v0, .int .i64 r.Canopy.Frame.Low, .int .i64 r.Canopy.Frame.High, .int .i64 r.Canopy.Frame.Ease.Num, .int .i64 r.Canopy.Frame.Ease.Den, .int .i64 r.Canopy.Frame.Rod, .int .i64 r.Canopy.Frame.Case, r_v7, r_v8] ∧ Cells H64 b48 0 [.bool false] ∧ HSub H32 H64) ?_ ?_
   ·rintro H64 f bs gs ⟨b53, bm45, b46, b47, b48, hf2, hf4, hf6, hf21, hf24, rfl, rfl, hm65, hm66, hm67, hm68, hs64⟩
    refine (JA.norm (i := 2) hf2 (JA.norm (i := 4) hf4 (JA.norm (i := 6) hf6 (JA.norm (i := 21) hf21 (JA.norm (i := 24) hf24 ?_)))))
    refine JA.many [4] (by kernel_rfl) (by simp) (all_one ⟨_, #[true, true, true, true, true, false, false, false, true, false, false], rfl, (by kernel_rfl), ?_⟩)
    refine JL.callHole 1 _ rfl ⟨_, _, _, rfl, MR.empty, cached_nil⟩ (c_harm_bounds n H64 r r_v0 (SL.mono R_Section_mono (HSub.trans hs32 hs64) hr_0) r_v7 (SL.mono R_Span_mono (HSub.trans hs32 hs64) hr_7) r_v8 (SL.mono RInt.mono (HSub.trans hs32 hs64) hr_8) r_v9 (SL.mono R_Blow_mono (HSub.trans hs32 hs64) hr_9) r_v10 (SL.mono R_Meter_mono (HSub.trans hs32 hs64) hr_10) false bm45 b46 b47 b48 hm66 hm67 hm68 y42 hy42) rfl en_41 .none rfl ?_
    refine JA.after hE hs64 (.cons _ (.cons_cons _ (.cons_cons _ (.cons_cons _ (List.nil_sublist _))))) ?_
    refine JA.take 5 (listed' := #[true, true, true, true, true, true, false, false, true, false, false]) hQ rfl (by kernel_rfl) (by kernel_rfl) (by kernel_rfl) (by kernel_rfl) (by kernel_rfl) hE hs64 (.cons _ (.cons_cons _ (.cons_cons _ (.cons_cons _ (List.nil_sublist _))))) ?_
    refine JL.move .none rfl (JA.cont ?_)
    refine JA.take 6 (listed' := #[true, true, true, true, true, true, true, false, true, false, false]) hQ rfl (by kernel_rfl) (by kernel_rfl) (by kernel_rfl) (by kernel_rfl) (by kernel_rfl) hE hs64 (.cons _ (.cons_cons _ (.cons_cons _ (.cons_cons _ (List.nil_sublist _))))) ?_
    refine JL.extract rfl rfl .none rfl (JA.cont ?_)
    refine JA.take 7 (listed' := (tf 9 2)) hQ rfl (by kernel_rfl) (by kernel_rfl) (by kernel_rfl) (by kernel_rfl) (by kernel_rfl) hE hs64 (.cons _ (.cons_cons _ (.cons_cons _ (.cons_cons _ (List.nil_sublist _))))) ?_
    refine JL.extract rfl rfl .none rfl (JA.cont ?_)
    exact nd62_0 _ _ _ _ ⟨b53, rfl, rfl, rfl, rfl, rfl, rfl, rfl, hs64⟩
   intro nd62_1
   refine JA.tk 0 (tf 1 10) hQ rfl hE (.cons_cons _ (.cons_cons _ (.cons_cons _ (List.nil_sublist _)))) ?_
   refine JL.loadOwn 2 az_34 rfl rfl rfl .none rfl (JA.cont ?_)
   refine JA.tk 1 (tf 2 9) hQ rfl hE (.cons_cons _ (.cons_cons _ (.cons_cons _ (List.nil_sublist _)))) ?_
   refine JL.fieldAddr fo_34_0 rfl .none rfl (JA.cont ?_)
   refine JA.tk 2 (tf 3 8) hQ rfl hE (.cons_cons _ (.cons_cons _ (.cons_cons _ (List.nil_sublist _)))) ?_
   refine JL.loadOwn 2 az_30 rfl rfl rfl .none rfl (JA.cont ?_)
   refine JA.many [3, 8] (by kernel_rfl) (by simp) (all_cons ⟨_, (tf 4 7), rfl, (by kernel_rfl), ?_⟩ (all_one ⟨_, #[true, true, true, false, false, false, false, false, true, false, false], rfl, (by kernel_rfl), ?_⟩))
   ·skip
    refine JL.callXB (c_counts_fells n H32 r.Canopy r_v0 (SL.mono R_Section_mono hs32 hr_0) r_v7 (SL.mono R_Span_mono hs32 hr_7) r_v8 (SL.mono RInt.mono hs32 hr_8) false) rfl en_42 .none rfl ?_
    rintro H69 _ _ hs69 ⟨bm70, b71, b72, b73, rfl, rfl, hc74, hc75, hc76⟩
    refine JA.after hE hs69 (.cons _ (.cons_cons _ (.cons_cons _ (.cons_cons _ (List.nil_sublist _))))) ?_
    refine JA.many [4, 8] (by kernel_rfl) (by simp) (all_cons ⟨_, (tf 5 6), rfl, (by kernel_rfl), ?_⟩ (all_one ⟨_, #[true, true, true, true, false, false, false, false, true, false, false], rfl, (by kernel_rfl), ?_⟩))
    ·skip
     refine JL.callHole 0 _ rfl ⟨_, _, _, rfl, MR.empty, cached_nil⟩ (c_harm_bounds n H69 r r_v0 (SL.mono R_Section_mono (HSub.trans hs32 hs69) hr_0) r_v7 (SL.mono R_Span_mono (HSub.trans hs32 hs69) hr_7) r_v8 (SL.mono RInt.mono (HSub.trans hs32 hs69) hr_8) r_v9 (SL.mono R_Blow_mono (HSub.trans hs32 hs69) hr_9) r_v10 (SL.mono R_Meter_mono (HSub.trans hs32 hs69) hr_10) false bm70 b71 b72 b73 hc74 hc75 hc76 y42 hy42) rfl en_41 .none rfl ?_
     refine JA.after hE hs69 (.cons_cons _ (.cons_cons _ (.cons_cons _ (List.nil_sublist _)))) ?_
     refine JA.take 5 (listed' := (tf 6 5)) hQ rfl (by kernel_rfl) (by kernel_rfl) (by kernel_rfl) (by kernel_rfl) (by kernel_rfl) hE hs69 (.cons_cons _ (.cons_cons _ (.cons_cons _ (List.nil_sublist _)))) ?_
     refine JL.move .none rfl (JA.cont ?_)
     refine JA.take 6 (listed' := (tf 7 4)) hQ rfl (by kernel_rfl) (by kernel_rfl) (by kernel_rfl) (by kernel_rfl) (by kernel_rfl) hE hs69 (.cons_cons _ (.cons_cons _ (.cons_cons _ (List.nil_sublist _)))) ?_
     refine JL.extract rfl rfl .none rfl (JA.cont ?_)
     refine JA.take 7 (listed' := (tf 8 3)) hQ rfl (by kernel_rfl) (by kernel_rfl) (by kernel_rfl) (by kernel_rfl) (by kernel_rfl) hE hs69 (.cons_cons _ (.cons_cons _ (.cons_cons _ (List.nil_sublist _)))) ?_
     refine JL.extract rfl rfl .none rfl (JA.cont ?_)
     refine JA.many [8] (by kernel_rfl) (by simp) (all_one ⟨_, (tf 9 2), rfl, (by kernel_rfl), ?_⟩)
     refine JL.alloc ze_42 .none rfl ?_
     intro b77
     refine JA.after hE hs69 (.cons _ (.cons_cons _ (.cons_cons _ (.cons_cons _ (List.nil_sublist _))))) ?_
     exact nd62_0 _ _ _ _ ⟨b77, rfl, rfl, rfl, rfl, rfl, rfl, rfl, hs69⟩
    ·skip
     refine JL.alloc ze_42 .none rfl ?_
     intro b78
     refine JA.after hE hs69 (.cons _ (.cons _ (.cons_cons _ (.cons_cons _ (.cons_cons _ (List.nil_sublist _)))))) ?_
     exact nd62_1 _ _ _ _ ⟨b78, bm70, b71, b72, b73, rfl, rfl, rfl, rfl, rfl, rfl, rfl, MR.empty, hc74, hc75, hc76, hs69⟩
   ·skip
    refine JL.alloc ze_42 .none rfl ?_
    intro b79
    refine JA.after hE (HSub.refl _) (.cons _ (.cons_cons _ (.cons_cons _ (.cons_cons _ (List.nil_sublist _))))) ?_
    refine JA.many [3] (by kernel_rfl) (by simp) (all_one ⟨_, #[true, true, true, true, false, false, false, false, true, false, false], rfl, (by kernel_rfl), ?_⟩)
    refine JL.callXB (c_counts_fells n H32 r.Canopy r_v0 (SL.mono R_Section_mono hs32 hr_0) r_v7 (SL.mono R_Span_mono hs32 hr_7) r_v8 (SL.mono RInt.mono hs32 hr_8) false) rfl en_42 .none rfl ?_
    rintro H80 _ _ hs80 ⟨bm81, b82, b83, b84, rfl, rfl, hc85, hc86, hc87⟩
    refine JA.after hE hs80 (.cons _ (.cons _ (.cons_cons _ (.cons_cons _ (.cons_cons _ (List.nil_sublist _)))))) ?_
    refine JA.perm (swapAt_perm 0 _) ?_
    exact nd62_1 _ _ _ _ ⟨b79, bm81, b82, b83, b84, rfl, rfl, rfl, rfl, rfl, rfl, rfl, MR.empty, hc85, hc86, hc87, hs80⟩
 intro nd31_0
 refine JA.cut 6 #[true, true, true, true, false, false, false, false, true, false, false] (fun H88 f bs gs => ∃ (b22 : Nat) (bm14 : Nat) (b15 : Nat) (b16 : Nat) (b17 : Nat), f 1 = .pointer (some ⟨b1, 0, none⟩) ∧ f 2 = .pointer (some ⟨b2, 0, none⟩) ∧ f 4 = .pointer (some ⟨b22, 0, none⟩) ∧ f 9 = .agg [r_v0, .int .i64 r.Canopy.Frame.Low, .int .i64 r.Canopy.Frame.High, .int .i64 r.Canopy.Frame.Ease.Num, .int .i64 r.Canopy.Frame.Ease.Den, .int .i64 r.Canopy.Frame.Rod, .int .i64 r.Canopy.Frame.Case, r_v7, r_v8, r_v9, r_v10, .int .i64 r.Wrong].toArray ∧ f 12 = .func (.func 74) #[] [.pointer (some ⟨b15, 0, none⟩), .pointer (some ⟨b16, 0, none⟩), .pointer (some ⟨b17, 0, none⟩)].toArray ∧ bs = [(b22, .cells [.int .i64 0, .int .i64 0].toArray 42), (bm14, .map #[] 0), (b2, .cells [.int .i64 0, .int .i64 0].toArray 42), (b1, .cells [r_v0, .int .i64 r.Canopy.Frame.Low, .int .i64 r.Canopy.Frame.High, .int .i64 r.Canopy.Frame.Ease.Num, .int .i64 r.Canopy.Frame.Ease.Den, .int .i64 r.Canopy.Frame.Rod, .int .i64 r.Canopy.Frame.Case, r_v7, r_v8, r_v9, r_v10, .int .i64 r.Wrong].toArray 34)] ∧ gs = [] ∧ MR 2 ekA ([] : Mp) #[] 0 ∧ Cells H88 b15 0 [.map (some bm14)] ∧ Cells H88 b16 0 [r_v0, .int .i64 r.Canopy.Frame.Low, .int .i64 r.Canopy.Frame.High, .int .i64 r.Canopy.Frame.Ease.Num, .int .i64 r.Canopy.Frame.Ease.Den, .int .i64 r.Canopy.Frame.Rod, .int .i64 r.Canopy.Frame.Case, r_v7, r_v8] ∧ Cells H88 b17 0 [.bool true] ∧ HSub H H88) ?_ ?_
 ·rintro H88 f bs gs ⟨b22, bm14, b15, b16, b17, hf1, hf2, hf4, hf9, hf12, rfl, rfl, hm89, hm90, hm91, hm92, hs88⟩
  refine (JA.norm (i := 1) hf1 (JA.norm (i := 2) hf2 (JA.norm (i := 4) hf4 (JA.norm (i := 9) hf9 (JA.norm (i := 12) hf12 ?_)))))
  refine JA.many [4] (by kernel_rfl) (by simp) (all_one ⟨_, #[true, true, true, true, true, false, false, false, true, false, false], rfl, (by kernel_rfl), ?_⟩)
  refine JL.callHole 1 _ rfl ⟨_, _, _, rfl, MR.empty, cached_nil⟩ (c_harm_bounds n H88 r r_v0 (SL.mono R_Section_mono hs88 hr_0) r_v7 (SL.mono R_Span_mono hs88 hr_7) r_v8 (SL.mono RInt.mono hs88 hr_8) r_v9 (SL.mono R_Blow_mono hs88 hr_9) r_v10 (SL.mono R_Meter_mono hs88 hr_10) true bm14 b15 b16 b17 hm90 hm91 hm92 y11 hy11) rfl en_41 .none rfl ?_
  refine JA.after hE hs88 (.cons _ (.cons_cons _ (.cons_cons _ (List.nil_sublist _)))) ?_
  refine JA.take 5 (listed' := #[true, true, true, true, true, true, false, false, true, false, false]) hQ rfl (by kernel_rfl) (by kernel_rfl) (by kernel_rfl) (by kernel_rfl) (by kernel_rfl) hE hs88 (.cons _ (.cons_cons _ (.cons_cons _ (List.nil_sublist _)))) ?_
  refine JL.move .none rfl (JA.cont ?_)
  refine JA.take 6 (listed' := #[true, true, true, true, true, true, true, false, true, false, false]) hQ rfl (by kernel_rfl) (by kernel_rfl) (by kernel_rfl) (by kernel_rfl) (by kernel_rfl) hE hs88 (.cons _ (.cons_cons _ (.cons_cons _ (List.nil_sublist _)))) ?_
  refine JL.extract rfl rfl .none rfl (JA.cont ?_)
  refine JA.take 7 (listed' := (tf 9 2)) hQ rfl (by kernel_rfl) (by kernel_rfl) (by kernel_rfl) (by kernel_rfl) (by kernel_rfl) hE hs88 (.cons _ (.cons_cons _ (.cons_cons _ (List.nil_sublist _)))) ?_
  refine JL.extract rfl rfl .none rfl (JA.cont ?_)
  exact nd31_0 _ _ _ _ ⟨b22, rfl, rfl, rfl, rfl, rfl, rfl, rfl, hs88⟩
 intro nd31_1
 refine JA.tk 0 (tf 1 10) hQ rfl hE (.cons_cons _ (.cons_cons _ (List.nil_sublist _))) ?_
 refine JL.loadOwn 1 az_34 rfl rfl rfl .none rfl (JA.cont ?_)
 refine JA.tk 1 (tf 2 9) hQ rfl hE (.cons_cons _ (.cons_cons _ (List.nil_sublist _))) ?_
 refine JL.fieldAddr fo_34_0 rfl .none rfl (JA.cont ?_)
 refine JA.tk 2 (tf 3 8) hQ rfl hE (.cons_cons _ (.cons_cons _ (List.nil_sublist _))) ?_
 refine JL.loadOwn 1 az_30 rfl rfl rfl .none rfl (JA.cont ?_)
 refine JA.many [3, 8] (by kernel_rfl) (by simp) (all_cons ⟨_, (tf 4 7), rfl, (by kernel_rfl), ?_⟩ (all_one ⟨_, #[true, true, true, false, false, false, false, false, true, false, false], rfl, (by kernel_rfl), ?_⟩))
 ·skip
  refine JL.callXB (c_counts_fells n H r.Canopy r_v0 hr_0 r_v7 hr_7 r_v8 hr_8 true) rfl en_42 .none rfl ?_
  rintro H93 _ _ hs93 ⟨bm94, b95, b96, b97, rfl, rfl, hc98, hc99, hc100⟩
  refine JA.after hE hs93 (.cons _ (.cons_cons _ (.cons_cons _ (List.nil_sublist _)))) ?_
  refine JA.many [4, 8] (by kernel_rfl) (by simp) (all_cons ⟨_, (tf 5 6), rfl, (by kernel_rfl), ?_⟩ (all_one ⟨_, #[true, true, true, true, false, false, false, false, true, false, false], rfl, (by kernel_rfl), ?_⟩))
  ·skip
   refine JL.callHole 0 _ rfl ⟨_, _, _, rfl, MR.empty, cached_nil⟩ (c_harm_bounds n H93 r r_v0 (SL.mono R_Section_mono hs93 hr_0) r_v7 (SL.mono R_Span_mono hs93 hr_7) r_v8 (SL.mono RInt.mono hs93 hr_8) r_v9 (SL.mono R_Blow_mono hs93 hr_9) r_v10 (SL.mono R_Meter_mono hs93 hr_10) true bm94 b95 b96 b97 hc98 hc99 hc100 y11 hy11) rfl en_41 .none rfl ?_
   refine JA.after hE hs93 (.cons_cons _ (.cons_cons _ (List.nil_sublist _))) ?_
   refine JA.take 5 (listed' := (tf 6 5)) hQ rfl (by kernel_rfl) (by kernel_rfl) (by kernel_rfl) (by kernel_rfl) (by kernel_rfl) hE hs93 (.cons_cons _ (.cons_cons _ (List.nil_sublist _))) ?_
   refine JL.move .none rfl (JA.cont ?_)
   refine JA.take 6 (listed' := (tf 7 4)) hQ rfl (by kernel_rfl) (by kernel_rfl) (by kernel_rfl) (by kernel_rfl) (by kernel_rfl) hE hs93 (.cons_cons _ (.cons_cons _ (List.nil_sublist _))) ?_
   refine JL.extract rfl rfl .none rfl (JA.cont ?_)
   refine JA.take 7 (listed' := (tf 8 3)) hQ rfl (by kernel_rfl) (by kernel_rfl) (by kernel_rfl) (by kernel_rfl) (by kernel_rfl) hE hs93 (.cons_cons _ (.cons_cons _ (List.nil_sublist _))) ?_
   refine JL.extract rfl rfl .none rfl (JA.cont ?_)
   refine JA.many [8] (by kernel_rfl) (by simp) (all_one ⟨_, (tf 9 2), rfl, (by kernel_rfl), ?_⟩)
   refine JL.alloc ze_42 .none rfl ?_
   intro b101
   refine JA.after hE hs93 (.cons _ (.cons_cons _ (.cons_cons _ (List.nil_sublist _)))) ?_
   exact nd31_0 _ _ _ _ ⟨b101, rfl, rfl, rfl, rfl, rfl, rfl, rfl, hs93⟩
  ·skip
   refine JL.alloc ze_42 .none rfl ?_
   intro b102
   refine JA.after hE hs93 (.cons _ (.cons _ (.cons_cons _ (.cons_cons _ (List.nil_sublist _))))) ?_
   exact nd31_1 _ _ _ _ ⟨b102, bm94, b95, b96, b97, rfl, rfl, rfl, rfl, rfl, rfl, rfl, MR.empty, hc98, hc99, hc100, hs93⟩
 ·skip
  refine JL.alloc ze_42 .none rfl ?_
  intro b103
  refine JA.after hE (HSub.refl _) (.cons _ (.cons_cons _ (.cons_cons _ (List.nil_sublist _)))) ?_
  refine JA.many [3] (by kernel_rfl) (by simp) (all_one ⟨_, #[true, true, true, true, false, false, false, false, true, false, false], rfl, (by kernel_rfl), ?_⟩)
  refine JL.callXB (c_counts_fells n H r.Canopy r_v0 hr_0 r_v7 hr_7 r_v8 hr_8 true) rfl en_42 .none rfl ?_
  rintro H104 _ _ hs104 ⟨bm105, b106, b107, b108, rfl, rfl, hc109, hc110, hc111⟩
  refine JA.after hE hs104 (.cons _ (.cons _ (.cons_cons _ (.cons_cons _ (List.nil_sublist _))))) ?_
  refine JA.perm (swapAt_perm 0 _) ?_
  exact nd31_1 _ _ _ _ ⟨b103, bm105, b106, b107, b108, rfl, rfl, rfl, rfl, rfl, rfl, rfl, MR.empty, hc109, hc110, hc111, hs104⟩
-- 9 ferrule/counts.Stood
noncomputable def F_counts_Stood (n : Nat) (r : Run) : Option (Int × Int) :=
 (F_counts_Harm n r).bind fun y2 => if (y2.2 != 0) = true then (some (0, y2.2)) else (if (y2.1.High == 0) = true then (some (1, 0)) else (if decide (0 < y2.1.Low) = true then (some (2, 0)) else (some (3, 0))))
theorem c_counts_Stood (n : Nat) (H : Hp) (r : Run) (r_v0 : Value) (hr_0 : SL H 7 R_Section r_v0 r.Canopy.Frame.Sections) (r_v7 : Value) (hr_7 : SL H 2 R_Span r_v7 r.Canopy.Ribs) (r_v8 : Value) (hr_8 : SL H 1 RInt r_v8 r.Canopy.Shares) (r_v9 : Value) (hr_9 : SL H 3 R_Blow r_v9 r.Blows) (r_v10 : Value) (hr_10 : SL H 2 R_Meter r_v10 r.Meters) (y : Int × Int) (hF : F_counts_Stood n r = some y) : SC Tryz.prog 9 [.agg [r_v0, .int .i64 r.Canopy.Frame.Low, .int .i64 r.Canopy.Frame.High, .int .i64 r.Canopy.Frame.Ease.Num, .int .i64 r.Canopy.Frame.Ease.Den, .int .i64 r.Canopy.Frame.Rod, .int .i64 r.Canopy.Frame.Case, r_v7, r_v8, r_v9, r_v10, .int .i64 r.Wrong].toArray] (.tuple [.int .i64 y.1, .int .i64 y.2].toArray) H := by
 rw [F_counts_Stood] at hF
 refine SC.of (N := 23) Tryz.func9 rfl rfl rfl fun w => ?_
 refine JC.seq (JC.region (by rfl) ?_)
 intro hQ
 refine JL.box (cs := [r_v0, .int .i64 r.Canopy.Frame.Low, .int .i64 r.Canopy.Frame.High, .int .i64 r.Canopy.Frame.Ease.Num, .int .i64 r.Canopy.Frame.Ease.Den, .int .i64 r.Canopy.Frame.Rod, .int .i64 r.Canopy.Frame.Case, r_v7, r_v8, r_v9, r_v10, .int .i64 r.Wrong]) rfl .none rfl ?_
 intro b1
 refine JL.assign .none rfl (JL.assign .none rfl (JL.done hQ (JQ.go (JC.seq (JC.region (by rfl) ?_)))))
 intro hQ
 refine JL.loadOwn 0 az_34 rfl rfl rfl .none rfl ?_
 obtain ⟨y2, hy2, hF⟩ := bind_some hF
 refine JL.callS (c_counts_Harm n H r r_v0 hr_0 r_v7 hr_7 r_v8 hr_8 r_v9 hr_9 r_v10 hr_10 y2 hy2) rfl en_11 .none rfl ?_
 refine JL.move .none rfl (JL.extract rfl rfl .none rfl (JL.extract rfl rfl .none rfl (JL.alloc ze_42 .none rfl ?_)))
 intro b3
 refine JL.storeOwn 0 (cs := [.int .i64 y2.1.Low, .int .i64 y2.1.High]) az_42 rfl rfl rfl (one_cons rfl (one_cons rfl one_nil)) rfl rfl .none ?_
 refine JL.assign .none rfl (JL.done hQ (JQ.go (JC.seq (JC.block (JC.seq (JC.region (by rfl) ?_))))))
 intro hQ
 refine JL.move .none rfl (JL.bin rfl rfl rfl .none rfl (JL.assign .none rfl (JL.done hQ (JQ.go (JC.fresh (fun f => f 2 = .int .i64 0 ∧ f 3 = .int .i64 0 ∧ f 4 = .pointer (some ⟨b3, 0, none⟩) ∧ f 5 = .int .i64 y2.2 ∧ f 11 = .bool (y2.2 != 0)) ⟨rfl, rfl, rfl, rfl, rfl⟩ ?_)))))
 rintro f ⟨hf2, hf3, hf4, hf5, hf11⟩
 refine (JC.norm (i := 2) hf2 (JC.norm (i := 3) hf3 (JC.norm (i := 4) hf4 (JC.norm (i := 5) hf5 (JC.norm (i := 11) hf11 ?_)))))
 rcases ite_some hF with ⟨hc4, hF⟩ | ⟨hc4, hF⟩
 ·refine JC.cond_t (b := (y2.2 != 0)) rfl hc4 ?_
  refine JC.seq (JC.region (by rfl) ?_)
  intro hQ
  refine JL.move .none rfl (JL.assign .none rfl (JL.assign .none rfl (JL.done hQ (JQ.go (JC.ret (JQ.ret_block (JQ.ret_then ?_)))))))
  obtain rfl := Option.some.inj hF
  exact JQ.outS rfl (.tmp (.tmp .nil)) rfl
 ·refine JC.cond_f (b := (y2.2 != 0)) rfl hc4 ?_
  refine JC.seq (JC.region (by rfl) ?_)
  intro hQ
  refine JL.fieldAddr fo_42_1 rfl .none rfl (JL.loadOwn 0 az_3 rfl rfl rfl .none rfl (JL.bin rfl rfl rfl .none rfl (JL.assign .none rfl (JL.done hQ (JQ.go ?_)))))
  rcases ite_some hF with ⟨hc5, hF⟩ | ⟨hc5, hF⟩
  ·refine JC.cond_t (b := (y2.1.High == 0)) rfl hc5 ?_
   refine JC.seq (JC.region (by rfl) ?_)
   intro hQ
   refine JL.assign .none rfl (JL.assign .none rfl (JL.done hQ (JQ.go (JC.ret (JQ.ret_block (JQ.ret_then ?_))))))
   obtain rfl := Option.some.inj hF
   exact JQ.outS rfl (.tmp (.tmp .nil)) rfl
  ·refine JC.cond_f (b := (y2.1.High == 0)) rfl hc5 ?_
   refine JC.seq (JC.region (by rfl) ?_)
   intro hQ
   refine JL.fieldAddr fo_42_0 rfl .none rfl (JL.loadOwn 0 az_3 rfl rfl rfl .none rfl (JL.bin rfl rfl rfl .none rfl (JL.assign .none rfl (JL.done hQ (JQ.go ?_)))))
   rcases ite_some hF with ⟨hc6, hF⟩ | ⟨hc6, hF⟩
   ·refine JC.cond_t (b := decide (0 < y2.1.Low)) rfl hc6 ?_
    refine JC.seq (JC.region (by rfl) ?_)
    intro hQ
    refine JL.assign .none rfl (JL.assign .none rfl (JL.done hQ (JQ.go (JC.ret (JQ.ret_block (JQ.ret_then ?_))))))
    obtain rfl := Option.some.inj hF
    exact JQ.outS rfl (.tmp (.tmp .nil)) rfl
   ·refine JC.cond_f (b := decide (0 < y2.1.Low)) rfl hc6 ?_
    refine JC.skip (JQ.normal_block (JQ.go (JC.seq (JC.region (by rfl) ?_))))
    intro hQ
    refine JL.assign .none rfl (JL.assign .none rfl (JL.done hQ (JQ.go (JC.ret ?_))))
    obtain rfl := Option.some.inj hF
    exact JQ.outS rfl (.tmp (.tmp .nil)) rfl
-- 36 ferrule/ferrulelaw13.sameInts
def F_law13_sameInts_s1 (n : Nat) (a : List Int) (b : List Int) : Int → Option (Int ⊕ (Bool ⊕ Unit))
 | i_126 => if decide (i_126 < (a.length : Int)) = true then ((geti a i_126).bind fun y141 => (geti b i_126).bind fun y146 => if (y141 != y146) = true then (some (Sum.inr (Sum.inl false))) else (some (Sum.inl (w64 (i_126 + 1))))) else (some (Sum.inr (Sum.inr ())))
def F_law13_sameInts (n : Nat) (a : List Int) (b : List Int) : Option Bool :=
 if ((a.length : Int) != (b.length : Int)) = true then (some false) else ((loopO n (F_law13_sameInts_s1 n a b) 0).bind fun r77 => match r77 with | .inl o => some o | .inr _ => some true)
theorem c_law13_sameInts (n : Nat) (H : Hp) (a : List Int) (a_v0 : Value) (ha_0 : SL H 1 RInt a_v0 a) (b : List Int) (b_v0 : Value) (hb_0 : SL H 1 RInt b_v0 b) (y : Bool) (hF : F_law13_sameInts n a b = some y) : SC Tryz.prog 36 [a_v0, b_v0] (.bool y) H := by
 rw [F_law13_sameInts] at hF
 refine SC.of (N := 26) Tryz.func36 rfl rfl rfl fun w => ?_
 refine JC.seq (JC.region (by rfl) ?_)
 intro hQ
 refine JL.assign .none rfl (JL.done hQ (JQ.go (JC.seq (JC.seq (JC.region (by rfl) ?_)))))
 intro hQ
 refine JL.move .none rfl (JL.lenSL (R := RInt) ul_28 ha_0 .none rfl ?_)
 refine JL.move .none rfl (JL.lenSL (R := RInt) ul_28 hb_0 .none rfl ?_)
 refine JL.bin rfl rfl rfl .none rfl (JL.done hQ (JQ.go ?_))
 rcases ite_some hF with ⟨hc1, hF⟩ | ⟨hc1, hF⟩
 ·refine JC.cond_t (b := ((a.length : Int) != (b.length : Int))) rfl hc1 ?_
  refine JC.seq (JC.region (by rfl) ?_)
  intro hQ
  refine JL.assign .none rfl (JL.done hQ (JQ.go (JC.ret (JQ.ret_then ?_))))
  obtain rfl := Option.some.inj hF
  exact JQ.outS rfl (.tmp .nil) rfl
 ·refine JC.cond_f (b := ((a.length : Int) != (b.length : Int))) rfl hc1 ?_
  refine JC.skip (JQ.go (JC.seq (JC.seq (JC.region (by rfl) ?_))))
  intro hQ
  refine JL.assign .none rfl (JL.done hQ (JQ.go ?_))
  obtain ⟨r77, hlr77, hKr77⟩ := bind_some hF
  refine JC.join (fun (_ : Unit) H76 f bs gs => bs = [] ∧ gs = [] ∧ HSub H H76 ∧ Sum.inr () = r77) ?_ ?_
  ·skip
   refine JC.block (JC.loop hlr77 (fun (i_126 : Int) H127 f bs gs => f 0 = a_v0 ∧ f 1 = b_v0 ∧ f 5 = .int .i64 i_126 ∧ bs = [] ∧ gs = [] ∧ HSub H H127) ⟨rfl, rfl, rfl, rfl, rfl, (HSub.refl _)⟩ ?_)
   rintro i_126 x129 H127 f bs gs ⟨hf0, hf1, hf5, rfl, rfl, hs127⟩ hF hr128
   rw [F_law13_sameInts_s1] at hF
   refine (JC.norm (i := 0) hf0 (JC.norm (i := 1) hf1 (JC.norm (i := 5) hf5 ?_)))
   refine JC.seq (JC.seq (JC.region (by rfl) ?_))
   intro hQ
   refine JL.move .none rfl (JL.move .none rfl (JL.lenSL (R := RInt) ul_28 (SL.mono RInt.mono hs127 ha_0) .none rfl ?_))
   refine JL.bin rfl rfl rfl .none rfl (JL.done hQ (JQ.go ?_))
   rcases ite_some hF with ⟨hc130, hF⟩ | ⟨hc130, hF⟩
   ·refine JC.cond_t (b := decide (i_126 < (a.length : Int))) rfl hc130 ?_
    refine JC.skip (JQ.go (JC.seq (JC.block (JC.seq (JC.draw (by rfl) mo_ (by kernel_rfl) ?_)))))
    intro hQ
    refine JL.move .none rfl (JL.move .none rfl ?_)
    obtain ⟨y141, hy141, hF⟩ := bind_some hF
    refine JL.indexSL (R := RInt) sl_28 (SL.mono RInt.mono hs127 ha_0) rfl hy141 .none rfl ?_
    rintro b142 o143 cs144 hc145 - rfl
    refine JL.loadH 0 az_3 rfl hc145 rfl .none rfl ?_
    refine JL.move .none rfl (JL.move .none rfl ?_)
    obtain ⟨y146, hy146, hF⟩ := bind_some hF
    refine JL.indexSL (R := RInt) sl_28 (SL.mono RInt.mono hs127 hb_0) rfl hy146 .none rfl ?_
    rintro b147 o148 cs149 hc150 - rfl
    refine JL.loadH 0 az_3 rfl hc150 rfl .none rfl ?_
    refine JL.bin rfl rfl rfl .none rfl (JL.doneQ hQ ?_)
    refine JQ.go (JC.fresh (fun f => f 0 = a_v0 ∧ f 1 = b_v0 ∧ f 5 = .int .i64 i_126 ∧ f 25 = .bool (y141 != y146)) ⟨rfl, rfl, rfl, rfl⟩ ?_)
    rintro f ⟨hf0, hf1, hf5, hf25⟩
    refine (JC.norm (i := 0) hf0 (JC.norm (i := 1) hf1 (JC.norm (i := 5) hf5 (JC.norm (i := 25) hf25 ?_))))
    rcases ite_some hF with ⟨hc151, hF⟩ | ⟨hc151, hF⟩
    ·refine JC.cond_t (b := (y141 != y146)) rfl hc151 ?_
     refine JC.seq (JC.region (by rfl) ?_)
     intro hQ
     refine JL.assign .none rfl (JL.done hQ (JQ.go (JC.ret (JQ.ret_block (JQ.ret_then (JQ.ret_then (JQ.ret_block (JQ.ret_join (JQ.ret_then ?_)))))))))
     obtain rfl := Option.some.inj hF
     have ehr128 := hr128 _ rfl
     subst ehr128
     have hF := hKr77
     try dsimp only at hF
     obtain rfl := Option.some.inj hF
     exact JQ.outS rfl (.tmp .nil) rfl
    ·refine JC.cond_f (b := (y141 != y146)) rfl hc151 ?_
     refine JC.skip (JQ.normal_block (JQ.go (JC.region (by rfl) ?_)))
     intro hQ
     refine JL.move .none rfl (JL.bin rfl rfl rfl .none rfl (JL.assign .none rfl (JL.done hQ ?_)))
     obtain rfl := Option.some.inj hF
     exact JQ.next rfl ⟨rfl, rfl, rfl, rfl, rfl, hs127⟩
   ·refine JC.cond_f (b := decide (i_126 < (a.length : Int))) rfl hc130 ?_
    refine JC.exit (JQ.exit_then (JQ.exit_then (JQ.exit_block ?_)))
    obtain rfl := Option.some.inj hF
    have ehr128 := hr128 _ rfl
    subst ehr128
    exact JQ.join () ⟨rfl, rfl, hs127, rfl⟩
  ·rintro _ H76 f bs gs ⟨rfl, rfl, hs76, rfl⟩
   have hF := hKr77
   try dsimp only at hF
   refine JQ.go (JC.seq (JC.region (by rfl) ?_))
   intro hQ
   refine JL.assign .none rfl (JL.done hQ (JQ.go (JC.ret ?_)))
   obtain rfl := Option.some.inj hF
   exact JQ.outS rfl (.tmp .nil) rfl
-- 7 ferrule/ferrulelaw13.works
noncomputable def F_law13_works (n : Nat)  : Option Bool :=
 (F_law13_Example n).bind fun y1 => (F_counts_Forces n y1 2).bind fun y5 => (F_counts_Many n y1).bind fun y8 => (F_counts_Harm n y1).bind fun y9 => (F_counts_Stood n y1).bind fun y11 => (if ((((y5.2 == 0) && (y8.2 == 0)) && (y9.2 == 0)) && (y11.2 == 0)) = true then ((F_law13_sameInts n y5.1 [5, 6]).bind fun y31 => some y31) else (some false) : Option Bool).bind fun p23 => some (((p23 && (y8.1 == 22)) && ((y9.1.Low == 0) && (y9.1.High == 2))) && (y11.1 == 3))
theorem c_law13_works (n : Nat) (H : Hp)  (y : Bool) (hF : F_law13_works n = some y) : SC Tryz.prog 7 [] (.bool y) H := by
 rw [F_law13_works] at hF
 refine SC.of (N := 63) Tryz.func7 rfl rfl rfl fun w => ?_
 refine JC.seq (JC.region (by rfl) ?_)
 intro hQ
 refine JL.assign .none rfl (JL.done hQ (JQ.go (JC.seq (JC.region (by rfl) ?_))))
 intro hQ
 obtain ⟨y1, hy1, hF⟩ := bind_some hF
 refine JL.callH (c_law13_Example n H y1 hy1) rfl en_39 .none rfl ?_
 rintro H2 vv3 hs2 ⟨y1a_v0, y1a_v7, y1a_v8, y1a_v9, y1a_v10, rfl, hy1a_0, hy1a_7, hy1a_8, hy1a_9, hy1a_10⟩
 refine JL.alloc ze_34 .none rfl ?_
 intro b4
 refine JL.storeOwn 0 (cs := [y1a_v0, .int .i64 y1.Canopy.Frame.Low, .int .i64 y1.Canopy.Frame.High, .int .i64 y1.Canopy.Frame.Ease.Num, .int .i64 y1.Canopy.Frame.Ease.Den, .int .i64 y1.Canopy.Frame.Rod, .int .i64 y1.Canopy.Frame.Case, y1a_v7, y1a_v8, y1a_v9, y1a_v10, .int .i64 y1.Wrong]) az_34 rfl rfl rfl (one_cons (SL.one hy1a_0) (one_cons rfl (one_cons rfl (one_cons rfl (one_cons rfl (one_cons rfl (one_cons rfl (one_cons (SL.one hy1a_7) (one_cons (SL.one hy1a_8) (one_cons (SL.one hy1a_9) (one_cons (SL.one hy1a_10) (one_cons rfl one_nil)))))))))))) rfl rfl .none ?_
 refine JL.done hQ (JQ.go (JC.seq (JC.region (by rfl) ?_)))
 intro hQ
 refine JL.loadOwn 0 az_34 rfl rfl rfl .none rfl ?_
 obtain ⟨y5, hy5, hF⟩ := bind_some hF
 refine JL.callH (c_counts_Forces n H2 y1 y1a_v0 hy1a_0 y1a_v7 hy1a_7 y1a_v8 hy1a_8 y1a_v9 hy1a_9 y1a_v10 hy1a_10 2 y5 hy5) rfl en_23 .none rfl ?_
 rintro H6 vv7 hs6 ⟨y5a_v0, rfl, hy5a_0⟩
 refine JL.move .none rfl (JL.extract rfl rfl .none rfl (JL.extract rfl rfl .none rfl (JL.assign .none rfl (JL.assign .none rfl (JL.done hQ (JQ.go (JC.seq (JC.region (by rfl) ?_))))))))
 intro hQ
 refine JL.loadOwn 0 az_34 rfl rfl rfl .none rfl ?_
 obtain ⟨y8, hy8, hF⟩ := bind_some hF
 refine JL.callS (c_counts_Many n H6 y1 y1a_v0 (SL.mono R_Section_mono hs6 hy1a_0) y1a_v7 (SL.mono R_Span_mono hs6 hy1a_7) y1a_v8 (SL.mono RInt.mono hs6 hy1a_8) y1a_v9 (SL.mono R_Blow_mono hs6 hy1a_9) y1a_v10 (SL.mono R_Meter_mono hs6 hy1a_10) y8 hy8) rfl en_34 .none rfl ?_
 refine JL.move .none rfl (JL.extract rfl rfl .none rfl (JL.extract rfl rfl .none rfl (JL.assign .none rfl (JL.assign .none rfl (JL.done hQ (JQ.go (JC.fresh (fun f => f 0 = .bool false ∧ f 1 = .pointer (some ⟨b4, 0, none⟩) ∧ f 2 = y5a_v0 ∧ f 3 = .int .i64 y5.2 ∧ f 4 = .int .i64 y8.1 ∧ f 5 = .int .i64 y8.2) ⟨rfl, rfl, rfl, rfl, rfl, rfl⟩ ?_)))))))
 rintro f ⟨hf0, hf1, hf2, hf3, hf4, hf5⟩
 refine (JC.norm (i := 0) hf0 (JC.norm (i := 1) hf1 (JC.norm (i := 2) hf2 (JC.norm (i := 3) hf3 (JC.norm (i := 4) hf4 (JC.norm (i := 5) hf5 ?_))))))
 refine JC.seq (JC.region (by rfl) ?_)
 intro hQ
 refine JL.loadOwn 0 az_34 rfl rfl rfl .none rfl ?_
 obtain ⟨y9, hy9, hF⟩ := bind_some hF
 refine JL.callS (c_counts_Harm n H6 y1 y1a_v0 (SL.mono R_Section_mono hs6 hy1a_0) y1a_v7 (SL.mono R_Span_mono hs6 hy1a_7) y1a_v8 (SL.mono RInt.mono hs6 hy1a_8) y1a_v9 (SL.mono R_Blow_mono hs6 hy1a_9) y1a_v10 (SL.mono R_Meter_mono hs6 hy1a_10) y9 hy9) rfl en_11 .none rfl ?_
 refine JL.move .none rfl (JL.extract rfl rfl .none rfl (JL.extract rfl rfl .none rfl (JL.alloc ze_42 .none rfl ?_)))
 intro b10
 refine JL.storeOwn 0 (cs := [.int .i64 y9.1.Low, .int .i64 y9.1.High]) az_42 rfl rfl rfl (one_cons rfl (one_cons rfl one_nil)) rfl rfl .none ?_
 refine JL.assign .none rfl (JL.done hQ (JQ.go (JC.seq (JC.region (by rfl) ?_))))
 intro hQ
 refine JL.loadOwn 1 az_34 rfl rfl rfl .none rfl ?_
 obtain ⟨y11, hy11, hF⟩ := bind_some hF
 refine JL.callS (c_counts_Stood n H6 y1 y1a_v0 (SL.mono R_Section_mono hs6 hy1a_0) y1a_v7 (SL.mono R_Span_mono hs6 hy1a_7) y1a_v8 (SL.mono RInt.mono hs6 hy1a_8) y1a_v9 (SL.mono R_Blow_mono hs6 hy1a_9) y1a_v10 (SL.mono R_Meter_mono hs6 hy1a_10) y11 hy11) rfl en_9 .none rfl ?_
 refine JL.move .none rfl (JL.extract rfl rfl .none rfl (JL.extract rfl rfl .none rfl (JL.assign .none rfl (JL.assign .none rfl (JL.done hQ (JQ.go (JC.fresh (fun f => f 0 = .bool false ∧ f 2 = y5a_v0 ∧ f 3 = .int .i64 y5.2 ∧ f 4 = .int .i64 y8.1 ∧ f 5 = .int .i64 y8.2 ∧ f 6 = .pointer (some ⟨b10, 0, none⟩) ∧ f 7 = .int .i64 y9.2 ∧ f 8 = .int .i64 y11.1 ∧ f 9 = .int .i64 y11.2) ⟨rfl, rfl, rfl, rfl, rfl, rfl, rfl, rfl, rfl⟩ ?_)))))))
 rintro f ⟨hf0, hf2, hf3, hf4, hf5, hf6, hf7, hf8, hf9⟩
 refine (JC.norm (i := 0) hf0 (JC.norm (i := 2) hf2 (JC.norm (i := 3) hf3 (JC.norm (i := 4) hf4 (JC.norm (i := 5) hf5 (JC.norm (i := 6) hf6 (JC.norm (i := 7) hf7 (JC.norm (i := 8) hf8 (JC.norm (i := 9) hf9 ?_)))))))))
 refine JC.seq (JC.region (by rfl) ?_)
 intro hQ
 refine JL.move .none rfl (JL.bin rfl rfl rfl .none rfl (JL.move .none rfl (JL.cut 3 (fun f => f 2 = y5a_v0 ∧ f 4 = .int .i64 y8.1 ∧ f 6 = .pointer (some ⟨b10, 0, none⟩) ∧ f 7 = .int .i64 y9.2 ∧ f 8 = .int .i64 y11.1 ∧ f 9 = .int .i64 y11.2 ∧ f 36 = .bool ((y5.2 == 0) && (y8.2 == 0))) ?_ ?_)))
 ·intro hJ12
  rcases bcases (y5.2 == 0) with hc13 | hc13
  ·skip
   exact JL.move (.some rfl rfl rfl hc13) rfl (JL.bin rfl rfl rfl (.some rfl rfl rfl hc13) rfl (JL.pick_t (b := (y5.2 == 0)) rfl hc13 .none rfl (hJ12 _ ⟨rfl, rfl, rfl, rfl, rfl, rfl, and_t hc13 rfl⟩)))
  ·skip
   exact JL.skip (.bool rfl rfl rfl hc13) rfl (JL.skip (.bool rfl rfl rfl hc13) rfl (JL.pick_f (b := (y5.2 == 0)) rfl hc13 .none rfl (hJ12 _ ⟨rfl, rfl, rfl, rfl, rfl, rfl, and_f hc13 rfl⟩)))
 ·rintro f ⟨hf2, hf4, hf6, hf7, hf8, hf9, hf36⟩
  refine (JL.norm (i := 2) hf2 (JL.norm (i := 4) hf4 (JL.norm (i := 6) hf6 (JL.norm (i := 7) hf7 (JL.norm (i := 8) hf8 (JL.norm (i := 9) hf9 (JL.norm (i := 36) hf36 ?_)))))))
  refine JL.move .none rfl (JL.cut 3 (fun f => f 2 = y5a_v0 ∧ f 4 = .int .i64 y8.1 ∧ f 6 = .pointer (some ⟨b10, 0, none⟩) ∧ f 8 = .int .i64 y11.1 ∧ f 9 = .int .i64 y11.2 ∧ f 40 = .bool (((y5.2 == 0) && (y8.2 == 0)) && (y9.2 == 0))) ?_ ?_)
  ·intro hJ14
   rcases bcases ((y5.2 == 0) && (y8.2 == 0)) with hc15 | hc15
   ·skip
    exact JL.move (.some rfl rfl rfl hc15) rfl (JL.bin rfl rfl rfl (.some rfl rfl rfl hc15) rfl (JL.pick_t (b := ((y5.2 == 0) && (y8.2 == 0))) rfl hc15 .none rfl (hJ14 _ ⟨rfl, rfl, rfl, rfl, rfl, and_t hc15 rfl⟩)))
   ·skip
    exact JL.skip (.bool rfl rfl rfl hc15) rfl (JL.skip (.bool rfl rfl rfl hc15) rfl (JL.pick_f (b := ((y5.2 == 0) && (y8.2 == 0))) rfl hc15 .none rfl (hJ14 _ ⟨rfl, rfl, rfl, rfl, rfl, and_f hc15 rfl⟩)))
  ·rintro f ⟨hf2, hf4, hf6, hf8, hf9, hf40⟩
   refine (JL.norm (i := 2) hf2 (JL.norm (i := 4) hf4 (JL.norm (i := 6) hf6 (JL.norm (i := 8) hf8 (JL.norm (i := 9) hf9 (JL.norm (i := 40) hf40 ?_))))))
   refine JL.move .none rfl (JL.cut 3 (fun f => f 2 = y5a_v0 ∧ f 4 = .int .i64 y8.1 ∧ f 6 = .pointer (some ⟨b10, 0, none⟩) ∧ f 8 = .int .i64 y11.1 ∧ f 44 = .bool ((((y5.2 == 0) && (y8.2 == 0)) && (y9.2 == 0)) && (y11.2 == 0))) ?_ ?_)
   ·intro hJ16
    rcases bcases (((y5.2 == 0) && (y8.2 == 0)) && (y9.2 == 0)) with hc17 | hc17
    ·skip
     exact JL.move (.some rfl rfl rfl hc17) rfl (JL.bin rfl rfl rfl (.some rfl rfl rfl hc17) rfl (JL.pick_t (b := (((y5.2 == 0) && (y8.2 == 0)) && (y9.2 == 0))) rfl hc17 .none rfl (hJ16 _ ⟨rfl, rfl, rfl, rfl, and_t hc17 rfl⟩)))
    ·skip
     exact JL.skip (.bool rfl rfl rfl hc17) rfl (JL.skip (.bool rfl rfl rfl hc17) rfl (JL.pick_f (b := (((y5.2 == 0) && (y8.2 == 0)) && (y9.2 == 0))) rfl hc17 .none rfl (hJ16 _ ⟨rfl, rfl, rfl, rfl, and_f hc17 rfl⟩)))
   ·rintro f ⟨hf2, hf4, hf6, hf8, hf44⟩
    refine (JL.norm (i := 2) hf2 (JL.norm (i := 4) hf4 (JL.norm (i := 6) hf6 (JL.norm (i := 8) hf8 (JL.norm (i := 44) hf44 ?_)))))
    refine JL.move .none rfl ?_
    obtain ⟨p23, hp23, hF⟩ := bind_some hF
    refine JL.cutW 4 (fun H24 f bs gs => f 4 = .int .i64 y8.1 ∧ f 6 = .pointer (some ⟨b10, 0, none⟩) ∧ f 8 = .int .i64 y11.1 ∧ f 49 = .bool p23 ∧ bs = [(b10, .cells [.int .i64 y9.1.Low, .int .i64 y9.1.High].toArray 42)] ∧ gs = [] ∧ HSub H6 H24) ?_ ?_
    ·intro hJ25
     rcases ite_some hp23 with ⟨hc26, hF⟩ | ⟨hc26, hF⟩
     ·skip
      refine JL.move (.some rfl rfl rfl hc26) rfl (JL.buildSlice (e := 3) (l := [.int .i64 5, .int .i64 6]) (by kernel_rfl) (.some rfl rfl rfl hc26) rfl ?_)
      intro b27
      refine JL.freezeC 0 (l := [.int .i64 5, .int .i64 6]) rfl ?_
      intro H28 hs28 hc29
      have hg30 : SL H28 1 RInt (.slice (some ⟨b27, 0, none⟩) 2 2) [5, 6] := CH.sl (l := [5, 6]) (CH.cons (cs := [.int .i64 5]) rfl rfl (CH.cons (cs := [.int .i64 6]) rfl rfl CH.nil)) hc29 ⟨by simp, by simp⟩
      obtain ⟨y31, hy31, hF⟩ := bind_some hF
      refine JL.callS (c_law13_sameInts n H28 y5.1 y5a_v0 (SL.mono RInt.mono hs28 hy5a_0) [5, 6] (.slice (some ⟨b27, 0, none⟩) 2 2) hg30 y31 hy31) rfl en_36 (.some rfl rfl rfl hc26) rfl ?_
      refine JL.pick_t (b := ((((y5.2 == 0) && (y8.2 == 0)) && (y9.2 == 0)) && (y11.2 == 0))) rfl hc26 .none rfl ?_
      obtain rfl := Option.some.inj hF
      refine JL.mask [true, false] [] ?_
      exact hJ25 _ _ _ _ ⟨rfl, rfl, rfl, rfl, rfl, rfl, hs28⟩
     ·skip
      refine JL.skip (.bool rfl rfl rfl hc26) rfl (JL.skip (.bool rfl rfl rfl hc26) rfl (JL.skip (.bool rfl rfl rfl hc26) rfl (JL.pick_f (b := ((((y5.2 == 0) && (y8.2 == 0)) && (y9.2 == 0)) && (y11.2 == 0))) rfl hc26 .none rfl ?_)))
      obtain rfl := Option.some.inj hF
      refine JL.mask [true, false] [] ?_
      exact hJ25 _ _ _ _ ⟨rfl, rfl, rfl, rfl, rfl, rfl, (HSub.refl _)⟩
    ·rintro H24 f bs gs ⟨hf4, hf6, hf8, hf49, rfl, rfl, hs24⟩
     refine (JL.norm (i := 4) hf4 (JL.norm (i := 6) hf6 (JL.norm (i := 8) hf8 (JL.norm (i := 49) hf49 ?_))))
     refine JL.move .none rfl (JL.cut 3 (fun f => f 6 = .pointer (some ⟨b10, 0, none⟩) ∧ f 8 = .int .i64 y11.1 ∧ f 53 = .bool (p23 && (y8.1 == 22))) ?_ ?_)
     ·intro hJ32
      rcases bcases p23 with hc33 | hc33
      ·skip
       exact JL.move (.some rfl rfl rfl hc33) rfl (JL.bin rfl rfl rfl (.some rfl rfl rfl hc33) rfl (JL.pick_t (b := p23) rfl hc33 .none rfl (hJ32 _ ⟨rfl, rfl, and_t hc33 rfl⟩)))
      ·skip
       exact JL.skip (.bool rfl rfl rfl hc33) rfl (JL.skip (.bool rfl rfl rfl hc33) rfl (JL.pick_f (b := p23) rfl hc33 .none rfl (hJ32 _ ⟨rfl, rfl, and_f hc33 rfl⟩)))
     ·rintro f ⟨hf6, hf8, hf53⟩
      refine (JL.norm (i := 6) hf6 (JL.norm (i := 8) hf8 (JL.norm (i := 53) hf53 ?_)))
      refine JL.move .none rfl (JL.cut 4 (fun f => f 8 = .int .i64 y11.1 ∧ f 58 = .bool ((p23 && (y8.1 == 22)) && ((y9.1.Low == 0) && (y9.1.High == 2)))) ?_ ?_)
      ·intro hJ34
       rcases bcases (p23 && (y8.1 == 22)) with hc35 | hc35
       ·skip
        refine JL.loadOwn 0 az_42 rfl rfl rfl (.some rfl rfl rfl hc35) rfl (JL.build (l := [.int .i64 0, .int .i64 2]) (by kernel_rfl) (.some rfl rfl rfl hc35) rfl ?_)
        refine JL.eqAgg eqg_42 rfl rfl (fun w => eqa_42 y9.1.Low y9.1.High 0 2 w) (.some rfl rfl rfl hc35) rfl ?_
        exact JL.pick_t (b := (p23 && (y8.1 == 22))) rfl hc35 .none rfl (hJ34 _ ⟨rfl, and_t hc35 rfl⟩)
       ·skip
        exact JL.skip (.bool rfl rfl rfl hc35) rfl (JL.skip (.bool rfl rfl rfl hc35) rfl (JL.skip (.bool rfl rfl rfl hc35) rfl (JL.pick_f (b := (p23 && (y8.1 == 22))) rfl hc35 .none rfl (hJ34 _ ⟨rfl, and_f hc35 rfl⟩))))
      ·rintro f ⟨hf8, hf58⟩
       refine (JL.norm (i := 8) hf8 (JL.norm (i := 58) hf58 ?_))
       refine JL.move .none rfl (JL.cut 3 (fun f => f 62 = .bool (((p23 && (y8.1 == 22)) && ((y9.1.Low == 0) && (y9.1.High == 2))) && (y11.1 == 3))) ?_ ?_)
       ·intro hJ36
        rcases bcases ((p23 && (y8.1 == 22)) && ((y9.1.Low == 0) && (y9.1.High == 2))) with hc37 | hc37
        ·skip
         exact JL.move (.some rfl rfl rfl hc37) rfl (JL.bin rfl rfl rfl (.some rfl rfl rfl hc37) rfl (JL.pick_t (b := ((p23 && (y8.1 == 22)) && ((y9.1.Low == 0) && (y9.1.High == 2)))) rfl hc37 .none rfl (hJ36 _ (and_t hc37 rfl))))
        ·skip
         exact JL.skip (.bool rfl rfl rfl hc37) rfl (JL.skip (.bool rfl rfl rfl hc37) rfl (JL.pick_f (b := ((p23 && (y8.1 == 22)) && ((y9.1.Low == 0) && (y9.1.High == 2)))) rfl hc37 .none rfl (hJ36 _ (and_f hc37 rfl))))
       ·rintro f hf62
        refine (JL.norm (i := 62) hf62 ?_)
        refine JL.assign .none rfl (JL.done hQ (JQ.go (JC.ret ?_)))
        obtain rfl := Option.some.inj hF
        exact JQ.outS rfl (.tmp .nil) rfl
end Go.Proofs.YtcipdblhopffbaaGreat
end
section
set_option maxRecDepth 100000
set_option maxHeartbeats 40000000
namespace Go.Proofs.YtcipdblhopffbaaGreat
open Go Go.RowKit Go.Dec
set_option linter.unusedVariables false
-- 73 ferrule/ferruleref01.Copy
def F_ref01_Copy (n : Nat) (f_ : Frame) : Option Frame :=
 (lim (([] : List Section) ++ f_.Sections)).bind fun l5 => some (Frame.mk l5 f_.Low f_.High f_.Ease f_.Rod f_.Case)
theorem c_ref01_Copy (n : Nat) (H : Hp) (f_ : Frame) (f__v0 : Value) (hf__0 : SL H 7 R_Section f__v0 f_.Sections) (y : Frame) (hF : F_ref01_Copy n f_ = some y) : HC Tryz.prog 73 [.agg [f__v0, .int .i64 f_.Low, .int .i64 f_.High, .int .i64 f_.Ease.Num, .int .i64 f_.Ease.Den, .int .i64 f_.Rod, .int .i64 f_.Case].toArray] H (fun H' v => ∃ ra_v0 : Value, v = .agg [ra_v0, .int .i64 y.Low, .int .i64 y.High, .int .i64 y.Ease.Num, .int .i64 y.Ease.Den, .int .i64 y.Rod, .int .i64 y.Case].toArray ∧ SL H' 7 R_Section ra_v0 y.Sections) := by
 rw [F_ref01_Copy] at hF
 refine HC.of (N := 9) Tryz.func73 rfl rfl rfl fun w => ?_
 refine JC.seq (JC.region (by rfl) ?_)
 intro hQ
 refine JL.box (cs := [f__v0, .int .i64 f_.Low, .int .i64 f_.High, .int .i64 f_.Ease.Num, .int .i64 f_.Ease.Den, .int .i64 f_.Rod, .int .i64 f_.Case]) rfl .none rfl ?_
 intro b1
 refine JL.alloc ze_26 .none rfl ?_
 intro b2
 refine JL.done hQ (JQ.go (JC.seq (JC.region (by rfl) ?_)))
 intro hQ
 refine JL.emptySlice ap_22 .none rfl ?_
 intro v3
 refine JL.fieldAddr fo_26_0 rfl .none rfl (JL.loadOwn 1 az_22 rfl rfl rfl .none rfl ?_)
 obtain ⟨l5, hl5, hF⟩ := bind_some hF
 refine JL.appD (R := R_Section) 0 (l := ([] : List Section)) (m := f_.Sections) ap_22 rfl ⟨rfl, rfl⟩ rfl CH.nil rfl hf__0 (R_Section_one _) hl5 .none rfl ?_
 intro v6 xs7 hch8
 refine JL.fieldAddr fo_26_0 rfl .none rfl (JL.oneG 0 rfl (fun ho9 => ?_))
 refine JL.storeOwn 1 (cs := [v6]) az_22 rfl ho9.2 rfl (one_cons ho9.1 one_nil) rfl rfl .none ?_
 refine JL.done hQ (JQ.go (JC.seq (JC.region (by rfl) ?_)))
 intro hQ
 refine JL.loadOwn 1 az_26 rfl rfl rfl .none rfl (JL.oneG 0 rfl (fun ho10 => ?_))
 refine JL.storeOwn 0 (cs := [v6, .int .i64 f_.Low, .int .i64 f_.High, .int .i64 f_.Ease.Num, .int .i64 f_.Ease.Den, .int .i64 f_.Rod, .int .i64 f_.Case]) az_26 rfl rfl rfl (one_cons ho10.1 (one_cons rfl (one_cons rfl (one_cons rfl (one_cons rfl (one_cons rfl (one_cons rfl one_nil))))))) rfl rfl .none ?_
 refine JL.done hQ (JQ.go (JC.ret (JQ.freezeG 0 (R := R_Section) rfl R_Section_mono hch8 rfl ?_)))
 intro H11 hs11 hg12
 obtain rfl := Option.some.inj hF
 exact JQ.outH rfl (.cell 0 az_26 rfl rfl rfl .nil) ⟨v6, rfl, hg12⟩
-- 40 ferrule/ferruleref05.Copy
def F_ref05_Copy (n : Nat) (d : Canopy) : Option Canopy :=
 (F_ref01_Copy n d.Frame).bind fun y4 => (lim (([] : List Span) ++ d.Ribs)).bind fun l9 => (lim (([] : List Int) ++ d.Shares)).bind fun l15 => some (Canopy.mk y4 l9 l15)
theorem c_ref05_Copy (n : Nat) (H : Hp) (d : Canopy) (d_v0 : Value) (hd_0 : SL H 7 R_Section d_v0 d.Frame.Sections) (d_v7 : Value) (hd_7 : SL H 2 R_Span d_v7 d.Ribs) (d_v8 : Value) (hd_8 : SL H 1 RInt d_v8 d.Shares) (y : Canopy) (hF : F_ref05_Copy n d = some y) : HC Tryz.prog 40 [.agg [d_v0, .int .i64 d.Frame.Low, .int .i64 d.Frame.High, .int .i64 d.Frame.Ease.Num, .int .i64 d.Frame.Ease.Den, .int .i64 d.Frame.Rod, .int .i64 d.Frame.Case, d_v7, d_v8].toArray] H (fun H' v => ∃ ra_v0 ra_v7 ra_v8 : Value, v = .agg [ra_v0, .int .i64 y.Frame.Low, .int .i64 y.Frame.High, .int .i64 y.Frame.Ease.Num, .int .i64 y.Frame.Ease.Den, .int .i64 y.Frame.Rod, .int .i64 y.Frame.Case, ra_v7, ra_v8].toArray ∧ SL H' 7 R_Section ra_v0 y.Frame.Sections ∧ SL H' 2 R_Span ra_v7 y.Ribs ∧ SL H' 1 RInt ra_v8 y.Shares) := by
 rw [F_ref05_Copy] at hF
 refine HC.of (N := 20) Tryz.func40 rfl rfl rfl fun w => ?_
 refine JC.seq (JC.region (by rfl) ?_)
 intro hQ
 refine JL.box (cs := [d_v0, .int .i64 d.Frame.Low, .int .i64 d.Frame.High, .int .i64 d.Frame.Ease.Num, .int .i64 d.Frame.Ease.Den, .int .i64 d.Frame.Rod, .int .i64 d.Frame.Case, d_v7, d_v8]) rfl .none rfl ?_
 intro b1
 refine JL.alloc ze_30 .none rfl ?_
 intro b2
 refine JL.done hQ (JQ.go (JC.seq (JC.region (by rfl) ?_)))
 intro hQ
 refine JL.loadOwn 1 az_30 rfl rfl rfl .none rfl (JL.alloc ze_30 .none rfl ?_)
 intro b3
 refine JL.storeOwn 0 (cs := [d_v0, .int .i64 d.Frame.Low, .int .i64 d.Frame.High, .int .i64 d.Frame.Ease.Num, .int .i64 d.Frame.Ease.Den, .int .i64 d.Frame.Rod, .int .i64 d.Frame.Case, d_v7, d_v8]) az_30 rfl rfl rfl (one_cons (SL.one hd_0) (one_cons rfl (one_cons rfl (one_cons rfl (one_cons rfl (one_cons rfl (one_cons rfl (one_cons (SL.one hd_7) (one_cons (SL.one hd_8) one_nil))))))))) rfl rfl .none ?_
 refine JL.done hQ (JQ.go (JC.seq (JC.region (by rfl) ?_)))
 intro hQ
 refine JL.fieldAddr fo_30_0 rfl .none rfl (JL.loadOwn 2 az_26 rfl rfl rfl .none rfl ?_)
 obtain ⟨y4, hy4, hF⟩ := bind_some hF
 refine JL.callH (c_ref01_Copy n H d.Frame d_v0 hd_0 y4 hy4) rfl en_73 .none rfl ?_
 rintro H5 vv6 hs5 ⟨y4a_v0, rfl, hy4a_0⟩
 refine JL.fieldAddr fo_30_0 rfl .none rfl (JL.storeOwn 0 (cs := [y4a_v0, .int .i64 y4.Low, .int .i64 y4.High, .int .i64 y4.Ease.Num, .int .i64 y4.Ease.Den, .int .i64 y4.Rod, .int .i64 y4.Case]) az_26 rfl rfl rfl (one_cons (SL.one hy4a_0) (one_cons rfl (one_cons rfl (one_cons rfl (one_cons rfl (one_cons rfl (one_cons rfl one_nil))))))) rfl rfl .none ?_)
 refine JL.done hQ (JQ.go (JC.seq ?_))
 obtain ⟨l9, hl9, hF⟩ := bind_some hF
 obtain ⟨l15, hl15, hF⟩ := bind_some hF
 refine JC.mixed 12 12 (tf 0 12) [(b2, .cells [.slice none 0 0, .int .i64 0, .int .i64 0, .int .i64 0, .int .i64 0, .int .i64 0, .int .i64 0, .slice none 0 0, .slice none 0 0].toArray 30), (b1, .cells [d_v0, .int .i64 d.Frame.Low, .int .i64 d.Frame.High, .int .i64 d.Frame.Ease.Num, .int .i64 d.Frame.Ease.Den, .int .i64 d.Frame.Rod, .int .i64 d.Frame.Case, d_v7, d_v8].toArray 30)] (by rfl) mo_ (by kernel_rfl) (by kernel_rfl) ?_
 intro hQ hE
 refine JA.cut 4 #[true, true, true, true, true, true, true, false, true, false, false, false] (fun H116 f bs gs => ∃ (v106 : Value) (v99 : Value) (xs100 : List Value), f 2 = .pointer (some ⟨b2, 0, none⟩) ∧ f 3 = .pointer (some ⟨b3, 0, none⟩) ∧ f 12 = v99 ∧ f 13 = v106 ∧ f 15 = d_v8 ∧ f 17 = .pointer (some ⟨b3, 7, none⟩) ∧ bs = [(b3, .cells [y4a_v0, .int .i64 y4.Low, .int .i64 y4.High, .int .i64 y4.Ease.Num, .int .i64 y4.Ease.Den, .int .i64 y4.Rod, .int .i64 y4.Case, d_v7, d_v8].toArray 30), (b2, .cells [.slice none 0 0, .int .i64 0, .int .i64 0, .int .i64 0, .int .i64 0, .int .i64 0, .int .i64 0, .slice none 0 0, .slice none 0 0].toArray 30), (b1, .cells [d_v0, .int .i64 d.Frame.Low, .int .i64 d.Frame.High, .int .i64 d.Frame.Ease.Num, .int .i64 d.Frame.Ease.Den, .int .i64 d.Frame.Rod, .int .i64 d.Frame.Case, d_v7, d_v8].toArray 30)] ∧ gs = [⟨v106, 3, 1, 0, []⟩, ⟨v99, 42, 2, l9.length, xs100⟩] ∧ CH H116 2 R_Span xs100 l9 ∧ HSub H5 H116) ?_ ?_
 ·rintro H116 f bs gs ⟨v106, v99, xs100, hf2, hf3, hf12, hf13, hf15, hf17, rfl, rfl, hm117, hs116⟩
  refine (JA.norm (i := 2) hf2 (JA.norm (i := 3) hf3 (JA.norm (i := 12) hf12 (JA.norm (i := 13) hf13 (JA.norm (i := 15) hf15 (JA.norm (i := 17) hf17 ?_))))))
  refine JA.many [7] (by kernel_rfl) (by simp) (all_one ⟨_, (tf 9 3), rfl, (by kernel_rfl), ?_⟩)
  refine JL.appD (R := RInt) 0 (l := ([] : List Int)) (m := d.Shares) ap_28 rfl ⟨rfl, rfl⟩ rfl CH.nil rfl (SL.mono RInt.mono (HSub.trans hs5 hs116) hd_8) (RInt.one _) hl15 .none rfl ?_
  intro v118 xs119 hch120
  refine JA.after hE hs116 (.cons _ (.cons_cons _ (.cons_cons _ (List.nil_sublist _)))) ?_
  refine JA.many [9] (by kernel_rfl) (by simp) (all_one ⟨_, (tf 10 2), rfl, (by kernel_rfl), ?_⟩)
  refine JL.oneG 1 rfl (fun ho121 => ?_)
  refine JL.storeOwn 0 (cs := [v99]) az_27 rfl ho121.2 rfl (one_cons ho121.1 one_nil) rfl rfl .none ?_
  refine JA.after hE hs116 (.cons _ (.cons_cons _ (.cons_cons _ (List.nil_sublist _)))) ?_
  refine JA.take 10 (listed' := (tf 11 1)) hQ rfl (by kernel_rfl) (by kernel_rfl) (by kernel_rfl) (by kernel_rfl) (by kernel_rfl) hE hs116 (.cons _ (.cons_cons _ (.cons_cons _ (List.nil_sublist _)))) ?_
  refine JL.fieldAddr fo_30_2 rfl .none rfl (JA.cont ?_)
  refine JA.many [11] (by kernel_rfl) (by simp) (all_one ⟨_, (tf 12 0), rfl, (by kernel_rfl), ?_⟩)
  refine JL.oneG 0 rfl (fun ho122 => ?_)
  refine JL.storeOwn 0 (cs := [v118]) az_28 rfl ho122.2 rfl (one_cons ho122.1 one_nil) rfl rfl .none ?_
  refine JA.after hE hs116 (.cons _ (.cons_cons _ (.cons_cons _ (List.nil_sublist _)))) ?_
  refine JA.done hQ (by kernel_rfl) ?_
  refine JQ.go (JC.seq (JC.region (by rfl) ?_))
  intro hQ
  refine JL.loadOwn 0 az_30 rfl rfl rfl .none rfl (JL.oneG 1 rfl (fun ho123 => ?_))
  refine JL.oneG 0 rfl (fun ho124 => ?_)
  refine JL.storeOwn 1 (cs := [y4a_v0, .int .i64 y4.Low, .int .i64 y4.High, .int .i64 y4.Ease.Num, .int .i64 y4.Ease.Den, .int .i64 y4.Rod, .int .i64 y4.Case, v99, v118]) az_30 rfl rfl rfl (one_cons (SL.one (SL.mono R_Section_mono hs116 hy4a_0)) (one_cons rfl (one_cons rfl (one_cons rfl (one_cons rfl (one_cons rfl (one_cons rfl (one_cons ho123.1 (one_cons ho124.1 one_nil))))))))) rfl rfl .none ?_
  refine JL.done hQ (JQ.go (JC.ret (JQ.freezeG 1 (R := R_Span) rfl R_Span_mono hm117 rfl ?_)))
  intro H125 hs125 hg126
  refine JQ.freezeG 0 (R := RInt) rfl RInt.mono (CH.mono RInt.mono hs125 hch120) rfl ?_
  intro H127 hs127 hg128
  obtain rfl := Option.some.inj hF
  exact JQ.outH rfl (.cell 1 az_30 rfl rfl rfl .nil) ⟨y4a_v0, v99, v118, rfl, (SL.mono R_Section_mono (HSub.trans hs116 (HSub.trans hs125 hs127)) hy4a_0), (SL.mono R_Span_mono hs127 hg126), hg128⟩
 intro nd115_0
 refine JA.cut 6 #[true, true, true, false, true, true, true, false, false, false, false, false] (fun H129 f bs gs => ∃ (v102 : Value) (v95 : Value), f 2 = .pointer (some ⟨b2, 0, none⟩) ∧ f 3 = .pointer (some ⟨b3, 0, none⟩) ∧ f 9 = v95 ∧ f 11 = d_v7 ∧ f 13 = v102 ∧ f 15 = d_v8 ∧ bs = [(b3, .cells [y4a_v0, .int .i64 y4.Low, .int .i64 y4.High, .int .i64 y4.Ease.Num, .int .i64 y4.Ease.Den, .int .i64 y4.Rod, .int .i64 y4.Case, d_v7, d_v8].toArray 30), (b2, .cells [.slice none 0 0, .int .i64 0, .int .i64 0, .int .i64 0, .int .i64 0, .int .i64 0, .int .i64 0, .slice none 0 0, .slice none 0 0].toArray 30), (b1, .cells [d_v0, .int .i64 d.Frame.Low, .int .i64 d.Frame.High, .int .i64 d.Frame.Ease.Num, .int .i64 d.Frame.Ease.Den, .int .i64 d.Frame.Rod, .int .i64 d.Frame.Case, d_v7, d_v8].toArray 30)] ∧ gs = [⟨v102, 3, 1, 0, []⟩, ⟨v95, 42, 2, 0, []⟩] ∧ HSub H5 H129) ?_ ?_
 ·rintro H129 f bs gs ⟨v102, v95, hf2, hf3, hf9, hf11, hf13, hf15, rfl, rfl, hs129⟩
  refine (JA.norm (i := 2) hf2 (JA.norm (i := 3) hf3 (JA.norm (i := 9) hf9 (JA.norm (i := 11) hf11 (JA.norm (i := 13) hf13 (JA.norm (i := 15) hf15 ?_))))))
  refine JA.many [3] (by kernel_rfl) (by simp) (all_one ⟨_, (tf 7 5), rfl, (by kernel_rfl), ?_⟩)
  refine JL.appD (R := R_Span) 1 (l := ([] : List Span)) (m := d.Ribs) ap_27 rfl ⟨rfl, rfl⟩ rfl CH.nil rfl (SL.mono R_Span_mono (HSub.trans hs5 hs129) hd_7) (R_Span_one _) hl9 .none rfl ?_
  intro v130 xs131 hch132
  refine JA.after hE hs129 (.cons _ (.cons_cons _ (.cons_cons _ (List.nil_sublist _)))) ?_
  refine JA.take 8 (listed' := #[true, true, true, true, true, true, true, false, true, false, false, false]) hQ rfl (by kernel_rfl) (by kernel_rfl) (by kernel_rfl) (by kernel_rfl) (by kernel_rfl) hE hs129 (.cons _ (.cons_cons _ (.cons_cons _ (List.nil_sublist _)))) ?_
  refine JL.fieldAddr fo_30_1 rfl .none rfl (JA.cont ?_)
  exact nd115_0 _ _ _ _ ⟨v102, v130, xs131, rfl, rfl, rfl, rfl, rfl, rfl, rfl, rfl, hch132, hs129⟩
 intro nd115_1
 refine JA.tk 1 #[false, true, false, false, false, false, false, false, false, false, false, false] hQ rfl hE (.cons _ (.cons_cons _ (.cons_cons _ (List.nil_sublist _)))) ?_
 refine JL.fieldAddr fo_30_1 rfl .none rfl (JA.cont ?_)
 refine JA.tk 2 #[false, true, true, false, false, false, false, false, false, false, false, false] hQ rfl hE (.cons _ (.cons_cons _ (.cons_cons _ (List.nil_sublist _)))) ?_
 refine JL.loadOwn 1 az_27 rfl rfl rfl .none rfl (JA.cont ?_)
 refine JA.tk 5 #[false, true, true, false, false, true, false, false, false, false, false, false] hQ rfl hE (.cons _ (.cons_cons _ (.cons_cons _ (List.nil_sublist _)))) ?_
 refine JL.fieldAddr fo_30_2 rfl .none rfl (JA.cont ?_)
 refine JA.tk 6 #[false, true, true, false, false, true, true, false, false, false, false, false] hQ rfl hE (.cons _ (.cons_cons _ (.cons_cons _ (List.nil_sublist _)))) ?_
 refine JL.loadOwn 1 az_28 rfl rfl rfl .none rfl (JA.cont ?_)
 refine JA.many [0, 4] (by kernel_rfl) (by simp) (all_cons ⟨_, #[true, true, true, false, false, true, true, false, false, false, false, false], rfl, (by kernel_rfl), ?_⟩ (all_one ⟨_, #[false, true, true, false, true, true, true, false, false, false, false, false], rfl, (by kernel_rfl), ?_⟩))
 ·skip
  refine JL.emptySlice ap_27 .none rfl ?_
  intro v133
  refine JA.after hE (HSub.refl _) (.cons _ (.cons_cons _ (.cons_cons _ (List.nil_sublist _)))) ?_
  refine JA.many [3, 4] (by kernel_rfl) (by simp) (all_cons ⟨_, #[true, true, true, true, false, true, true, false, false, false, false, false], rfl, (by kernel_rfl), ?_⟩ (all_one ⟨_, #[true, true, true, false, true, true, true, false, false, false, false, false], rfl, (by kernel_rfl), ?_⟩))
  ·skip
   refine JL.appD (R := R_Span) 0 (l := ([] : List Span)) (m := d.Ribs) ap_27 rfl ⟨rfl, rfl⟩ rfl CH.nil rfl (SL.mono R_Span_mono hs5 hd_7) (R_Span_one _) hl9 .none rfl ?_
   intro v135 xs136 hch137
   refine JA.after hE (HSub.refl _) (.cons _ (.cons_cons _ (.cons_cons _ (List.nil_sublist _)))) ?_
   refine JA.tk 8 #[true, true, true, true, false, true, true, false, true, false, false, false] hQ rfl hE (.cons _ (.cons_cons _ (.cons_cons _ (List.nil_sublist _)))) ?_
   refine JL.fieldAddr fo_30_1 rfl .none rfl (JA.cont ?_)
   refine JA.many [4] (by kernel_rfl) (by simp) (all_one ⟨_, #[true, true, true, true, true, true, true, false, true, false, false, false], rfl, (by kernel_rfl), ?_⟩)
   refine JL.emptySlice ap_28 .none rfl ?_
   intro v138
   refine JA.after hE (HSub.refl _) (.cons _ (.cons_cons _ (.cons_cons _ (List.nil_sublist _)))) ?_
   exact nd115_0 _ _ _ _ ⟨v138, v135, xs136, rfl, rfl, rfl, rfl, rfl, rfl, rfl, rfl, hch137, (HSub.refl _)⟩
  ·skip
   refine JL.emptySlice ap_28 .none rfl ?_
   intro v140
   refine JA.after hE (HSub.refl _) (.cons _ (.cons_cons _ (.cons_cons _ (List.nil_sublist _)))) ?_
   exact nd115_1 _ _ _ _ ⟨v140, v133, rfl, rfl, rfl, rfl, rfl, rfl, rfl, rfl, (HSub.refl _)⟩
 ·skip
  refine JL.emptySlice ap_28 .none rfl ?_
  intro v142
  refine JA.after hE (HSub.refl _) (.cons _ (.cons_cons _ (.cons_cons _ (List.nil_sublist _)))) ?_
  refine JA.many [0] (by kernel_rfl) (by simp) (all_one ⟨_, #[true, true, true, false, true, true, true, false, false, false, false, false], rfl, (by kernel_rfl), ?_⟩)
  refine JL.emptySlice ap_27 .none rfl ?_
  intro v144
  refine JA.after hE (HSub.refl _) (.cons _ (.cons_cons _ (.cons_cons _ (List.nil_sublist _)))) ?_
  refine JA.permG (swapAt_perm 0 _) ?_
  exact nd115_1 _ _ _ _ ⟨v142, v144, rfl, rfl, rfl, rfl, rfl, rfl, rfl, rfl, (HSub.refl _)⟩
end Go.Proofs.YtcipdblhopffbaaGreat
end
