/-
  A part of the proof of FiFiner: the texts FiGenK11, FiGenK12, EngP, EngQ, EngR.
-/
import Derived.Test.YteihdclpiekmaaaJFiFiner7
section
set_option maxRecDepth 100000
set_option maxHeartbeats 40000000
namespace Go.Proofs.Yteihdclpiekmaaa
open Go Go.RowKit Go.Dec
set_option linter.unusedVariables false
-- 145 (ferrule/gusts.blown).rounds
def F_gusts_blown_rounds (n : Nat) (b : gusts_blown) (g : Gust) : Option (gusts_blown × Gust) :=
 some (b, g)
theorem c_gusts_blown_rounds (n : Nat) (H : Hp) (b : gusts_blown) (b_v1 : Value) (hb_1 : SL H 1 RInt b_v1 b.ribs) (b_v2 : Value) (hb_2 : SL H 1 RInt b_v2 b.shares) (g : Gust) (y : gusts_blown × Gust) (hF : F_gusts_blown_rounds n b g = some y) : HC Try.prog 145 [.agg [.int .i64 b.lift, b_v1, b_v2].toArray, .agg [.int .i64 g.Force, .int .i64 g.At].toArray] H (fun H' v => ∃ b0_ b1_ : Nat, ∃ z0_v1 z0_v2 : Value, v = .func (.func 180) #[] [.pointer (some ⟨b0_, 0, none⟩), .pointer (some ⟨b1_, 0, none⟩)].toArray ∧ Cells H' b0_ 0 [.int .i64 y.1.lift, z0_v1, z0_v2] ∧ Cells H' b1_ 0 [.int .i64 y.2.Force, .int .i64 y.2.At] ∧ SL H' 1 RInt z0_v1 y.1.ribs ∧ SL H' 1 RInt z0_v2 y.1.shares) := by
 rw [F_gusts_blown_rounds] at hF
 refine HC.of (N := 6) Try.func145 rfl rfl rfl fun w => ?_
 refine JC.seq (JC.region (by rfl) ?_)
 intro hQ
 refine JL.box (cs := [.int .i64 b.lift, b_v1, b_v2]) rfl .none rfl ?_
 intro b1
 refine JL.box (cs := [.int .i64 g.Force, .int .i64 g.At]) rfl .none rfl ?_
 intro b2
 refine JL.assign .none rfl ?_
 refine JL.done hQ (JQ.go (JC.seq (JC.region (by rfl) ?_)))
 intro hQ
 refine JL.makeFunc .none rfl ?_
 refine JL.assign .none rfl ?_
 refine JL.done hQ (JQ.go (JC.ret (JQ.freezeC 1 (l := [.int .i64 b.lift, b_v1, b_v2]) rfl ?_)))
 intro H3 hs3 hc4
 refine JQ.freezeC 0 (l := [.int .i64 g.Force, .int .i64 g.At]) rfl ?_
 intro H5 hs5 hc6
 obtain rfl := Option.some.inj hF
 exact JQ.outH rfl (.tmp .nil) ⟨b1, b2, b_v1, b_v2, rfl, (Cells.mono hs5 hc4), hc6, (SL.mono RInt.mono (HSub.trans hs3 hs5) hb_1), (SL.mono RInt.mono (HSub.trans hs3 hs5) hb_2)⟩
-- 89 (ferrule/gusts.blown).first
def F_gusts_blown_first_s1 (n : Nat)  : Unit → Int → Option (Unit ⊕ Int)
 | _, x7 => some (Sum.inr x7)
def F_gusts_blown_first (n : Nat) (b : gusts_blown) (g : Gust) : Option Int :=
 (F_gusts_blown_rounds n b g).bind fun y4 => (I_gusts_blown_rounds_1 n y4.1 y4.2 (F_gusts_blown_first_s1 n) ()).bind fun r20 => match r20 with | .inl _ => some 0 | .inr z_18 => some z_18
theorem c_gusts_blown_first (n : Nat) (H : Hp) (b : gusts_blown) (b_v1 : Value) (hb_1 : SL H 1 RInt b_v1 b.ribs) (b_v2 : Value) (hb_2 : SL H 1 RInt b_v2 b.shares) (g : Gust) (y : Int) (hF : F_gusts_blown_first n b g = some y) : SC Try.prog 89 [.agg [.int .i64 b.lift, b_v1, b_v2].toArray, .agg [.int .i64 g.Force, .int .i64 g.At].toArray] (.int .u16 y) H := by
 rw [F_gusts_blown_first] at hF
 refine SC.ofM (N := 11) Try.func89 rfl rfl rfl fun w => ?_
 refine JC.seq (JC.region (by rfl) ?_)
 intro hQ
 refine JL.box (cs := [.int .i64 b.lift, b_v1, b_v2]) rfl .none rfl ?_
 intro b1
 refine JL.box (cs := [.int .i64 g.Force, .int .i64 g.At]) rfl .none rfl ?_
 intro b2
 refine JL.alloc ze_160 .none rfl ?_
 intro b3
 refine JL.done hQ (JQ.go (JC.seq (JC.seq (JC.region (by rfl) ?_))))
 intro hQ
 refine JL.loadOwn 2 az_156 rfl rfl rfl .none rfl ?_
 refine JL.loadOwn 1 az_86 rfl rfl rfl .none rfl ?_
 obtain ⟨y4, hy4, hF⟩ := bind_some hF
 refine JL.callH (c_gusts_blown_rounds n H b b_v1 hb_1 b_v2 hb_2 g y4 hy4) rfl en_145 .none rfl ?_
 rintro H5 vv6 hs5 ⟨y4_b0, y4_b1, y4_0_v1, y4_0_v2, rfl, hy4_b0, hy4_b1, hy4_0_1, hy4_0_2⟩
 refine JL.done hQ (JQ.go (JC.block ?_))
 obtain ⟨r20, hl21, hF⟩ := bind_some hF
 refine JC.mask [true, false, false] [] ?_
 refine JC.rangeFunc (ρ := Int) (V := (VPlain fun (x : Int) => .int .u16 x)) (F := fun _ _ step s => I_gusts_blown_rounds_1 n y4.1 y4.2 step s) rfl en_180 (it_gusts_blown_rounds_1 n H5 y4.1 y4_0_v1 hy4_0_1 y4_0_v2 hy4_0_2 y4_b0 hy4_b0 y4.2 y4_b1 hy4_b1) rfl hl21 (fun (_ : Unit) H17 fr gs => fr = [(b3, .cells [.int .u16 0].toArray 160)] ∧ gs = [] ∧ HSub H5 H17) (fun (z_18 : Int) (c : Code) H19 fr gs => c = .ret ∧ fr = [(b3, .cells [.int .u16 z_18].toArray 160)] ∧ gs = [] ∧ HSub H5 H19) ⟨rfl, rfl, (HSub.refl _)⟩ ?_ ?_ ?_
 ·rintro l8 _ x7 y22 v9 own T10 H17 fr gs ⟨rfl, rfl, hs17⟩ hF ⟨rfl, rfl⟩ -
  rw [F_gusts_blown_first_s1] at hF
  refine JC.region (by rfl) ?_
  intro hQ
  refine JL.assign .none rfl ?_
  refine JL.done hQ (JQ.assigned [(b3, .cells [.int .u16 0].toArray 160)] (fun T11 => ?_))
  refine JC.block (JC.seq (JC.region (by rfl) ?_))
  intro hQ
  refine JL.move .none rfl ?_
  refine JL.storeOwn 0 (cs := [.int .u16 x7]) az_160 rfl rfl rfl (one_cons rfl one_nil) rfl rfl .none ?_
  refine JL.done hQ (JQ.go (JC.ret (JQ.ret_block ?_)))
  obtain rfl := Option.some.inj hF
  refine JQ.roundRet rfl [(b3, .cells [.int .u16 x7].toArray 160)] (HSub.refl _) ?_
  exact ⟨rfl, rfl, rfl, hs17⟩
 ·rintro D23 _ H17 fr gs rfl ⟨rfl, rfl, hs17⟩ -
  try dsimp only at hF
  refine JQ.normal_block (JQ.go (JC.seq (JC.region (by rfl) ?_)))
  intro hQ
  refine JL.storeOwn 0 (cs := [.int .u16 0]) az_160 rfl rfl rfl (one_cons rfl one_nil) rfl rfl .none ?_
  refine JL.done hQ (JQ.go (JC.ret ?_))
  obtain rfl := Option.some.inj hF
  exact JQ.outSM rfl (.cons 1 rfl .nil) (.cell 0 az_160 rfl rfl rfl .nil) rfl
 ·rintro D24 z_18 _ H19 fr gs rfl ⟨rfl, rfl, rfl, hs19⟩ -
  try dsimp only at hF
  refine JC.ret (JQ.ret_block (JQ.ret_then ?_))
  obtain rfl := Option.some.inj hF
  exact JQ.outSM rfl (.cons 1 rfl .nil) (.cell 0 az_160 rfl rfl rfl .nil) rfl
-- 224 (ferrule/gusts.blown).stands$1
def F_gusts_blown_stands_1 (n : Nat) (g : Gust) (c_0 : gusts_blown) : Option Bool :=
 (F_gusts_blown_first n c_0 g).bind fun y2 => some (y2 != 0)
theorem c_gusts_blown_stands_1 (n : Nat) (H : Hp) (g : Gust) (c_0 : gusts_blown) (c_0_v1 : Value) (hc_0_1 : SL H 1 RInt c_0_v1 c_0.ribs) (c_0_v2 : Value) (hc_0_2 : SL H 1 RInt c_0_v2 c_0.shares) (c_0_b : Nat) (c_0_c : Cells H c_0_b 0 [.int .i64 c_0.lift, c_0_v1, c_0_v2]) (y : Bool) (hF : F_gusts_blown_stands_1 n g c_0 = some y) : SC Try.prog 224 [.agg [.int .i64 g.Force, .int .i64 g.At].toArray, .pointer (some ⟨c_0_b, 0, none⟩)] (.bool y) H := by
 rw [F_gusts_blown_stands_1] at hF
 refine SC.of (N := 8) Try.func224 rfl rfl rfl fun w => ?_
 refine JC.seq (JC.region (by rfl) ?_)
 intro hQ
 refine JL.box (cs := [.int .i64 g.Force, .int .i64 g.At]) rfl .none rfl ?_
 intro b1
 refine JL.assign .none rfl ?_
 refine JL.done hQ (JQ.go (JC.seq (JC.region (by rfl) ?_)))
 intro hQ
 refine JL.loadH 0 az_156 rfl c_0_c rfl .none rfl ?_
 refine JL.loadOwn 0 az_86 rfl rfl rfl .none rfl ?_
 obtain ⟨y2, hy2, hF⟩ := bind_some hF
 refine JL.callS (c_gusts_blown_first n H c_0 c_0_v1 hc_0_1 c_0_v2 hc_0_2 g y2 hy2) rfl en_89 .none rfl ?_
 refine JL.bin rfl rfl rfl .none rfl ?_
 refine JL.assign .none rfl ?_
 refine JL.done hQ (JQ.go (JC.ret ?_))
 obtain rfl := Option.some.inj hF
 exact JQ.outS rfl (.tmp .nil) rfl
-- 186 (ferrule/gusts.blown).stands
def F_gusts_blown_stands (n : Nat) (b : gusts_blown) (class_ : List Gust) : Option Bool :=
 (F_slices_ContainsFunc___api_Gust_api_Gust_ n class_ (fun a0_ => F_gusts_blown_stands_1 n a0_ b)).bind fun y4 => some (!y4)
theorem c_gusts_blown_stands (n : Nat) (H : Hp) (b : gusts_blown) (b_v1 : Value) (hb_1 : SL H 1 RInt b_v1 b.ribs) (b_v2 : Value) (hb_2 : SL H 1 RInt b_v2 b.shares) (class_ : List Gust) (class__v0 : Value) (hclass__0 : SL H 2 R_Gust class__v0 class_) (y : Bool) (hF : F_gusts_blown_stands n b class_ = some y) : SC Try.prog 186 [.agg [.int .i64 b.lift, b_v1, b_v2].toArray, class__v0] (.bool y) H := by
 rw [F_gusts_blown_stands] at hF
 refine SC.of (N := 9) Try.func186 rfl rfl rfl fun w => ?_
 refine JC.seq (JC.region (by rfl) ?_)
 intro hQ
 refine JL.box (cs := [.int .i64 b.lift, b_v1, b_v2]) rfl .none rfl ?_
 intro b1
 refine JL.assign .none rfl ?_
 refine JL.done hQ (JQ.go (JC.seq (JC.region (by rfl) ?_)))
 intro hQ
 refine JL.move .none rfl ?_
 refine JL.makeFunc .none rfl ?_
 refine JL.freezeC 0 (l := [.int .i64 b.lift, b_v1, b_v2]) rfl ?_
 intro H2 hs2 hc3
 obtain ⟨y4, hy4, hF⟩ := bind_some hF
 refine JL.callS (c_slices_ContainsFunc___api_Gust_api_Gust_ n H2 class_ class__v0 (SL.mono R_Gust_mono hs2 hclass__0) (fun a0_ => F_gusts_blown_stands_1 n a0_ b) 224 [.pointer (some ⟨b1, 0, none⟩)] en_224 (fun H' hs' a0_ y' hy' => c_gusts_blown_stands_1 n H' a0_ b b_v1 (SL.mono RInt.mono hs' (SL.mono RInt.mono hs2 hb_1)) b_v2 (SL.mono RInt.mono hs' (SL.mono RInt.mono hs2 hb_2)) b1 (Cells.mono hs' hc3) y' hy') y4 hy4) rfl en_144 .none rfl ?_
 refine JL.not rfl .none rfl ?_
 refine JL.assign .none rfl ?_
 refine JL.done hQ (JQ.go (JC.ret ?_))
 obtain rfl := Option.some.inj hF
 exact JQ.outS rfl (.tmp .nil) rfl
-- 151 ferrule/gusts.Stands
def F_gusts_Stands (n : Nat) (d : Canopy) (class_ : List Gust) : Option (Int × Int) :=
 (F_gusts_ask n d class_).bind fun y2 => if (y2 != 0) = true then (some (0, y2)) else ((F_gusts_ends n d).bind fun y4 => (F_gusts_blown_stands n y4.2 class_).bind fun y9 => if y9 = true then (some (1, 0)) else ((F_gusts_blown_stands n y4.1 class_).bind fun y11 => if (!y11) = true then (some (2, 0)) else (some (3, 0))))
theorem c_gusts_Stands (n : Nat) (H : Hp) (d : Canopy) (d_v0 : Value) (hd_0 : SL H 7 R_Section d_v0 d.Frame.Sections) (d_v7 : Value) (hd_7 : SL H 2 R_Span d_v7 d.Ribs) (d_v8 : Value) (hd_8 : SL H 1 RInt d_v8 d.Shares) (class_ : List Gust) (class__v0 : Value) (hclass__0 : SL H 2 R_Gust class__v0 class_) (y : Int × Int) (hF : F_gusts_Stands n d class_ = some y) : SC Try.prog 151 [.agg [d_v0, .int .i64 d.Frame.Low, .int .i64 d.Frame.High, .int .i64 d.Frame.Ease.Num, .int .i64 d.Frame.Ease.Den, .int .i64 d.Frame.Rod, .int .i64 d.Frame.Case, d_v7, d_v8].toArray, class__v0] (.tuple [.int .i64 y.1, .int .i64 y.2].toArray) H := by
 rw [F_gusts_Stands] at hF
 refine SC.of (N := 29) Try.func151 rfl rfl rfl fun w => ?_
 refine JC.seq (JC.region (by rfl) ?_)
 intro hQ
 refine JL.box (cs := [d_v0, .int .i64 d.Frame.Low, .int .i64 d.Frame.High, .int .i64 d.Frame.Ease.Num, .int .i64 d.Frame.Ease.Den, .int .i64 d.Frame.Rod, .int .i64 d.Frame.Case, d_v7, d_v8]) rfl .none rfl ?_
 intro b1
 refine JL.assign .none rfl ?_
 refine JL.assign .none rfl ?_
 refine JL.done hQ (JQ.go (JC.seq (JC.seq (JC.region (by rfl) ?_))))
 intro hQ
 refine JL.loadOwn 0 az_76 rfl rfl rfl .none rfl ?_
 refine JL.move .none rfl ?_
 obtain ⟨y2, hy2, hF⟩ := bind_some hF
 refine JL.callS (c_gusts_ask n H d d_v0 hd_0 d_v7 hd_7 d_v8 hd_8 class_ class__v0 hclass__0 y2 hy2) rfl en_87 .none rfl ?_
 refine JL.assign .none rfl ?_
 refine JL.done hQ (JQ.go (JC.seq (JC.region (by rfl) ?_)))
 intro hQ
 refine JL.move .none rfl ?_
 refine JL.bin rfl rfl rfl .none rfl ?_
 refine JL.done hQ (JQ.go ?_)
 rcases ite_some hF with ⟨hc3, hF⟩ | ⟨hc3, hF⟩
 ·refine JC.cond_t (b := (y2 != 0)) rfl hc3 ?_
  refine JC.seq (JC.region (by rfl) ?_)
  intro hQ
  refine JL.move .none rfl ?_
  refine JL.assign .none rfl ?_
  refine JL.assign .none rfl ?_
  refine JL.done hQ (JQ.go (JC.ret (JQ.ret_then ?_)))
  obtain rfl := Option.some.inj hF
  exact JQ.outS rfl (.tmp (.tmp .nil)) rfl
 ·refine JC.cond_f (b := (y2 != 0)) rfl hc3 ?_
  refine JC.skip (JQ.go (JC.seq (JC.region (by rfl) ?_)))
  intro hQ
  refine JL.loadOwn 0 az_76 rfl rfl rfl .none rfl ?_
  obtain ⟨y4, hy4, hF⟩ := bind_some hF
  refine JL.callH (c_gusts_ends n H d d_v0 hd_0 d_v7 hd_7 d_v8 hd_8 y4 hy4) rfl en_88 .none rfl ?_
  rintro H5 vv6 hs5 ⟨y4a_v1, y4a_v2, y4b_v1, y4b_v2, rfl, hy4a_1, hy4a_2, hy4b_1, hy4b_2⟩
  refine JL.move .none rfl ?_
  refine JL.extract rfl rfl .none rfl ?_
  refine JL.extract rfl rfl .none rfl ?_
  refine JL.alloc ze_156 .none rfl ?_
  intro b7
  refine JL.alloc ze_156 .none rfl ?_
  intro b8
  refine JL.storeOwn 1 (cs := [.int .i64 y4.1.lift, y4a_v1, y4a_v2]) az_156 rfl rfl rfl (one_cons rfl (one_cons (SL.one hy4a_1) (one_cons (SL.one hy4a_2) one_nil))) rfl rfl .none ?_
  refine JL.storeOwn 0 (cs := [.int .i64 y4.2.lift, y4b_v1, y4b_v2]) az_156 rfl rfl rfl (one_cons rfl (one_cons (SL.one hy4b_1) (one_cons (SL.one hy4b_2) one_nil))) rfl rfl .none ?_
  refine JL.done hQ (JQ.go (JC.fresh (fun f => f 1 = class__v0 ∧ f 4 = .int .i64 0 ∧ f 5 = .int .i64 0 ∧ f 7 = .pointer (some ⟨b7, 0, none⟩) ∧ f 8 = .pointer (some ⟨b8, 0, none⟩)) ⟨rfl, rfl, rfl, rfl, rfl⟩ ?_))
  rintro f ⟨hf1, hf4, hf5, hf7, hf8⟩
  refine (JC.norm (i := 1) hf1 (JC.norm (i := 4) hf4 (JC.norm (i := 5) hf5 (JC.norm (i := 7) hf7 (JC.norm (i := 8) hf8 ?_)))))
  refine JC.seq (JC.block (JC.seq (JC.region (by rfl) ?_)))
  intro hQ
  refine JL.loadOwn 0 az_156 rfl rfl rfl .none rfl ?_
  refine JL.move .none rfl ?_
  obtain ⟨y9, hy9, hF⟩ := bind_some hF
  refine JL.callS (c_gusts_blown_stands n H5 y4.2 y4b_v1 hy4b_1 y4b_v2 hy4b_2 class_ class__v0 (SL.mono R_Gust_mono hs5 hclass__0) y9 hy9) rfl en_186 .none rfl ?_
  refine JL.assign .none rfl ?_
  refine JL.done hQ (JQ.go ?_)
  rcases ite_some hF with ⟨hc10, hF⟩ | ⟨hc10, hF⟩
  ·refine JC.cond_t (b := y9) rfl hc10 ?_
   refine JC.seq (JC.region (by rfl) ?_)
   intro hQ
   refine JL.assign .none rfl ?_
   refine JL.assign .none rfl ?_
   refine JL.done hQ (JQ.go (JC.ret (JQ.ret_block (JQ.ret_then ?_))))
   obtain rfl := Option.some.inj hF
   exact JQ.outS rfl (.tmp (.tmp .nil)) rfl
  ·refine JC.cond_f (b := y9) rfl hc10 ?_
   refine JC.seq (JC.region (by rfl) ?_)
   intro hQ
   refine JL.loadOwn 1 az_156 rfl rfl rfl .none rfl ?_
   refine JL.move .none rfl ?_
   obtain ⟨y11, hy11, hF⟩ := bind_some hF
   refine JL.callS (c_gusts_blown_stands n H5 y4.1 y4a_v1 hy4a_1 y4a_v2 hy4a_2 class_ class__v0 (SL.mono R_Gust_mono hs5 hclass__0) y11 hy11) rfl en_186 .none rfl ?_
   refine JL.not rfl .none rfl ?_
   refine JL.assign .none rfl ?_
   refine JL.done hQ (JQ.go (JC.fresh (fun f => f 4 = .int .i64 0 ∧ f 5 = .int .i64 0 ∧ f 24 = .bool (!y11)) ⟨rfl, rfl, rfl⟩ ?_))
   rintro f ⟨hf4, hf5, hf24⟩
   refine (JC.norm (i := 4) hf4 (JC.norm (i := 5) hf5 (JC.norm (i := 24) hf24 ?_)))
   rcases ite_some hF with ⟨hc12, hF⟩ | ⟨hc12, hF⟩
   ·refine JC.cond_t (b := (!y11)) rfl hc12 ?_
    refine JC.seq (JC.region (by rfl) ?_)
    intro hQ
    refine JL.assign .none rfl ?_
    refine JL.assign .none rfl ?_
    refine JL.done hQ (JQ.go (JC.ret (JQ.ret_block (JQ.ret_then ?_))))
    obtain rfl := Option.some.inj hF
    exact JQ.outS rfl (.tmp (.tmp .nil)) rfl
   ·refine JC.cond_f (b := (!y11)) rfl hc12 ?_
    refine JC.skip (JQ.normal_block (JQ.go (JC.seq (JC.region (by rfl) ?_))))
    intro hQ
    refine JL.assign .none rfl ?_
    refine JL.assign .none rfl ?_
    refine JL.done hQ (JQ.go (JC.ret ?_))
    obtain rfl := Option.some.inj hF
    exact JQ.outS rfl (.tmp (.tmp .nil)) rfl
-- 150 ferrule/counts.fells$1
def F_counts_fells_1 (n : Nat) (b : Blow) (force : Int) (m0 : Mp) (c_1 : Canopy) (c_2 : Bool) : Option (Bool × Mp) :=
 (kok 2 [force, b.At]).bind fun _ => (if ((mget m0 [force, b.At]) == 0) = true then ((F_gusts_Stands n c_1 [(Gust.mk force b.At)]).bind fun y43 => (kok 2 [force, b.At]).bind fun _ => some (mput m0 [force, b.At] y43.1)) else (some m0)).bind fun m_35 => (kok 2 [force, b.At]).bind fun _ => (if ((mget m_35 [force, b.At]) == 2) = true then (some true) else ((if (!c_2) = true then ((kok 2 [force, b.At]).bind fun _ => some ((mget m_35 [force, b.At]) == 3)) else (some false) : Option Bool).bind fun p79 => some p79) : Option Bool).bind fun p75 => some (p75, m_35)
theorem c_counts_fells_1 (n : Nat) (H : Hp) (b : Blow) (force : Int) (c_0_b bm : Nat) (c_0_c : Cells H c_0_b 0 [.map (some bm)]) (c_1 : Canopy) (c_1_v0 : Value) (hc_1_0 : SL H 7 R_Section c_1_v0 c_1.Frame.Sections) (c_1_v7 : Value) (hc_1_7 : SL H 2 R_Span c_1_v7 c_1.Ribs) (c_1_v8 : Value) (hc_1_8 : SL H 1 RInt c_1_v8 c_1.Shares) (c_1_b : Nat) (c_1_c : Cells H c_1_b 0 [c_1_v0, .int .i64 c_1.Frame.Low, .int .i64 c_1.Frame.High, .int .i64 c_1.Frame.Ease.Num, .int .i64 c_1.Frame.Ease.Den, .int .i64 c_1.Frame.Rod, .int .i64 c_1.Frame.Case, c_1_v7, c_1_v8]) (c_2 : Bool) (c_2_b : Nat) (c_2_c : Cells H c_2_b 0 [.bool c_2]) (J : Mp → Prop) (hole : H.hole = some (bm, fun o => ∃ es ck m, o = .map es ck ∧ MR 2 ekA m es ck ∧ J m)) (y : Bool) (hF : ∀ m0, J m0 → ∃ m1, J m1 ∧ F_counts_fells_1 n b force m0 c_1 c_2 = some (y, m1)) : SC Try.prog 150 [.agg [.int .i64 b.At, .int .i64 b.Force.Low, .int .i64 b.Force.High].toArray, .int .i64 force, .pointer (some ⟨c_0_b, 0, none⟩), .pointer (some ⟨c_1_b, 0, none⟩), .pointer (some ⟨c_2_b, 0, none⟩)] (.bool y) H := by
 refine SC.ofHole (N := 40) (J := J) Try.func150 rfl rfl rfl hole fun B H es0 ck0 m0 hsub hm0 hJ => ?_
 obtain ⟨m1_, hJ1, hF⟩ := hF m0 hJ
 refine ⟨m1_, hJ1, ?_⟩
 clear hole
 replace hc_1_0 := SL.fsub R_Section_fz hsub hc_1_0
 replace hc_1_7 := SL.fsub R_Span_fz hsub hc_1_7
 replace hc_1_8 := SL.fsub RInt.fz hsub hc_1_8
 replace c_0_c := Cells.fsub hsub c_0_c
 replace c_1_c := Cells.fsub hsub c_1_c
 replace c_2_c := Cells.fsub hsub c_2_c
 rw [F_counts_fells_1] at hF
 refine JC.seq (JC.region (by rfl) ?_)
 intro hQ
 refine JL.box (cs := [.int .i64 b.At, .int .i64 b.Force.Low, .int .i64 b.Force.High]) rfl .none rfl ?_
 intro b1
 refine JL.assign .none rfl ?_
 refine JL.done hQ (JQ.go (JC.seq (JC.region (by rfl) ?_)))
 intro hQ
 refine JL.move .none rfl ?_
 refine JL.fieldAddr fo_98_0 rfl .none rfl ?_
 refine JL.loadOwn 0 az_3 rfl rfl rfl .none rfl ?_
 refine JL.build (l := [.int .i64 force, .int .i64 b.At]) (by kernel_rfl) .none rfl ?_
 refine JL.alloc ze_86 .none rfl ?_
 intro b2
 refine JL.storeOwn 0 (cs := [.int .i64 force, .int .i64 b.At]) az_86 rfl rfl rfl (one_cons rfl (one_cons rfl one_nil)) rfl rfl .none ?_
 refine JL.done hQ (JQ.go (JC.seq (JC.seq (JC.region (by rfl) ?_))))
 intro hQ
 refine JL.loadH 0 az_214 rfl c_0_c rfl .none rfl ?_
 refine JL.loadOwn 0 az_86 rfl rfl rfl .none rfl ?_
 obtain ⟨u3, hu3, hF⟩ := bind_some hF
 refine JL.lookupM (k := [force, b.At]) mp_214 kt_86 rfl (.own 2 rfl) hm0 rfl hu3 .none rfl ?_
 refine JL.bin rfl rfl rfl .none rfl ?_
 refine JL.done hQ (JQ.go (JC.fresh (fun f => f 2 = .pointer (some ⟨c_0_b, 0, none⟩) ∧ f 3 = .pointer (some ⟨c_1_b, 0, none⟩) ∧ f 4 = .pointer (some ⟨c_2_b, 0, none⟩) ∧ f 7 = .bool false ∧ f 8 = .pointer (some ⟨b2, 0, none⟩) ∧ f 16 = .bool ((mget m0 [force, b.At]) == 0)) ⟨rfl, rfl, rfl, rfl, rfl, rfl⟩ ?_))
 rintro f ⟨hf2, hf3, hf4, hf7, hf8, hf16⟩
 refine (JC.norm (i := 2) hf2 (JC.norm (i := 3) hf3 (JC.norm (i := 4) hf4 (JC.norm (i := 7) hf7 (JC.norm (i := 8) hf8 (JC.norm (i := 16) hf16 ?_))))))
 obtain ⟨r37, hlr37, hKr37⟩ := bind_some hF
 refine JC.join (fun (m_35 : Mp) H36 f bs gs => ∃ (em_35 : Array MapEntry) (cm_35 : Nat), f 2 = .pointer (some ⟨c_0_b, 0, none⟩) ∧ f 4 = .pointer (some ⟨c_2_b, 0, none⟩) ∧ f 8 = .pointer (some ⟨b2, 0, none⟩) ∧ bs = [(b2, .cells [.int .i64 force, .int .i64 b.At].toArray 86), (bm, .map em_35 cm_35)] ∧ gs = [] ∧ MR 2 ekA m_35 em_35 cm_35 ∧ HSub H H36 ∧ m_35 = r37) ?_ ?_
 ·have hF := hlr37
  rcases ite_some hF with ⟨hc38, hF⟩ | ⟨hc38, hF⟩
  ·refine JC.cond_t (b := ((mget m0 [force, b.At]) == 0)) rfl hc38 ?_
   obtain ⟨y43, hy43, hF⟩ := bind_some hF
   obtain ⟨u44, hu44, hF⟩ := bind_some hF
   refine JC.mixed 10 10 #[false, false, false, false, false, false, false, false, false, false] [(b2, .cells [.int .i64 force, .int .i64 b.At].toArray 86), (b1, .cells [.int .i64 b.At, .int .i64 b.Force.Low, .int .i64 b.Force.High].toArray 98)] (by rfl) mo_ (by kernel_rfl) (by kernel_rfl) ?_
   intro hQ hE
   refine JA.take 0 (listed' := #[true, false, false, false, false, false, false, false, false, false]) hQ rfl (by kernel_rfl) (by kernel_rfl) (by kernel_rfl) (by kernel_rfl) (by kernel_rfl) hE (HSub.refl _) (.cons_cons _ (.cons_cons _ (.cons _ (List.nil_sublist _)))) ?_
   refine JL.loadH 0 az_214 rfl c_0_c rfl .none rfl ?_
   refine JA.cont ?_
   refine JA.take 1 (listed' := #[true, true, false, false, false, false, false, false, false, false]) hQ rfl (by kernel_rfl) (by kernel_rfl) (by kernel_rfl) (by kernel_rfl) (by kernel_rfl) hE (HSub.refl _) (.cons_cons _ (.cons_cons _ (.cons _ (List.nil_sublist _)))) ?_
   refine JL.loadOwn 0 az_86 rfl rfl rfl .none rfl ?_
   refine JA.cont ?_
   refine JA.take 2 (listed' := #[true, true, true, false, false, false, false, false, false, false]) hQ rfl (by kernel_rfl) (by kernel_rfl) (by kernel_rfl) (by kernel_rfl) (by kernel_rfl) hE (HSub.refl _) (.cons_cons _ (.cons_cons _ (.cons _ (List.nil_sublist _)))) ?_
   refine JL.loadH 0 az_76 rfl c_1_c rfl .none rfl ?_
   refine JA.cont ?_
   refine JA.take 3 (listed' := #[true, true, true, true, false, false, false, false, false, false]) hQ rfl (by kernel_rfl) (by kernel_rfl) (by kernel_rfl) (by kernel_rfl) (by kernel_rfl) hE (HSub.refl _) (.cons_cons _ (.cons_cons _ (.cons _ (List.nil_sublist _)))) ?_
   refine JL.loadOwn 0 az_86 rfl rfl rfl .none rfl ?_
   refine JA.cont ?_
   refine JA.many [4] (by kernel_rfl) (by simp) (all_one ⟨_, #[true, true, true, true, true, false, false, false, false, false], rfl, (by kernel_rfl), ?_⟩)
   refine JL.buildSlice (e := 86) (l := [.int .i64 force, .int .i64 b.At]) (by kernel_rfl) .none rfl ?_
   intro b62
   refine JA.after hE (HSub.refl _) (.cons _ (.cons_cons _ (.cons_cons _ (.cons _ (List.nil_sublist _))))) ?_
   refine JA.many [5] (by kernel_rfl) (by simp) (all_one ⟨_, #[true, true, true, true, true, true, false, false, false, false], rfl, (by kernel_rfl), ?_⟩)
   refine JL.freezeC 0 (l := [.int .i64 force, .int .i64 b.At]) rfl ?_
   intro H63 hs63 hc64
   have hg65 : SL H63 2 R_Gust (.slice (some ⟨b62, 0, none⟩) 1 1) [(Gust.mk force b.At)] := CH.sl (l := [(Gust.mk force b.At)]) (CH.cons (cs := [.int .i64 force, .int .i64 b.At]) rfl rfl CH.nil) hc64 ⟨by simp, by simp⟩
   refine JL.callS (c_gusts_Stands n H63 c_1 c_1_v0 (SL.mono R_Section_mono hs63 hc_1_0) c_1_v7 (SL.mono R_Span_mono hs63 hc_1_7) c_1_v8 (SL.mono RInt.mono hs63 hc_1_8) [(Gust.mk force b.At)] (.slice (some ⟨b62, 0, none⟩) 1 1) hg65 y43 hy43) rfl en_151 .none rfl ?_
   refine JA.after hE hs63 (.cons_cons _ (.cons_cons _ (.cons _ (List.nil_sublist _)))) ?_
   refine JA.take 6 (listed' := #[true, true, true, true, true, true, true, false, false, false]) hQ rfl (by kernel_rfl) (by kernel_rfl) (by kernel_rfl) (by kernel_rfl) (by kernel_rfl) hE hs63 (.cons_cons _ (.cons_cons _ (.cons _ (List.nil_sublist _)))) ?_
   refine JL.move .none rfl ?_
   refine JA.cont ?_
   refine JA.take 7 (listed' := #[true, true, true, true, true, true, true, true, false, false]) hQ rfl (by kernel_rfl) (by kernel_rfl) (by kernel_rfl) (by kernel_rfl) (by kernel_rfl) hE hs63 (.cons_cons _ (.cons_cons _ (.cons _ (List.nil_sublist _)))) ?_
   refine JL.extract rfl rfl .none rfl ?_
   refine JA.cont ?_
   refine JA.take 8 (listed' := #[true, true, true, true, true, true, true, true, true, false]) hQ rfl (by kernel_rfl) (by kernel_rfl) (by kernel_rfl) (by kernel_rfl) (by kernel_rfl) hE hs63 (.cons_cons _ (.cons_cons _ (.cons _ (List.nil_sublist _)))) ?_
   refine JL.extract rfl rfl .none rfl ?_
   refine JA.cont ?_
   refine JA.many [9] (by kernel_rfl) (by simp) (all_one ⟨_, #[true, true, true, true, true, true, true, true, true, true], rfl, (by kernel_rfl), ?_⟩)
   refine JL.updateM (k := [force, b.At]) 2 mp_214 kt_86 rfl rfl hm0 rfl hu44 rfl .none rfl ?_
   intro es66 ck67 hm68
   refine JA.after hE hs63 (.cons_cons _ (.cons_cons _ (.cons _ (List.nil_sublist _)))) ?_
   refine JA.done hQ (by kernel_rfl) ?_
   obtain rfl := Option.some.inj hF
   refine JQ.mask [true, false, true] [] ?_
   exact JQ.join (mput m0 [force, b.At] y43.1) ⟨es66, ck67, rfl, rfl, rfl, rfl, rfl, hm68, hs63, rfl⟩
  ·refine JC.cond_f (b := ((mget m0 [force, b.At]) == 0)) rfl hc38 ?_
   refine JC.skip ?_
   obtain rfl := Option.some.inj hF
   refine JQ.mask [true, false, true] [] ?_
   exact JQ.join m0 ⟨es0, ck0, rfl, rfl, rfl, rfl, rfl, hm0, (HSub.refl _), rfl⟩
 ·rintro m_35 H36 f bs gs ⟨em_35, cm_35, hf2, hf4, hf8, rfl, rfl, hm_35, hs36, rfl⟩
  have hF := hKr37
  try dsimp only at hF
  refine (JQ.norm (i := 2) hf2 (JQ.norm (i := 4) hf4 (JQ.norm (i := 8) hf8 ?_)))
  refine JQ.go (JC.seq (JC.region (by rfl) ?_))
  intro hQ
  refine JL.loadH 0 az_214 rfl (Cells.mono hs36 c_0_c) rfl .none rfl ?_
  refine JL.loadOwn 0 az_86 rfl rfl rfl .none rfl ?_
  obtain ⟨u69, hu69, hF⟩ := bind_some hF
  refine JL.lookupM (k := [force, b.At]) mp_214 kt_86 rfl (.own 1 rfl) hm_35 rfl hu69 .none rfl ?_
  refine JL.bin rfl rfl rfl .none rfl ?_
  refine JL.move .none rfl ?_
  obtain ⟨p75, hp75, hF⟩ := bind_some hF
  refine JL.cut 9 (fun f => f 39 = .bool p75) ?_ ?_
  ·intro hJ76
   rcases ite_some hp75 with ⟨hc77, hF⟩ | ⟨hc77, hF⟩
   ·skip
    refine JL.skip (.bool rfl rfl rfl hc77) rfl ?_
    refine JL.skip (.bool rfl rfl rfl hc77) rfl ?_
    refine JL.skip (.bool rfl rfl rfl hc77) rfl ?_
    refine JL.skip (.no rfl rfl rfl) rfl ?_
    refine JL.skip (.no rfl rfl rfl) rfl ?_
    refine JL.skip (.no rfl rfl rfl) rfl ?_
    refine JL.skip (.no rfl rfl rfl) rfl ?_
    refine JL.skip (.bool rfl rfl rfl hc77) rfl ?_
    refine JL.pick_t (b := ((mget m_35 [force, b.At]) == 2)) rfl hc77 .none rfl ?_
    obtain rfl := Option.some.inj hF
    exact hJ76 _ (rfl)
   ·skip
    refine JL.loadH 0 az_4 rfl (Cells.mono hs36 c_2_c) rfl (.some rfl rfl rfl hc77) rfl ?_
    refine JL.not rfl (.some rfl rfl rfl hc77) rfl ?_
    refine JL.move (.some rfl rfl rfl hc77) rfl ?_
    obtain ⟨p79, hp79, hF⟩ := bind_some hF
    refine JL.cut 5 (fun f => f 30 = .bool ((mget m_35 [force, b.At]) == 2) ∧ f 38 = .bool p79) ?_ ?_
    ·intro hJ80
     rcases ite_some hp79 with ⟨hc81, hF⟩ | ⟨hc81, hF⟩
     ·skip
      refine JL.loadH 0 az_214 rfl (Cells.mono hs36 c_0_c) rfl (.some rfl rfl rfl hc81) rfl ?_
      refine JL.loadOwn 0 az_86 rfl rfl rfl (.some rfl rfl rfl hc81) rfl ?_
      obtain ⟨u82, hu82, hF⟩ := bind_some hF
      refine JL.lookupM (k := [force, b.At]) mp_214 kt_86 rfl (.own 1 rfl) hm_35 rfl hu82 (.some rfl rfl rfl hc81) rfl ?_
      refine JL.bin rfl rfl rfl (.some rfl rfl rfl hc81) rfl ?_
      refine JL.pick_t (b := (!c_2)) rfl hc81 (.some rfl rfl rfl hc77) rfl ?_
      obtain rfl := Option.some.inj hF
      exact hJ80 _ ⟨rfl, rfl⟩
     ·skip
      refine JL.skip (.bool rfl rfl rfl hc81) rfl ?_
      refine JL.skip (.bool rfl rfl rfl hc81) rfl ?_
      refine JL.skip (.bool rfl rfl rfl hc81) rfl ?_
      refine JL.skip (.bool rfl rfl rfl hc81) rfl ?_
      refine JL.pick_f (b := (!c_2)) rfl hc81 (.some rfl rfl rfl hc77) rfl ?_
      obtain rfl := Option.some.inj hF
      exact hJ80 _ ⟨rfl, rfl⟩
    ·rintro f ⟨hf30, hf38⟩
     refine (JL.norm (i := 30) hf30 (JL.norm (i := 38) hf38 ?_))
     refine JL.pick_f (b := ((mget m_35 [force, b.At]) == 2)) rfl hc77 .none rfl ?_
     obtain rfl := Option.some.inj hF
     exact hJ76 _ (rfl)
  ·rintro f hf39
   refine (JL.norm (i := 39) hf39 ?_)
   refine JL.assign .none rfl ?_
   refine JL.done hQ (JQ.go (JC.ret ?_))
   obtain ⟨rfl, rfl⟩ := Prod.mk.inj (Option.some.inj hF)
   exact JQ.outK 1 rfl (.tmp .nil) rfl hs36 rfl hm_35
-- 99 ferrule/counts.fells
theorem c_counts_fells (n : Nat) (H : Hp) (d : Canopy) (d_v0 : Value) (hd_0 : SL H 7 R_Section d_v0 d.Frame.Sections) (d_v7 : Value) (hd_7 : SL H 2 R_Span d_v7 d.Ribs) (d_v8 : Value) (hd_8 : SL H 1 RInt d_v8 d.Shares) (surely : Bool) : XB Try.prog 99 [.agg [d_v0, .int .i64 d.Frame.Low, .int .i64 d.Frame.High, .int .i64 d.Frame.Ease.Num, .int .i64 d.Frame.Ease.Den, .int .i64 d.Frame.Rod, .int .i64 d.Frame.Case, d_v7, d_v8].toArray, .bool surely] H (fun H' v bs' => ∃ bm b1 b2 b3, v = .func (.func 150) #[] [.pointer (some ⟨b1, 0, none⟩), .pointer (some ⟨b2, 0, none⟩), .pointer (some ⟨b3, 0, none⟩)].toArray ∧ bs' = [(bm, .map #[] 0)] ∧ Cells H' b1 0 [.map (some bm)] ∧ Cells H' b2 0 [d_v0, .int .i64 d.Frame.Low, .int .i64 d.Frame.High, .int .i64 d.Frame.Ease.Num, .int .i64 d.Frame.Ease.Den, .int .i64 d.Frame.Rod, .int .i64 d.Frame.Case, d_v7, d_v8] ∧ Cells H' b3 0 [.bool surely]) := by
 refine XB.of (N := 8) Try.func99 rfl rfl rfl fun w => ?_
 refine JC.seq (JC.region (by rfl) ?_)
 intro hQ
 refine JL.box (cs := [d_v0, .int .i64 d.Frame.Low, .int .i64 d.Frame.High, .int .i64 d.Frame.Ease.Num, .int .i64 d.Frame.Ease.Den, .int .i64 d.Frame.Rod, .int .i64 d.Frame.Case, d_v7, d_v8]) rfl .none rfl ?_
 intro b2
 refine JL.box (cs := [.bool surely]) rfl .none rfl ?_
 intro b3
 refine JL.assign .none rfl ?_
 refine JL.done hQ (JQ.go (JC.seq (JC.region (by rfl) ?_)))
 intro hQ
 refine JL.makeMap .none rfl ?_
 intro bm
 refine JL.alloc ze_214 .none rfl ?_
 intro b1
 refine JL.storeOwn 0 (cs := [.map (some bm)]) az_214 rfl rfl rfl (one_cons rfl one_nil) rfl rfl .none ?_
 refine JL.done hQ (JQ.go (JC.seq (JC.region (by rfl) ?_)))
 intro hQ
 refine JL.makeFunc .none rfl ?_
 refine JL.assign .none rfl ?_
 refine JL.done hQ (JQ.go (JC.ret (JQ.freezeC 0 (l := [.map (some bm)]) rfl ?_)))
 intro H1 hs1 hc1
 refine JQ.freezeC 1 (l := [.bool surely]) rfl ?_
 intro H2 hs2 hc2
 refine JQ.freezeC 1 (l := [d_v0, .int .i64 d.Frame.Low, .int .i64 d.Frame.High, .int .i64 d.Frame.Ease.Num, .int .i64 d.Frame.Ease.Den, .int .i64 d.Frame.Rod, .int .i64 d.Frame.Case, d_v7, d_v8]) rfl ?_
 intro H3 hs3 hc3
 exact JQ.outB rfl (.tmp .nil) ⟨bm, b1, b2, b3, rfl, rfl, Cells.mono hs3 (Cells.mono hs2 hc1), hc3, Cells.mono hs3 hc2⟩
-- 98 ferrule/counts.bounds
noncomputable def F_counts_bounds_s1 (n : Nat)  : (Int × Int) → List Int × Int → Option (Int × Int)
 | (z_121, z_122), (kl130, v131) => (geti kl130 5).bind fun y144 => (geti kl130 5).bind fun y145 => some ((min z_121 y144), (max z_122 y145))
noncomputable def F_counts_bounds (n : Nat) (r : Run) (is : Bool) (asked : Blow → Int → Option Bool) : Option (Span × Int) :=
 (F_counts_open n r is asked).bind fun y3 => if (y3.2.2 != 0) = true then (some ((Span.mk 0 0), y3.2.2)) else ((neM y3.2.1).bind fun _ => ((permO (F_counts_bounds_s1 n) ((r.Blows.length : Int), 0) y3.2.1).bind fun z146 => match z146 with | (z_121, z_122) => some (z_121, z_122)).bind fun r84 => match r84 with | (z_81, z_82) => some ((Span.mk z_81 z_82), 0))
theorem c_counts_bounds (n : Nat) (H : Hp) (r : Run) (r_v0 : Value) (hr_0 : SL H 7 R_Section r_v0 r.Canopy.Frame.Sections) (r_v7 : Value) (hr_7 : SL H 2 R_Span r_v7 r.Canopy.Ribs) (r_v8 : Value) (hr_8 : SL H 1 RInt r_v8 r.Canopy.Shares) (r_v9 : Value) (hr_9 : SL H 3 R_Blow r_v9 r.Blows) (r_v10 : Value) (hr_10 : SL H 2 R_Meter r_v10 r.Meters) (is : Bool) (asked : Blow → Int → Option Bool) (asked_k : Nat) (asked_c : List Value) (asked_e : Ent Try.prog asked_k) (asked_h : ∀ H', HSub H H' → ∀ (a0_ : Blow) (a1_ : Int) (y : Bool), asked a0_ a1_ = some y → SC Try.prog asked_k ([.agg [.int .i64 a0_.At, .int .i64 a0_.Force.Low, .int .i64 a0_.Force.High].toArray, .int .i64 a1_] ++ asked_c) (.bool y) H') (y : Span × Int) (hF : F_counts_bounds n r is asked = some y) : SC Try.prog 98 [.agg [r_v0, .int .i64 r.Canopy.Frame.Low, .int .i64 r.Canopy.Frame.High, .int .i64 r.Canopy.Frame.Ease.Num, .int .i64 r.Canopy.Frame.Ease.Den, .int .i64 r.Canopy.Frame.Rod, .int .i64 r.Canopy.Frame.Case, r_v7, r_v8, r_v9, r_v10, .int .i64 r.Wrong].toArray, .bool is, .func (.func asked_k) #[] asked_c.toArray] (.tuple [.agg [.int .i64 y.1.Low, .int .i64 y.1.High].toArray, .int .i64 y.2].toArray) H := by
 rw [F_counts_bounds] at hF
 refine SC.of (N := 47) Try.func98 rfl rfl rfl fun w => ?_
 refine JC.seq (JC.region (by rfl) ?_)
 intro hQ
 refine JL.box (cs := [r_v0, .int .i64 r.Canopy.Frame.Low, .int .i64 r.Canopy.Frame.High, .int .i64 r.Canopy.Frame.Ease.Num, .int .i64 r.Canopy.Frame.Ease.Den, .int .i64 r.Canopy.Frame.Rod, .int .i64 r.Canopy.Frame.Case, r_v7, r_v8, r_v9, r_v10, .int .i64 r.Wrong]) rfl .none rfl ?_
 intro b1
 refine JL.alloc ze_39 .none rfl ?_
 intro b2
 refine JL.assign .none rfl ?_
 refine JL.done hQ (JQ.go (JC.seq (JC.region (by rfl) ?_)))
 intro hQ
 refine JL.loadOwn 1 az_90 rfl rfl rfl .none rfl ?_
 refine JL.move .none rfl ?_
 refine JL.move .none rfl ?_
 obtain ⟨y3, hy3, hF⟩ := bind_some hF
 refine JL.callH (c_counts_open n H r r_v0 hr_0 r_v7 hr_7 r_v8 hr_8 r_v9 hr_9 r_v10 hr_10 is asked asked_k asked_c asked_e (fun H' hs' => asked_h H' hs') y3 hy3) rfl en_148 .none rfl ?_
 rintro H4 vv5 hs4 ⟨y3a_v0, y3b_v0, rfl, hy3a_0, hy3b_0⟩
 refine JL.move .none rfl ?_
 refine JL.extract rfl rfl .none rfl ?_
 refine JL.extract rfl rfl .none rfl ?_
 refine JL.extract rfl rfl .none rfl ?_
 refine JL.assign .none rfl ?_
 refine JL.assign .none rfl ?_
 refine JL.assign .none rfl ?_
 refine JL.done hQ (JQ.go (JC.fresh (fun f => f 3 = .pointer (some ⟨b1, 0, none⟩) ∧ f 6 = .pointer (some ⟨b2, 0, none⟩) ∧ f 7 = .int .i64 0 ∧ f 9 = y3b_v0 ∧ f 10 = .int .i64 y3.2.2) ⟨rfl, rfl, rfl, rfl, rfl⟩ ?_))
 rintro f ⟨hf3, hf6, hf7, hf9, hf10⟩
 refine (JC.norm (i := 3) hf3 (JC.norm (i := 6) hf6 (JC.norm (i := 7) hf7 (JC.norm (i := 9) hf9 (JC.norm (i := 10) hf10 ?_)))))
 refine JC.seq (JC.seq (JC.region (by rfl) ?_))
 intro hQ
 refine JL.move .none rfl ?_
 refine JL.bin rfl rfl rfl .none rfl ?_
 refine JL.done hQ (JQ.go ?_)
 rcases ite_some hF with ⟨hc6, hF⟩ | ⟨hc6, hF⟩
 ·refine JC.cond_t (b := (y3.2.2 != 0)) rfl hc6 ?_
  refine JC.seq (JC.region (by rfl) ?_)
  intro hQ
  refine JL.build (l := [.int .i64 0, .int .i64 0]) (by kernel_rfl) .none rfl ?_
  refine JL.move .none rfl ?_
  refine JL.storeOwn 0 (cs := [.int .i64 0, .int .i64 0]) az_39 rfl rfl rfl (one_cons rfl (one_cons rfl one_nil)) rfl rfl .none ?_
  refine JL.assign .none rfl ?_
  refine JL.done hQ (JQ.go (JC.ret (JQ.ret_then ?_)))
  obtain rfl := Option.some.inj hF
  exact JQ.outS rfl (.cell 0 az_39 rfl rfl rfl (.tmp .nil)) rfl
 ·refine JC.cond_f (b := (y3.2.2 != 0)) rfl hc6 ?_
  refine JC.skip (JQ.go (JC.seq (JC.region (by rfl) ?_)))
  intro hQ
  refine JL.fieldAddr fo_90_1 rfl .none rfl ?_
  refine JL.loadOwn 1 az_87 rfl rfl rfl .none rfl ?_
  refine JL.lenSL (R := R_Blow) ul_87 (SL.mono R_Blow_mono hs4 hr_9) .none rfl ?_
  refine JL.build (l := [.int .i64 (r.Blows.length : Int), .int .i64 0]) (by kernel_rfl) .none rfl ?_
  refine JL.alloc ze_39 .none rfl ?_
  intro b7
  refine JL.storeOwn 0 (cs := [.int .i64 (r.Blows.length : Int), .int .i64 0]) az_39 rfl rfl rfl (one_cons rfl (one_cons rfl one_nil)) rfl rfl .none ?_
  refine JL.done hQ (JQ.go (JC.seq (JC.seq (JC.region (by rfl) ?_))))
  intro hQ
  refine JL.move .none rfl ?_
  obtain ⟨u13, hu13, hF⟩ := bind_some hF
  obtain ⟨mb14, es15, ck16, hv17, hH18, hm19⟩ := MD.get hy3b_0 (neM_some hu13)
  refine JL.rangeM mp_209 hv17 (.data hH18) hm19 .none rfl ?_
  intro r8 sn9 seen10 cz11 hI12
  refine JL.done hQ (JQ.go (JC.fresh (fun f => f 6 = .pointer (some ⟨b2, 0, none⟩) ∧ f 7 = .int .i64 0 ∧ f 11 = .pointer (some ⟨b7, 0, none⟩) ∧ f 30 = .pointer (some ⟨r8, 0, none⟩)) ⟨rfl, rfl, rfl, rfl⟩ ?_))
  rintro f ⟨hf6, hf7, hf11, hf30⟩
  refine (JC.norm (i := 6) hf6 (JC.norm (i := 7) hf7 (JC.norm (i := 11) hf11 (JC.norm (i := 30) hf30 ?_))))
  obtain ⟨r84, hlr84, hKr84⟩ := bind_some hF
  refine JC.join (fun (x : Int × Int) H83 f bs gs => match x with | (z_81, z_82) => f 6 = .pointer (some ⟨b2, 0, none⟩) ∧ f 11 = .pointer (some ⟨b7, 0, none⟩) ∧ bs = [(b7, .cells [.int .i64 z_81, .int .i64 z_82].toArray 39), (b2, .cells [.int .i64 0, .int .i64 0].toArray 39)] ∧ gs = [] ∧ HSub H4 H83 ∧ (z_81, z_82) = r84) ?_ ?_
  ·skip
   obtain ⟨rs124, hper125, hl126⟩ := bind_some hlr84
   refine JC.block (JC.mask [true, true, true, false] [] ?_)
   refine JC.mapLoop (srt_nodup hI12.srt) hper125 (fun (dd : Mp) (x : Int × Int) H123 f bs gs => match x with | (z_121, z_122) => ∃ (sn_r8 : Nat) (se_r8 : Array Nat) (cz_r8 : Nat), f 6 = .pointer (some ⟨b2, 0, none⟩) ∧ f 11 = .pointer (some ⟨b7, 0, none⟩) ∧ f 30 = .pointer (some ⟨r8, 0, none⟩) ∧ bs = [(r8, .mapIter (some mb14) sn_r8 se_r8 cz_r8), (b7, .cells [.int .i64 z_121, .int .i64 z_122].toArray 39), (b2, .cells [.int .i64 0, .int .i64 0].toArray 39)] ∧ gs = [] ∧ IR 6 ekA y3.2.1 y3.2.1 es15 ck16 sn_r8 se_r8 cz_r8 dd ∧ HSub H4 H123) ⟨sn9, seen10, cz11, rfl, rfl, rfl, rfl, rfl, hI12, (HSub.refl _)⟩ ?_
   rintro dd ⟨z_121, z_122⟩ H123 f bs gs ⟨sn_r8, se_r8, cz_r8, hf6, hf11, hf30, rfl, rfl, hI_r8, hs123⟩ hend127 hgo128
   refine (JC.norm (i := 6) hf6 (JC.norm (i := 11) hf11 (JC.norm (i := 30) hf30 ?_)))
   refine JC.seq (JC.region (by rfl) ?_)
   intro hQ
   refine JL.nextM 0 kt_213 rfl rfl (.data (hs123.le _ _ hH18)) hm19 hI_r8 .none rfl ?_ ?_
   ·intro hp129
    refine JL.extract rfl rfl .none rfl ?_
    refine JL.done hQ (JQ.go (JC.seq (JC.cond_f (b := false) rfl rfl ?_)))
    refine JC.exit (JQ.exit_then (JQ.exit_then (JQ.exit_block ?_)))
    have er141 := hend127 hp129
    subst er141
    obtain rfl := Option.some.inj hl126
    refine JQ.mask [false, true, true] [] ?_
    exact JQ.join (z_121, z_122) ⟨rfl, rfl, rfl, rfl, hs123, rfl⟩
   ·rintro ⟨kl130, v131⟩ seen132 cz133 hx134 hxm135 hxn136 hI137 hE138
    have kok142 := (hm19.okk _ hxm135)
    dsimp only at kok142
    obtain ⟨sp140, hst139⟩ := hgo128 (kl130, v131) hx134 hxn136
    have hF := hst139
    rw [F_counts_bounds_s1] at hF
    refine JL.extract rfl rfl .none rfl ?_
    refine JL.done hQ (JQ.go (JC.seq (JC.cond_t (b := true) rfl rfl ?_)))
    refine JC.skip (JQ.go (JC.block (JC.seq (JC.region (by rfl) ?_))))
    intro hQ
    refine JL.entryIt (y := (kl130, v131)) 0 rfl rfl (.data (hs123.le _ _ hH18)) hm19 hE138 .none rfl ?_
    refine JL.extract rfl rfl .none rfl ?_
    refine JL.alloc ze_213 .none rfl ?_
    intro b143
    refine JL.storeArr (l := [0, 0, 0, 0, 0, 0]) (l' := kl130) 0 az_213 rfl rfl rfl rfl kok142.1 .none ?_
    refine JL.done hQ (JQ.go (JC.region (by rfl) ?_))
    intro hQ
    refine JL.fieldAddr fo_39_0 rfl .none rfl ?_
    refine JL.loadOwn 2 az_3 rfl rfl rfl .none rfl ?_
    obtain ⟨y144, hy144, hF⟩ := bind_some hF
    refine JL.indexArrP (l := kl130) ar_213 az_3 rfl rfl kok142.1 hy144 .none rfl ?_
    refine JL.loadEl (j := 5) 0 az_3 rfl rfl hy144 .none rfl ?_
    refine JL.min rfl rfl .none rfl ?_
    refine JL.fieldAddr fo_39_1 rfl .none rfl ?_
    refine JL.loadOwn 2 az_3 rfl rfl rfl .none rfl ?_
    obtain ⟨y145, hy145, hF⟩ := bind_some hF
    refine JL.indexArrP (l := kl130) ar_213 az_3 rfl rfl kok142.1 hy145 .none rfl ?_
    refine JL.loadEl (j := 5) 0 az_3 rfl rfl hy145 .none rfl ?_
    refine JL.max rfl rfl .none rfl ?_
    refine JL.build (l := [.int .i64 (min z_121 y144), .int .i64 (max z_122 y145)]) (by kernel_rfl) .none rfl ?_
    refine JL.storeOwn 2 (cs := [.int .i64 (min z_121 y144), .int .i64 (max z_122 y145)]) az_39 rfl rfl rfl (one_cons rfl (one_cons rfl one_nil)) rfl rfl .none ?_
    refine JL.done hQ (JQ.normal_block ?_)
    obtain rfl := Option.some.inj hF
    refine JQ.mask [false, true, true, true] [] ?_
    exact JQ.mnext hx134 hxn136 hst139 ⟨sn_r8, seen132, cz133, rfl, rfl, rfl, rfl, rfl, hI137, hs123⟩
  ·rintro ⟨z_81, z_82⟩ H83 f bs gs ⟨hf6, hf11, rfl, rfl, hs83, rfl⟩
   have hF := hKr84
   try dsimp only at hF
   refine (JQ.norm (i := 6) hf6 (JQ.norm (i := 11) hf11 ?_))
   refine JQ.go (JC.seq (JC.region (by rfl) ?_))
   intro hQ
   refine JL.loadOwn 0 az_39 rfl rfl rfl .none rfl ?_
   refine JL.storeOwn 1 (cs := [.int .i64 z_81, .int .i64 z_82]) az_39 rfl rfl rfl (one_cons rfl (one_cons rfl one_nil)) rfl rfl .none ?_
   refine JL.assign .none rfl ?_
   refine JL.done hQ (JQ.go (JC.ret ?_))
   obtain rfl := Option.some.inj hF
   exact JQ.outS rfl (.cell 1 az_39 rfl rfl rfl (.tmp .nil)) rfl
end Go.Proofs.Yteihdclpiekmaaa
end
section
set_option maxRecDepth 100000
set_option maxHeartbeats 40000000
namespace Go.Proofs.Yteihdclpiekmaaa
open Go Go.RowKit Go.Dec
set_option linter.unusedVariables false
-- 44 ferrule/counts.Harm
/-- what the function that remembers answers -/
noncomputable def F_asked (n : Nat) (d : Canopy) (surely : Bool) (b : Blow) (force : Int) : Option Bool :=
 (kok 2 [force, b.At]).bind fun _ => (F_gusts_Stands n d [Gust.mk force b.At]).bind fun y => some ((y.1 == 2) || (!surely && (y.1 == 3)))
/-- what is remembered -/
def Cached (n : Nat) (d : Canopy) (m : Mp) : Prop := Srt m ∧ ∀ p ∈ m, ∃ f a e, p.1 = [f, a] ∧ F_gusts_Stands n d [Gust.mk f a] = some (p.2, e)
theorem cached_nil {n : Nat} {d : Canopy} : Cached n d [] := ⟨List.Pairwise.nil, by simp⟩
theorem asked_ok {n : Nat} {d : Canopy} {surely : Bool} {b : Blow} {force : Int} {y : Bool} (h : F_asked n d surely b force = some y) {m0 : Mp} (hJ : Cached n d m0) : ∃ m1, Cached n d m1 ∧ F_counts_fells_1 n b force m0 d surely = some (y, m1) := by
 unfold F_asked at h
 obtain ⟨u, hu, h⟩ := bind_some h
 obtain ⟨z, hz, h⟩ := bind_some h
 cases Option.some.inj h
 obtain ⟨hs, hm⟩ := hJ
 have tail : ∀ m : Mp, mget m [force, b.At] = z.1 → ((kok 2 [force, b.At]).bind fun _ => (if ((mget m [force, b.At]) == 2) = true then (some true) else ((if (!surely) = true then ((kok 2 [force, b.At]).bind fun _ => some ((mget m [force, b.At]) == 3)) else (some false) : Option Bool).bind fun p79 => some p79) : Option Bool).bind fun p75 => some (p75, m)) = some ((z.1 == 2) || (!surely && (z.1 == 3)), m) := fun m e => by
  rw [hu, e]
  cases surely <;> cases h2 : (z.1 == 2) <;> simp
 unfold F_counts_fells_1
 rw [hu]
 simp only [Option.bind_some]
 by_cases h0 : (mget m0 [force, b.At] == 0) = true
 ·refine ⟨mput m0 [force, b.At] z.1, ⟨srt_mput hs, fun p hp => ?_⟩, ?_⟩
  ·rcases (mem_mput hs).1 hp with rfl | ⟨hp, _⟩
   ·exact ⟨force, b.At, z.2, rfl, hz⟩
   ·exact hm p hp
  ·rw [if_pos h0, hz]
   simp only [Option.bind_some]
   have := tail (mput m0 [force, b.At] z.1) (mget_mput hs)
   rw [hu] at this
   simpa only [Option.bind_some] using this
 ·have hne : mget m0 [force, b.At] ≠ 0 := by simpa using h0
  have hv : mget m0 [force, b.At] = z.1 := by
   unfold mget at hne ⊢
   cases hf : m0.find? (fun p => p.1 == [force, b.At]) with
   | none => rw [hf] at hne; exact absurd rfl hne
   | some p =>
    obtain ⟨f, a, e, h1, h2⟩ := hm p (List.mem_of_find?_eq_some hf)
    have h3 := List.find?_some hf
    simp only [beq_iff_eq] at h3
    rw [h1] at h3
    simp only [List.cons.injEq, and_true] at h3
    obtain ⟨rfl, rfl⟩ := h3
    rw [hz] at h2
    simp only [Option.some.injEq] at h2
    rw [h2]
  refine ⟨m0, ⟨hs, hm⟩, ?_⟩
  rw [if_neg h0]
  simp only [Option.bind_some]
  have := tail m0 hv
  rw [hu] at this
  simpa only [Option.bind_some] using this
theorem c_harm_bounds (n : Nat) (H : Hp) (r : Run) (r_v0 : Value) (hr_0 : SL H 7 R_Section r_v0 r.Canopy.Frame.Sections) (r_v7 : Value) (hr_7 : SL H 2 R_Span r_v7 r.Canopy.Ribs) (r_v8 : Value) (hr_8 : SL H 1 RInt r_v8 r.Canopy.Shares) (r_v9 : Value) (hr_9 : SL H 3 R_Blow r_v9 r.Blows) (r_v10 : Value) (hr_10 : SL H 2 R_Meter r_v10 r.Meters) (surely : Bool) (bm b1 b2 b3 : Nat) (hc1 : Cells H b1 0 [.map (some bm)]) (hc2 : Cells H b2 0 [r_v0, .int .i64 r.Canopy.Frame.Low, .int .i64 r.Canopy.Frame.High, .int .i64 r.Canopy.Frame.Ease.Num, .int .i64 r.Canopy.Frame.Ease.Den, .int .i64 r.Canopy.Frame.Rod, .int .i64 r.Canopy.Frame.Case, r_v7, r_v8]) (hc3 : Cells H b3 0 [.bool surely]) (y : Span × Int) (hF : F_counts_bounds n r true (F_asked n r.Canopy surely) = some y) :
  SC Try.prog 98 [.agg [r_v0, .int .i64 r.Canopy.Frame.Low, .int .i64 r.Canopy.Frame.High, .int .i64 r.Canopy.Frame.Ease.Num, .int .i64 r.Canopy.Frame.Ease.Den, .int .i64 r.Canopy.Frame.Rod, .int .i64 r.Canopy.Frame.Case, r_v7, r_v8, r_v9, r_v10, .int .i64 r.Wrong].toArray, .bool true, .func (.func 150) #[] [.pointer (some ⟨b1, 0, none⟩), .pointer (some ⟨b2, 0, none⟩), .pointer (some ⟨b3, 0, none⟩)].toArray] (.tuple [.agg [.int .i64 y.1.Low, .int .i64 y.1.High].toArray, .int .i64 y.2].toArray) (hol H bm (fun o => ∃ es ck m, o = .map es ck ∧ MR 2 ekA m es ck ∧ Cached n r.Canopy m)) :=
 c_counts_bounds n (hol H bm (fun o => ∃ es ck m, o = .map es ck ∧ MR 2 ekA m es ck ∧ Cached n r.Canopy m)) r r_v0 (SL.fsub R_Section_fz (fun _ _ h => h) hr_0) r_v7 (SL.fsub R_Span_fz (fun _ _ h => h) hr_7) r_v8 (SL.fsub RInt.fz (fun _ _ h => h) hr_8) r_v9 (SL.fsub R_Blow_fz (fun _ _ h => h) hr_9) r_v10 (SL.fsub R_Meter_fz (fun _ _ h => h) hr_10) true (F_asked n r.Canopy surely) 150 [.pointer (some ⟨b1, 0, none⟩), .pointer (some ⟨b2, 0, none⟩), .pointer (some ⟨b3, 0, none⟩)] en_150
  (fun H' hs' a0 a1 y' hy' => c_counts_fells_1 n H' a0 a1 b1 bm (Cells.mono hs' (Cells.hol hc1)) r.Canopy r_v0 (SL.mono R_Section_mono hs' (SL.fsub R_Section_fz (fun _ _ h => h) hr_0)) r_v7 (SL.mono R_Span_mono hs' (SL.fsub R_Span_fz (fun _ _ h => h) hr_7)) r_v8 (SL.mono RInt.mono hs' (SL.fsub RInt.fz (fun _ _ h => h) hr_8)) b2 (Cells.mono hs' (Cells.hol hc2)) surely b3 (Cells.mono hs' (Cells.hol hc3)) (Cached n r.Canopy) hs'.hole y' (fun m0 hJ => asked_ok hy' hJ)) y hF
noncomputable def F_counts_Harm (n : Nat) (r : Run) : Option (Span × Int) :=
 (F_counts_bounds n r true (F_asked n r.Canopy true)).bind fun y11 => if (y11.2 != 0) = true then (some ((Span.mk 0 0), y11.2)) else ((F_counts_bounds n r true (F_asked n r.Canopy false)).bind fun y42 => some ((Span.mk y11.1.Low y42.1.High), 0))
theorem c_counts_Harm (n : Nat) (H : Hp) (r : Run) (r_v0 : Value) (hr_0 : SL H 7 R_Section r_v0 r.Canopy.Frame.Sections) (r_v7 : Value) (hr_7 : SL H 2 R_Span r_v7 r.Canopy.Ribs) (r_v8 : Value) (hr_8 : SL H 1 RInt r_v8 r.Canopy.Shares) (r_v9 : Value) (hr_9 : SL H 3 R_Blow r_v9 r.Blows) (r_v10 : Value) (hr_10 : SL H 2 R_Meter r_v10 r.Meters) (y : Span × Int) (hF : F_counts_Harm n r = some y) : SC Try.prog 44 [.agg [r_v0, .int .i64 r.Canopy.Frame.Low, .int .i64 r.Canopy.Frame.High, .int .i64 r.Canopy.Frame.Ease.Num, .int .i64 r.Canopy.Frame.Ease.Den, .int .i64 r.Canopy.Frame.Rod, .int .i64 r.Canopy.Frame.Case, r_v7, r_v8, r_v9, r_v10, .int .i64 r.Wrong].toArray] (.tuple [.agg [.int .i64 y.1.Low, .int .i64 y.1.High].toArray, .int .i64 y.2].toArray) H := by
 rw [F_counts_Harm] at hF
 refine SC.of (N := 33) Try.func44 rfl rfl rfl fun w => ?_
 refine JC.seq (JC.region (by rfl) ?_)
 intro hQ
 refine JL.box (cs := [r_v0, .int .i64 r.Canopy.Frame.Low, .int .i64 r.Canopy.Frame.High, .int .i64 r.Canopy.Frame.Ease.Num, .int .i64 r.Canopy.Frame.Ease.Den, .int .i64 r.Canopy.Frame.Rod, .int .i64 r.Canopy.Frame.Case, r_v7, r_v8, r_v9, r_v10, .int .i64 r.Wrong]) rfl .none rfl ?_
 intro b1
 refine JL.alloc ze_39 .none rfl ?_
 intro b2
 refine JL.assign .none rfl ?_
 refine JL.done hQ (JQ.go (JC.seq ?_))
 obtain ⟨y11, hy11, hF⟩ := bind_some hF
 refine JC.mixed 11 11 #[false, false, false, false, false, false, false, false, false, false, false] [(b2, .cells [.int .i64 0, .int .i64 0].toArray 39), (b1, .cells [r_v0, .int .i64 r.Canopy.Frame.Low, .int .i64 r.Canopy.Frame.High, .int .i64 r.Canopy.Frame.Ease.Num, .int .i64 r.Canopy.Frame.Ease.Den, .int .i64 r.Canopy.Frame.Rod, .int .i64 r.Canopy.Frame.Case, r_v7, r_v8, r_v9, r_v10, .int .i64 r.Wrong].toArray 90)] (by rfl) mo_ (by kernel_rfl) (by kernel_rfl) ?_
 intro hQ hE
 refine JA.cut 2 #[true, true, true, true, true, true, true, true, true, false, false] (fun H32 f bs gs => ∃ (b31 : Nat), f 1 = .pointer (some ⟨b1, 0, none⟩) ∧ f 2 = .pointer (some ⟨b2, 0, none⟩) ∧ f 4 = .pointer (some ⟨b31, 0, none⟩) ∧ f 14 = .agg [.int .i64 y11.1.Low, .int .i64 y11.1.High].toArray ∧ f 15 = .int .i64 y11.2 ∧ bs = [(b31, .cells [.int .i64 0, .int .i64 0].toArray 39), (b2, .cells [.int .i64 0, .int .i64 0].toArray 39), (b1, .cells [r_v0, .int .i64 r.Canopy.Frame.Low, .int .i64 r.Canopy.Frame.High, .int .i64 r.Canopy.Frame.Ease.Num, .int .i64 r.Canopy.Frame.Ease.Den, .int .i64 r.Canopy.Frame.Rod, .int .i64 r.Canopy.Frame.Case, r_v7, r_v8, r_v9, r_v10, .int .i64 r.Wrong].toArray 90)] ∧ gs = [] ∧ HSub H H32) ?_ ?_
 ·rintro H32 f bs gs ⟨b31, hf1, hf2, hf4, hf14, hf15, rfl, rfl, hs32⟩
  refine (JA.norm (i := 1) hf1 (JA.norm (i := 2) hf2 (JA.norm (i := 4) hf4 (JA.norm (i := 14) hf14 (JA.norm (i := 15) hf15 ?_)))))
  refine JA.many [9] (by kernel_rfl) (by simp) (all_one ⟨_, #[true, true, true, true, true, true, true, true, true, true, false], rfl, (by kernel_rfl), ?_⟩)
  refine JL.storeOwn 0 (cs := [.int .i64 y11.1.Low, .int .i64 y11.1.High]) az_39 rfl rfl rfl (one_cons rfl (one_cons rfl one_nil)) rfl rfl .none ?_
  refine JA.after hE hs32 (.cons _ (.cons_cons _ (.cons_cons _ (List.nil_sublist _)))) ?_
  refine JA.take 10 (listed' := #[true, true, true, true, true, true, true, true, true, true, true]) hQ rfl (by kernel_rfl) (by kernel_rfl) (by kernel_rfl) (by kernel_rfl) (by kernel_rfl) hE hs32 (.cons _ (.cons_cons _ (.cons_cons _ (List.nil_sublist _)))) ?_
  refine JL.assign .none rfl ?_
  refine JA.cont ?_
  refine JA.done hQ (by kernel_rfl) ?_
  refine JQ.go (JC.seq (JC.seq (JC.region (by rfl) ?_)))
  intro hQ
  refine JL.move .none rfl ?_
  refine JL.bin rfl rfl rfl .none rfl ?_
  refine JL.done hQ (JQ.go ?_)
  rcases ite_some hF with ⟨hc33, hF⟩ | ⟨hc33, hF⟩
  ·refine JC.cond_t (b := (y11.2 != 0)) rfl hc33 ?_
   refine JC.seq (JC.region (by rfl) ?_)
   intro hQ
   refine JL.build (l := [.int .i64 0, .int .i64 0]) (by kernel_rfl) .none rfl ?_
   refine JL.move .none rfl ?_
   refine JL.storeOwn 1 (cs := [.int .i64 0, .int .i64 0]) az_39 rfl rfl rfl (one_cons rfl (one_cons rfl one_nil)) rfl rfl .none ?_
   refine JL.assign .none rfl ?_
   refine JL.done hQ (JQ.go (JC.ret (JQ.ret_then ?_)))
   obtain rfl := Option.some.inj hF
   exact JQ.outS rfl (.cell 1 az_39 rfl rfl rfl (.tmp .nil)) rfl
  ·refine JC.cond_f (b := (y11.2 != 0)) rfl hc33 ?_
   refine JC.skip (JQ.go (JC.seq ?_))
   obtain ⟨y42, hy42, hF⟩ := bind_some hF
   refine JC.mixed 11 11 #[false, false, false, false, false, false, false, false, false, false, false] [(b31, .cells [.int .i64 y11.1.Low, .int .i64 y11.1.High].toArray 39), (b2, .cells [.int .i64 0, .int .i64 0].toArray 39), (b1, .cells [r_v0, .int .i64 r.Canopy.Frame.Low, .int .i64 r.Canopy.Frame.High, .int .i64 r.Canopy.Frame.Ease.Num, .int .i64 r.Canopy.Frame.Ease.Den, .int .i64 r.Canopy.Frame.Rod, .int .i64 r.Canopy.Frame.Case, r_v7, r_v8, r_v9, r_v10, .int .i64 r.Wrong].toArray 90)] (by rfl) mo_ (by kernel_rfl) (by kernel_rfl) ?_
   intro hQ hE
   refine JA.cut 2 #[true, true, true, true, true, true, true, true, true, false, false] (fun H63 f bs gs => ∃ (b62 : Nat), f 2 = .pointer (some ⟨b2, 0, none⟩) ∧ f 4 = .pointer (some ⟨b31, 0, none⟩) ∧ f 6 = .pointer (some ⟨b62, 0, none⟩) ∧ f 26 = .agg [.int .i64 y42.1.Low, .int .i64 y42.1.High].toArray ∧ f 27 = .int .i64 y42.2 ∧ bs = [(b62, .cells [.int .i64 0, .int .i64 0].toArray 39), (b31, .cells [.int .i64 y11.1.Low, .int .i64 y11.1.High].toArray 39), (b2, .cells [.int .i64 0, .int .i64 0].toArray 39), (b1, .cells [r_v0, .int .i64 r.Canopy.Frame.Low, .int .i64 r.Canopy.Frame.High, .int .i64 r.Canopy.Frame.Ease.Num, .int .i64 r.Canopy.Frame.Ease.Den, .int .i64 r.Canopy.Frame.Rod, .int .i64 r.Canopy.Frame.Case, r_v7, r_v8, r_v9, r_v10, .int .i64 r.Wrong].toArray 90)] ∧ gs = [] ∧ HSub H32 H63) ?_ ?_
   ·rintro H63 f bs gs ⟨b62, hf2, hf4, hf6, hf26, hf27, rfl, rfl, hs63⟩
    refine (JA.norm (i := 2) hf2 (JA.norm (i := 4) hf4 (JA.norm (i := 6) hf6 (JA.norm (i := 26) hf26 (JA.norm (i := 27) hf27 ?_)))))
    refine JA.many [9] (by kernel_rfl) (by simp) (all_one ⟨_, #[true, true, true, true, true, true, true, true, true, true, false], rfl, (by kernel_rfl), ?_⟩)
    refine JL.storeOwn 0 (cs := [.int .i64 y42.1.Low, .int .i64 y42.1.High]) az_39 rfl rfl rfl (one_cons rfl (one_cons rfl one_nil)) rfl rfl .none ?_
    refine JA.after hE hs63 (.cons _ (.cons_cons _ (.cons_cons _ (.cons_cons _ (List.nil_sublist _))))) ?_
    refine JA.take 10 (listed' := #[true, true, true, true, true, true, true, true, true, true, true]) hQ rfl (by kernel_rfl) (by kernel_rfl) (by kernel_rfl) (by kernel_rfl) (by kernel_rfl) hE hs63 (.cons _ (.cons_cons _ (.cons_cons _ (.cons_cons _ (List.nil_sublist _))))) ?_
    refine JL.assign .none rfl ?_
    refine JA.cont ?_
    refine JA.done hQ (by kernel_rfl) ?_
    refine JQ.go (JC.seq (JC.region (by rfl) ?_))
    intro hQ
    refine JL.fieldAddr fo_39_0 rfl .none rfl ?_
    refine JL.loadOwn 1 az_3 rfl rfl rfl .none rfl ?_
    refine JL.fieldAddr fo_39_1 rfl .none rfl ?_
    refine JL.loadOwn 0 az_3 rfl rfl rfl .none rfl ?_
    refine JL.build (l := [.int .i64 y11.1.Low, .int .i64 y42.1.High]) (by kernel_rfl) .none rfl ?_
    refine JL.storeOwn 2 (cs := [.int .i64 y11.1.Low, .int .i64 y42.1.High]) az_39 rfl rfl rfl (one_cons rfl (one_cons rfl one_nil)) rfl rfl .none ?_
    refine JL.assign .none rfl ?_
    refine JL.done hQ (JQ.go (JC.ret ?_))
    obtain rfl := Option.some.inj hF
    exact JQ.outS rfl (.cell 2 az_39 rfl rfl rfl (.tmp .nil)) rfl
   intro nd62_0
   refine JA.cut 6 #[true, true, true, true, false, false, false, false, true, false, false] (fun H64 f bs gs => ∃ (b53 : Nat) (bm45 : Nat) (b46 : Nat) (b47 : Nat) (b48 : Nat), f 2 = .pointer (some ⟨b2, 0, none⟩) ∧ f 4 = .pointer (some ⟨b31, 0, none⟩) ∧ f 6 = .pointer (some ⟨b53, 0, none⟩) ∧ f 21 = .agg [r_v0, .int .i64 r.Canopy.Frame.Low, .int .i64 r.Canopy.Frame.High, .int .i64 r.Canopy.Frame.Ease.Num, .int .i64 r.Canopy.Frame.Ease.Den, .int .i64 r.Canopy.Frame.Rod, .int .i64 r.Canopy.Frame.Case, r_v7, r_v8, r_v9, r_v10, .int .i64 r.Wrong].toArray ∧ f 24 = .func (.func 150) #[] [.pointer (some ⟨b46, 0, none⟩), .pointer (some ⟨b47, 0, none⟩), .pointer (some ⟨b48, 0, none⟩)].toArray ∧ bs = [(b53, .cells [.int .i64 0, .int .i64 0].toArray 39), (bm45, .map #[] 0), (b31, .cells [.int .i64 y11.1.Low, .int .i64 y11.1.High].toArray 39), (b2, .cells [.int .i64 0, .int .i64 0].toArray 39), (b1, .cells [r_v0, .int .i64 r.Canopy.Frame.Low, .int .i64 r.Canopy.Frame.High, .int .i64 r.Canopy.Frame.Ease.Num, .int .i64 r.Canopy.Frame.Ease.Den, .int .i64 r.Canopy.Frame.Rod, .int .i64 r.Canopy.Frame.Case, r_v7, r_v8, r_v9, r_v10, .int .i64 r.Wrong].toArray 90)] ∧ gs = [] ∧ MR 2 ekA ([] : Mp) #[] 0 ∧ Cells H64 b46 0 [.map (some bm45)] ∧ Cells H64 b47 0 [r_v0, .int .i64 r.Canopy.Frame.Low, .int .i64 r.Canopy.Frame.High, .int .i64 r.Canopy.Frame.Ease.Num, .int .i64 r.Canopy.Frame.Ease.Den, .int .i64 r.Canopy.Frame.Rod, .int .i64 r.Canopy.Frame.Case, r_v7, r_v8] ∧ Cells H64 b48 0 [.bool false] ∧ HSub H32 H64) ?_ ?_
   ·rintro H64 f bs gs ⟨b53, bm45, b46, b47, b48, hf2, hf4, hf6, hf21, hf24, rfl, rfl, hm65, hm66, hm67, hm68, hs64⟩
    refine (JA.norm (i := 2) hf2 (JA.norm (i := 4) hf4 (JA.norm (i := 6) hf6 (JA.norm (i := 21) hf21 (JA.norm (i := 24) hf24 ?_)))))
    refine JA.many [4] (by kernel_rfl) (by simp) (all_one ⟨_, #[true, true, true, true, true, false, false, false, true, false, false], rfl, (by kernel_rfl), ?_⟩)
    refine JL.callHole 1 _ rfl ⟨_, _, _, rfl, MR.empty, cached_nil⟩ (c_harm_bounds n H64 r r_v0 (SL.mono R_Section_mono (HSub.trans hs32 hs64) hr_0) r_v7 (SL.mono R_Span_mono (HSub.trans hs32 hs64) hr_7) r_v8 (SL.mono RInt.mono (HSub.trans hs32 hs64) hr_8) r_v9 (SL.mono R_Blow_mono (HSub.trans hs32 hs64) hr_9) r_v10 (SL.mono R_Meter_mono (HSub.trans hs32 hs64) hr_10) false bm45 b46 b47 b48 hm66 hm67 hm68 y42 hy42) rfl en_98 .none rfl ?_
    refine JA.after hE hs64 (.cons _ (.cons_cons _ (.cons_cons _ (.cons_cons _ (List.nil_sublist _))))) ?_
    refine JA.take 5 (listed' := #[true, true, true, true, true, true, false, false, true, false, false]) hQ rfl (by kernel_rfl) (by kernel_rfl) (by kernel_rfl) (by kernel_rfl) (by kernel_rfl) hE hs64 (.cons _ (.cons_cons _ (.cons_cons _ (.cons_cons _ (List.nil_sublist _))))) ?_
    refine JL.move .none rfl ?_
    refine JA.cont ?_
    refine JA.take 6 (listed' := #[true, true, true, true, true, true, true, false, true, false, false]) hQ rfl (by kernel_rfl) (by kernel_rfl) (by kernel_rfl) (by kernel_rfl) (by kernel_rfl) hE hs64 (.cons _ (.cons_cons _ (.cons_cons _ (.cons_cons _ (List.nil_sublist _))))) ?_
    refine JL.extract rfl rfl .none rfl ?_
    refine JA.cont ?_
    refine JA.take 7 (listed' := #[true, true, true, true, true, true, true, true, true, false, false]) hQ rfl (by kernel_rfl) (by kernel_rfl) (by kernel_rfl) (by kernel_rfl) (by kernel_rfl) hE hs64 (.cons _ (.cons_cons _ (.cons_cons _ (.cons_cons _ (List.nil_sublist _))))) ?_
    refine JL.extract rfl rfl .none rfl ?_
    refine JA.cont ?_
    exact nd62_0 _ _ _ _ ⟨b53, rfl, rfl, rfl, rfl, rfl, rfl, rfl, hs64⟩
   intro nd62_1
   refine JA.take 0 (listed' := #[true, false, false, false, false, false, false, false, false, false, false]) hQ rfl (by kernel_rfl) (by kernel_rfl) (by kernel_rfl) (by kernel_rfl) (by kernel_rfl) hE (HSub.refl _) (.cons_cons _ (.cons_cons _ (.cons_cons _ (List.nil_sublist _)))) ?_
   refine JL.loadOwn 2 az_90 rfl rfl rfl .none rfl ?_
   refine JA.cont ?_
   refine JA.take 1 (listed' := #[true, true, false, false, false, false, false, false, false, false, false]) hQ rfl (by kernel_rfl) (by kernel_rfl) (by kernel_rfl) (by kernel_rfl) (by kernel_rfl) hE (HSub.refl _) (.cons_cons _ (.cons_cons _ (.cons_cons _ (List.nil_sublist _)))) ?_
   refine JL.fieldAddr fo_90_0 rfl .none rfl ?_
   refine JA.cont ?_
   refine JA.take 2 (listed' := #[true, true, true, false, false, false, false, false, false, false, false]) hQ rfl (by kernel_rfl) (by kernel_rfl) (by kernel_rfl) (by kernel_rfl) (by kernel_rfl) hE (HSub.refl _) (.cons_cons _ (.cons_cons _ (.cons_cons _ (List.nil_sublist _)))) ?_
   refine JL.loadOwn 2 az_76 rfl rfl rfl .none rfl ?_
   refine JA.cont ?_
   refine JA.many [3, 8] (by kernel_rfl) (by simp) (all_cons ⟨_, #[true, true, true, true, false, false, false, false, false, false, false], rfl, (by kernel_rfl), ?_⟩ (all_one ⟨_, #[true, true, true, false, false, false, false, false, true, false, false], rfl, (by kernel_rfl), ?_⟩))
   ·skip
    refine JL.callXB (c_counts_fells n H32 r.Canopy r_v0 (SL.mono R_Section_mono hs32 hr_0) r_v7 (SL.mono R_Span_mono hs32 hr_7) r_v8 (SL.mono RInt.mono hs32 hr_8) false) rfl en_99 .none rfl ?_
    rintro H69 _ _ hs69 ⟨bm70, b71, b72, b73, rfl, rfl, hc74, hc75, hc76⟩
    refine JA.after hE hs69 (.cons _ (.cons_cons _ (.cons_cons _ (.cons_cons _ (List.nil_sublist _))))) ?_
    refine JA.many [4, 8] (by kernel_rfl) (by simp) (all_cons ⟨_, #[true, true, true, true, true, false, false, false, false, false, false], rfl, (by kernel_rfl), ?_⟩ (all_one ⟨_, #[true, true, true, true, false, false, false, false, true, false, false], rfl, (by kernel_rfl), ?_⟩))
    ·skip
     refine JL.callHole 0 _ rfl ⟨_, _, _, rfl, MR.empty, cached_nil⟩ (c_harm_bounds n H69 r r_v0 (SL.mono R_Section_mono (HSub.trans hs32 hs69) hr_0) r_v7 (SL.mono R_Span_mono (HSub.trans hs32 hs69) hr_7) r_v8 (SL.mono RInt.mono (HSub.trans hs32 hs69) hr_8) r_v9 (SL.mono R_Blow_mono (HSub.trans hs32 hs69) hr_9) r_v10 (SL.mono R_Meter_mono (HSub.trans hs32 hs69) hr_10) false bm70 b71 b72 b73 hc74 hc75 hc76 y42 hy42) rfl en_98 .none rfl ?_
     refine JA.after hE hs69 (.cons_cons _ (.cons_cons _ (.cons_cons _ (List.nil_sublist _)))) ?_
     refine JA.take 5 (listed' := #[true, true, true, true, true, true, false, false, false, false, false]) hQ rfl (by kernel_rfl) (by kernel_rfl) (by kernel_rfl) (by kernel_rfl) (by kernel_rfl) hE hs69 (.cons_cons _ (.cons_cons _ (.cons_cons _ (List.nil_sublist _)))) ?_
     refine JL.move .none rfl ?_
     refine JA.cont ?_
     refine JA.take 6 (listed' := #[true, true, true, true, true, true, true, false, false, false, false]) hQ rfl (by kernel_rfl) (by kernel_rfl) (by kernel_rfl) (by kernel_rfl) (by kernel_rfl) hE hs69 (.cons_cons _ (.cons_cons _ (.cons_cons _ (List.nil_sublist _)))) ?_
     refine JL.extract rfl rfl .none rfl ?_
     refine JA.cont ?_
     refine JA.take 7 (listed' := #[true, true, true, true, true, true, true, true, false, false, false]) hQ rfl (by kernel_rfl) (by kernel_rfl) (by kernel_rfl) (by kernel_rfl) (by kernel_rfl) hE hs69 (.cons_cons _ (.cons_cons _ (.cons_cons _ (List.nil_sublist _)))) ?_
     refine JL.extract rfl rfl .none rfl ?_
     refine JA.cont ?_
     refine JA.many [8] (by kernel_rfl) (by simp) (all_one ⟨_, #[true, true, true, true, true, true, true, true, true, false, false], rfl, (by kernel_rfl), ?_⟩)
     refine JL.alloc ze_39 .none rfl ?_
     intro b77
     refine JA.after hE hs69 (.cons _ (.cons_cons _ (.cons_cons _ (.cons_cons _ (List.nil_sublist _))))) ?_
     exact nd62_0 _ _ _ _ ⟨b77, rfl, rfl, rfl, rfl, rfl, rfl, rfl, hs69⟩
    ·skip
     refine JL.alloc ze_39 .none rfl ?_
     intro b78
     refine JA.after hE hs69 (.cons _ (.cons _ (.cons_cons _ (.cons_cons _ (.cons_cons _ (List.nil_sublist _)))))) ?_
     exact nd62_1 _ _ _ _ ⟨b78, bm70, b71, b72, b73, rfl, rfl, rfl, rfl, rfl, rfl, rfl, MR.empty, hc74, hc75, hc76, hs69⟩
   ·skip
    refine JL.alloc ze_39 .none rfl ?_
    intro b79
    refine JA.after hE (HSub.refl _) (.cons _ (.cons_cons _ (.cons_cons _ (.cons_cons _ (List.nil_sublist _))))) ?_
    refine JA.many [3] (by kernel_rfl) (by simp) (all_one ⟨_, #[true, true, true, true, false, false, false, false, true, false, false], rfl, (by kernel_rfl), ?_⟩)
    refine JL.callXB (c_counts_fells n H32 r.Canopy r_v0 (SL.mono R_Section_mono hs32 hr_0) r_v7 (SL.mono R_Span_mono hs32 hr_7) r_v8 (SL.mono RInt.mono hs32 hr_8) false) rfl en_99 .none rfl ?_
    rintro H80 _ _ hs80 ⟨bm81, b82, b83, b84, rfl, rfl, hc85, hc86, hc87⟩
    refine JA.after hE hs80 (.cons _ (.cons _ (.cons_cons _ (.cons_cons _ (.cons_cons _ (List.nil_sublist _)))))) ?_
    refine JA.perm (swapAt_perm 0 _) ?_
    exact nd62_1 _ _ _ _ ⟨b79, bm81, b82, b83, b84, rfl, rfl, rfl, rfl, rfl, rfl, rfl, MR.empty, hc85, hc86, hc87, hs80⟩
 intro nd31_0
 refine JA.cut 6 #[true, true, true, true, false, false, false, false, true, false, false] (fun H88 f bs gs => ∃ (b22 : Nat) (bm14 : Nat) (b15 : Nat) (b16 : Nat) (b17 : Nat), f 1 = .pointer (some ⟨b1, 0, none⟩) ∧ f 2 = .pointer (some ⟨b2, 0, none⟩) ∧ f 4 = .pointer (some ⟨b22, 0, none⟩) ∧ f 9 = .agg [r_v0, .int .i64 r.Canopy.Frame.Low, .int .i64 r.Canopy.Frame.High, .int .i64 r.Canopy.Frame.Ease.Num, .int .i64 r.Canopy.Frame.Ease.Den, .int .i64 r.Canopy.Frame.Rod, .int .i64 r.Canopy.Frame.Case, r_v7, r_v8, r_v9, r_v10, .int .i64 r.Wrong].toArray ∧ f 12 = .func (.func 150) #[] [.pointer (some ⟨b15, 0, none⟩), .pointer (some ⟨b16, 0, none⟩), .pointer (some ⟨b17, 0, none⟩)].toArray ∧ bs = [(b22, .cells [.int .i64 0, .int .i64 0].toArray 39), (bm14, .map #[] 0), (b2, .cells [.int .i64 0, .int .i64 0].toArray 39), (b1, .cells [r_v0, .int .i64 r.Canopy.Frame.Low, .int .i64 r.Canopy.Frame.High, .int .i64 r.Canopy.Frame.Ease.Num, .int .i64 r.Canopy.Frame.Ease.Den, .int .i64 r.Canopy.Frame.Rod, .int .i64 r.Canopy.Frame.Case, r_v7, r_v8, r_v9, r_v10, .int .i64 r.Wrong].toArray 90)] ∧ gs = [] ∧ MR 2 ekA ([] : Mp) #[] 0 ∧ Cells H88 b15 0 [.map (some bm14)] ∧ Cells H88 b16 0 [r_v0, .int .i64 r.Canopy.Frame.Low, .int .i64 r.Canopy.Frame.High, .int .i64 r.Canopy.Frame.Ease.Num, .int .i64 r.Canopy.Frame.Ease.Den, .int .i64 r.Canopy.Frame.Rod, .int .i64 r.Canopy.Frame.Case, r_v7, r_v8] ∧ Cells H88 b17 0 [.bool true] ∧ HSub H H88) ?_ ?_
 ·rintro H88 f bs gs ⟨b22, bm14, b15, b16, b17, hf1, hf2, hf4, hf9, hf12, rfl, rfl, hm89, hm90, hm91, hm92, hs88⟩
  refine (JA.norm (i := 1) hf1 (JA.norm (i := 2) hf2 (JA.norm (i := 4) hf4 (JA.norm (i := 9) hf9 (JA.norm (i := 12) hf12 ?_)))))
  refine JA.many [4] (by kernel_rfl) (by simp) (all_one ⟨_, #[true, true, true, true, true, false, false, false, true, false, false], rfl, (by kernel_rfl), ?_⟩)
  refine JL.callHole 1 _ rfl ⟨_, _, _, rfl, MR.empty, cached_nil⟩ (c_harm_bounds n H88 r r_v0 (SL.mono R_Section_mono hs88 hr_0) r_v7 (SL.mono R_Span_mono hs88 hr_7) r_v8 (SL.mono RInt.mono hs88 hr_8) r_v9 (SL.mono R_Blow_mono hs88 hr_9) r_v10 (SL.mono R_Meter_mono hs88 hr_10) true bm14 b15 b16 b17 hm90 hm91 hm92 y11 hy11) rfl en_98 .none rfl ?_
  refine JA.after hE hs88 (.cons _ (.cons_cons _ (.cons_cons _ (List.nil_sublist _)))) ?_
  refine JA.take 5 (listed' := #[true, true, true, true, true, true, false, false, true, false, false]) hQ rfl (by kernel_rfl) (by kernel_rfl) (by kernel_rfl) (by kernel_rfl) (by kernel_rfl) hE hs88 (.cons _ (.cons_cons _ (.cons_cons _ (List.nil_sublist _)))) ?_
  refine JL.move .none rfl ?_
  refine JA.cont ?_
  refine JA.take 6 (listed' := #[true, true, true, true, true, true, true, false, true, false, false]) hQ rfl (by kernel_rfl) (by kernel_rfl) (by kernel_rfl) (by kernel_rfl) (by kernel_rfl) hE hs88 (.cons _ (.cons_cons _ (.cons_cons _ (List.nil_sublist _)))) ?_
  refine JL.extract rfl rfl .none rfl ?_
  refine JA.cont ?_
  refine JA.take 7 (listed' := #[true, true, true, true, true, true, true, true, true, false, false]) hQ rfl (by kernel_rfl) (by kernel_rfl) (by kernel_rfl) (by kernel_rfl) (by kernel_rfl) hE hs88 (.cons _ (.cons_cons _ (.cons_cons _ (List.nil_sublist _)))) ?_
  refine JL.extract rfl rfl .none rfl ?_
  refine JA.cont ?_
  exact nd31_0 _ _ _ _ ⟨b22, rfl, rfl, rfl, rfl, rfl, rfl, rfl, hs88⟩
 intro nd31_1
 refine JA.take 0 (listed' := #[true, false, false, false, false, false, false, false, false, false, false]) hQ rfl (by kernel_rfl) (by kernel_rfl) (by kernel_rfl) (by kernel_rfl) (by kernel_rfl) hE (HSub.refl _) (.cons_cons _ (.cons_cons _ (List.nil_sublist _))) ?_
 refine JL.loadOwn 1 az_90 rfl rfl rfl .none rfl ?_
 refine JA.cont ?_
 refine JA.take 1 (listed' := #[true, true, false, false, false, false, false, false, false, false, false]) hQ rfl (by kernel_rfl) (by kernel_rfl) (by kernel_rfl) (by kernel_rfl) (by kernel_rfl) hE (HSub.refl _) (.cons_cons _ (.cons_cons _ (List.nil_sublist _))) ?_
 refine JL.fieldAddr fo_90_0 rfl .none rfl ?_
 refine JA.cont ?_
 refine JA.take 2 (listed' := #[true, true, true, false, false, false, false, false, false, false, false]) hQ rfl (by kernel_rfl) (by kernel_rfl) (by kernel_rfl) (by kernel_rfl) (by kernel_rfl) hE (HSub.refl _) (.cons_cons _ (.cons_cons _ (List.nil_sublist _))) ?_
 refine JL.loadOwn 1 az_76 rfl rfl rfl .none rfl ?_
 refine JA.cont ?_
 refine JA.many [3, 8] (by kernel_rfl) (by simp) (all_cons ⟨_, #[true, true, true, true, false, false, false, false, false, false, false], rfl, (by kernel_rfl), ?_⟩ (all_one ⟨_, #[true, true, true, false, false, false, false, false, true, false, false], rfl, (by kernel_rfl), ?_⟩))
 ·skip
  refine JL.callXB (c_counts_fells n H r.Canopy r_v0 hr_0 r_v7 hr_7 r_v8 hr_8 true) rfl en_99 .none rfl ?_
  rintro H93 _ _ hs93 ⟨bm94, b95, b96, b97, rfl, rfl, hc98, hc99, hc100⟩
  refine JA.after hE hs93 (.cons _ (.cons_cons _ (.cons_cons _ (List.nil_sublist _)))) ?_
  refine JA.many [4, 8] (by kernel_rfl) (by simp) (all_cons ⟨_, #[true, true, true, true, true, false, false, false, false, false, false], rfl, (by kernel_rfl), ?_⟩ (all_one ⟨_, #[true, true, true, true, false, false, false, false, true, false, false], rfl, (by kernel_rfl), ?_⟩))
  ·skip
   refine JL.callHole 0 _ rfl ⟨_, _, _, rfl, MR.empty, cached_nil⟩ (c_harm_bounds n H93 r r_v0 (SL.mono R_Section_mono hs93 hr_0) r_v7 (SL.mono R_Span_mono hs93 hr_7) r_v8 (SL.mono RInt.mono hs93 hr_8) r_v9 (SL.mono R_Blow_mono hs93 hr_9) r_v10 (SL.mono R_Meter_mono hs93 hr_10) true bm94 b95 b96 b97 hc98 hc99 hc100 y11 hy11) rfl en_98 .none rfl ?_
   refine JA.after hE hs93 (.cons_cons _ (.cons_cons _ (List.nil_sublist _))) ?_
   refine JA.take 5 (listed' := #[true, true, true, true, true, true, false, false, false, false, false]) hQ rfl (by kernel_rfl) (by kernel_rfl) (by kernel_rfl) (by kernel_rfl) (by kernel_rfl) hE hs93 (.cons_cons _ (.cons_cons _ (List.nil_sublist _))) ?_
   refine JL.move .none rfl ?_
   refine JA.cont ?_
   refine JA.take 6 (listed' := #[true, true, true, true, true, true, true, false, false, false, false]) hQ rfl (by kernel_rfl) (by kernel_rfl) (by kernel_rfl) (by kernel_rfl) (by kernel_rfl) hE hs93 (.cons_cons _ (.cons_cons _ (List.nil_sublist _))) ?_
   refine JL.extract rfl rfl .none rfl ?_
   refine JA.cont ?_
   refine JA.take 7 (listed' := #[true, true, true, true, true, true, true, true, false, false, false]) hQ rfl (by kernel_rfl) (by kernel_rfl) (by kernel_rfl) (by kernel_rfl) (by kernel_rfl) hE hs93 (.cons_cons _ (.cons_cons _ (List.nil_sublist _))) ?_
   refine JL.extract rfl rfl .none rfl ?_
   refine JA.cont ?_
   refine JA.many [8] (by kernel_rfl) (by simp) (all_one ⟨_, #[true, true, true, true, true, true, true, true, true, false, false], rfl, (by kernel_rfl), ?_⟩)
   refine JL.alloc ze_39 .none rfl ?_
   intro b101
   refine JA.after hE hs93 (.cons _ (.cons_cons _ (.cons_cons _ (List.nil_sublist _)))) ?_
   exact nd31_0 _ _ _ _ ⟨b101, rfl, rfl, rfl, rfl, rfl, rfl, rfl, hs93⟩
  ·skip
   refine JL.alloc ze_39 .none rfl ?_
   intro b102
   refine JA.after hE hs93 (.cons _ (.cons _ (.cons_cons _ (.cons_cons _ (List.nil_sublist _))))) ?_
   exact nd31_1 _ _ _ _ ⟨b102, bm94, b95, b96, b97, rfl, rfl, rfl, rfl, rfl, rfl, rfl, MR.empty, hc98, hc99, hc100, hs93⟩
 ·skip
  refine JL.alloc ze_39 .none rfl ?_
  intro b103
  refine JA.after hE (HSub.refl _) (.cons _ (.cons_cons _ (.cons_cons _ (List.nil_sublist _)))) ?_
  refine JA.many [3] (by kernel_rfl) (by simp) (all_one ⟨_, #[true, true, true, true, false, false, false, false, true, false, false], rfl, (by kernel_rfl), ?_⟩)
  refine JL.callXB (c_counts_fells n H r.Canopy r_v0 hr_0 r_v7 hr_7 r_v8 hr_8 true) rfl en_99 .none rfl ?_
  rintro H104 _ _ hs104 ⟨bm105, b106, b107, b108, rfl, rfl, hc109, hc110, hc111⟩
  refine JA.after hE hs104 (.cons _ (.cons _ (.cons_cons _ (.cons_cons _ (List.nil_sublist _))))) ?_
  refine JA.perm (swapAt_perm 0 _) ?_
  exact nd31_1 _ _ _ _ ⟨b103, bm105, b106, b107, b108, rfl, rfl, rfl, rfl, rfl, rfl, rfl, MR.empty, hc109, hc110, hc111, hs104⟩
-- 29 ferrule/ferruleref01.Less
def F_ref01_Less (n : Nat) (a : Frac) (b : Frac) : Option Bool :=
 some (decide ((w64 (a.Num * b.Den)) < (w64 (b.Num * a.Den))))
theorem c_ref01_Less (n : Nat) (H : Hp) (a : Frac) (b : Frac) (y : Bool) (hF : F_ref01_Less n a b = some y) : SC Try.prog 29 [.agg [.int .i64 a.Num, .int .i64 a.Den].toArray, .agg [.int .i64 b.Num, .int .i64 b.Den].toArray] (.bool y) H := by
 rw [F_ref01_Less] at hF
 refine SC.of (N := 16) Try.func29 rfl rfl rfl fun w => ?_
 refine JC.seq (JC.region (by rfl) ?_)
 intro hQ
 refine JL.box (cs := [.int .i64 a.Num, .int .i64 a.Den]) rfl .none rfl ?_
 intro b1
 refine JL.box (cs := [.int .i64 b.Num, .int .i64 b.Den]) rfl .none rfl ?_
 intro b2
 refine JL.assign .none rfl ?_
 refine JL.done hQ (JQ.go (JC.seq (JC.region (by rfl) ?_)))
 intro hQ
 refine JL.fieldAddr fo_51_0 rfl .none rfl ?_
 refine JL.loadOwn 1 az_3 rfl rfl rfl .none rfl ?_
 refine JL.fieldAddr fo_51_1 rfl .none rfl ?_
 refine JL.loadOwn 0 az_3 rfl rfl rfl .none rfl ?_
 refine JL.bin rfl rfl rfl .none rfl ?_
 refine JL.fieldAddr fo_51_0 rfl .none rfl ?_
 refine JL.loadOwn 0 az_3 rfl rfl rfl .none rfl ?_
 refine JL.fieldAddr fo_51_1 rfl .none rfl ?_
 refine JL.loadOwn 1 az_3 rfl rfl rfl .none rfl ?_
 refine JL.bin rfl rfl rfl .none rfl ?_
 refine JL.bin rfl rfl rfl .none rfl ?_
 refine JL.assign .none rfl ?_
 refine JL.done hQ (JQ.go (JC.fresh (fun f => f 4 = .bool (decide ((w64 (a.Num * b.Den)) < (w64 (b.Num * a.Den))))) rfl ?_))
 rintro f hf4
 refine (JC.norm (i := 4) hf4 ?_)
 refine JC.ret ?_
 obtain rfl := Option.some.inj hF
 exact JQ.outS rfl (.tmp .nil) rfl
-- 45 ferrule/gusts.Loads
def F_gusts_Loads_s1 (n : Nat) (d : Canopy) (g : Gust) (y9 : gusts_blown × gusts_blown) : Int × List Span → Option ((Int × List Span) ⊕ (List Span))
 | (x_147, out_148) => if decide (x_147 < (d.Ribs.length : Int)) = true then ((F_gusts_blown_load n y9.1 g x_147).bind fun y155 => (F_gusts_blown_load n y9.2 g x_147).bind fun y156 => (lim (out_148 ++ [(Span.mk y155 y156)])).bind fun l158 => some (Sum.inl ((w64 (x_147 + 1)), l158))) else (some (Sum.inr out_148))
def F_gusts_Loads (n : Nat) (d : Canopy) (g : Gust) : Option ((List Span) × Int) :=
 (F_gusts_ask n d [g]).bind fun y7 => if (y7 != 0) = true then (some (([] : List Span), y7)) else ((F_gusts_ends n d).bind fun y9 => (loopO n (F_gusts_Loads_s1 n d g y9) (0, ([] : List Span))).bind fun out_102 => some (out_102, 0))
theorem c_gusts_Loads (n : Nat) (H : Hp) (d : Canopy) (d_v0 : Value) (hd_0 : SL H 7 R_Section d_v0 d.Frame.Sections) (d_v7 : Value) (hd_7 : SL H 2 R_Span d_v7 d.Ribs) (d_v8 : Value) (hd_8 : SL H 1 RInt d_v8 d.Shares) (g : Gust) (y : (List Span) × Int) (hF : F_gusts_Loads n d g = some y) : HC Try.prog 45 [.agg [d_v0, .int .i64 d.Frame.Low, .int .i64 d.Frame.High, .int .i64 d.Frame.Ease.Num, .int .i64 d.Frame.Ease.Den, .int .i64 d.Frame.Rod, .int .i64 d.Frame.Case, d_v7, d_v8].toArray, .agg [.int .i64 g.Force, .int .i64 g.At].toArray] H (fun H' v => ∃ ra_v0 : Value, v = .tuple [ra_v0, .int .i64 y.2].toArray ∧ SL H' 2 R_Span ra_v0 y.1) := by
 rw [F_gusts_Loads] at hF
 refine HC.of (N := 43) Try.func45 rfl rfl rfl fun w => ?_
 refine JC.seq (JC.region (by rfl) ?_)
 intro hQ
 refine JL.box (cs := [d_v0, .int .i64 d.Frame.Low, .int .i64 d.Frame.High, .int .i64 d.Frame.Ease.Num, .int .i64 d.Frame.Ease.Den, .int .i64 d.Frame.Rod, .int .i64 d.Frame.Case, d_v7, d_v8]) rfl .none rfl ?_
 intro b1
 refine JL.box (cs := [.int .i64 g.Force, .int .i64 g.At]) rfl .none rfl ?_
 intro b2
 refine JL.assign .none rfl ?_
 refine JL.assign .none rfl ?_
 refine JL.done hQ (JQ.go (JC.seq (JC.seq (JC.region (by rfl) ?_))))
 intro hQ
 refine JL.loadOwn 1 az_76 rfl rfl rfl .none rfl ?_
 refine JL.loadOwn 0 az_86 rfl rfl rfl .none rfl ?_
 refine JL.buildSlice (e := 86) (l := [.int .i64 g.Force, .int .i64 g.At]) (by kernel_rfl) .none rfl ?_
 intro b3
 refine JL.freezeC 0 (l := [.int .i64 g.Force, .int .i64 g.At]) rfl ?_
 intro H4 hs4 hc5
 have hg6 : SL H4 2 R_Gust (.slice (some ⟨b3, 0, none⟩) 1 1) [g] := CH.sl (l := [g]) (CH.cons (cs := [.int .i64 g.Force, .int .i64 g.At]) rfl rfl CH.nil) hc5 ⟨by simp, by simp⟩
 obtain ⟨y7, hy7, hF⟩ := bind_some hF
 refine JL.callS (c_gusts_ask n H4 d d_v0 (SL.mono R_Section_mono hs4 hd_0) d_v7 (SL.mono R_Span_mono hs4 hd_7) d_v8 (SL.mono RInt.mono hs4 hd_8) [g] (.slice (some ⟨b3, 0, none⟩) 1 1) hg6 y7 hy7) rfl en_87 .none rfl ?_
 refine JL.assign .none rfl ?_
 refine JL.done hQ (JQ.go (JC.seq (JC.region (by rfl) ?_)))
 intro hQ
 refine JL.move .none rfl ?_
 refine JL.bin rfl rfl rfl .none rfl ?_
 refine JL.done hQ (JQ.go ?_)
 rcases ite_some hF with ⟨hc8, hF⟩ | ⟨hc8, hF⟩
 ·refine JC.cond_t (b := (y7 != 0)) rfl hc8 ?_
  refine JC.seq (JC.region (by rfl) ?_)
  intro hQ
  refine JL.move .none rfl ?_
  refine JL.assign .none rfl ?_
  refine JL.assign .none rfl ?_
  refine JL.done hQ (JQ.go (JC.fresh (fun f => f 4 = .slice none 0 0 ∧ f 5 = .int .i64 y7) ⟨rfl, rfl⟩ ?_))
  rintro f ⟨hf4, hf5⟩
  refine (JC.norm (i := 4) hf4 (JC.norm (i := 5) hf5 ?_))
  refine JC.ret (JQ.ret_then ?_)
  obtain rfl := Option.some.inj hF
  exact JQ.outH rfl (.tmp (.tmp .nil)) ⟨(.slice none 0 0), rfl, SL.nil⟩
 ·refine JC.cond_f (b := (y7 != 0)) rfl hc8 ?_
  refine JC.skip (JQ.go (JC.seq (JC.region (by rfl) ?_)))
  intro hQ
  refine JL.loadOwn 1 az_76 rfl rfl rfl .none rfl ?_
  obtain ⟨y9, hy9, hF⟩ := bind_some hF
  refine JL.callH (c_gusts_ends n H4 d d_v0 (SL.mono R_Section_mono hs4 hd_0) d_v7 (SL.mono R_Span_mono hs4 hd_7) d_v8 (SL.mono RInt.mono hs4 hd_8) y9 hy9) rfl en_88 .none rfl ?_
  rintro H10 vv11 hs10 ⟨y9a_v1, y9a_v2, y9b_v1, y9b_v2, rfl, hy9a_1, hy9a_2, hy9b_1, hy9b_2⟩
  refine JL.move .none rfl ?_
  refine JL.extract rfl rfl .none rfl ?_
  refine JL.extract rfl rfl .none rfl ?_
  refine JL.alloc ze_156 .none rfl ?_
  intro b12
  refine JL.alloc ze_156 .none rfl ?_
  intro b13
  refine JL.storeOwn 1 (cs := [.int .i64 y9.1.lift, y9a_v1, y9a_v2]) az_156 rfl rfl rfl (one_cons rfl (one_cons (SL.one hy9a_1) (one_cons (SL.one hy9a_2) one_nil))) rfl rfl .none ?_
  refine JL.storeOwn 0 (cs := [.int .i64 y9.2.lift, y9b_v1, y9b_v2]) az_156 rfl rfl rfl (one_cons rfl (one_cons (SL.one hy9b_1) (one_cons (SL.one hy9b_2) one_nil))) rfl rfl .none ?_
  refine JL.done hQ (JQ.go (JC.fresh (fun f => f 2 = .pointer (some ⟨b1, 0, none⟩) ∧ f 3 = .pointer (some ⟨b2, 0, none⟩) ∧ f 4 = .slice none 0 0 ∧ f 5 = .int .i64 0 ∧ f 7 = .pointer (some ⟨b12, 0, none⟩) ∧ f 8 = .pointer (some ⟨b13, 0, none⟩)) ⟨rfl, rfl, rfl, rfl, rfl, rfl⟩ ?_))
  rintro f ⟨hf2, hf3, hf4, hf5, hf7, hf8⟩
  refine (JC.norm (i := 2) hf2 (JC.norm (i := 3) hf3 (JC.norm (i := 4) hf4 (JC.norm (i := 5) hf5 (JC.norm (i := 7) hf7 (JC.norm (i := 8) hf8 ?_))))))
  refine JC.seq (JC.region (by rfl) ?_)
  intro hQ
  refine JL.assign .none rfl ?_
  refine JL.done hQ (JQ.go (JC.seq (JC.seq (JC.region (by rfl) ?_))))
  intro hQ
  refine JL.fieldAddr fo_76_1 rfl .none rfl ?_
  refine JL.loadOwn 3 az_24 rfl rfl rfl .none rfl ?_
  refine JL.lenSL (R := R_Span) ul_24 (SL.mono R_Span_mono (HSub.trans hs4 hs10) hd_7) .none rfl ?_
  refine JL.move .none rfl ?_
  refine JL.done hQ (JQ.go (JC.newNil (e := 39) (sz := 2) ?_))
  obtain ⟨r104, hlr104, hKr104⟩ := bind_some hF
  refine JC.join (fun (out_102 : List Span) H103 f bs gs => ∃ (vout_102 : Value) (xsout_102 : List Value), f 9 = vout_102 ∧ bs = [] ∧ gs = [⟨vout_102, 39, 2, out_102.length, xsout_102⟩] ∧ CH H103 2 R_Span xsout_102 out_102 ∧ HSub H10 H103 ∧ out_102 = r104) ?_ ?_
  ·skip
   refine JC.block (JC.mask [true, true, true, false] [true] ?_)
   refine JC.loop hlr104 (fun (x : Int × List Span) H149 f bs gs => match x with | (x_147, out_148) => ∃ (vout_148 : Value) (xsout_148 : List Value), f 3 = .pointer (some ⟨b2, 0, none⟩) ∧ f 7 = .pointer (some ⟨b12, 0, none⟩) ∧ f 8 = .pointer (some ⟨b13, 0, none⟩) ∧ f 9 = vout_148 ∧ f 25 = .int .i64 (d.Ribs.length : Int) ∧ f 26 = .int .i64 x_147 ∧ bs = [(b13, .cells [.int .i64 y9.2.lift, y9b_v1, y9b_v2].toArray 156), (b12, .cells [.int .i64 y9.1.lift, y9a_v1, y9a_v2].toArray 156), (b2, .cells [.int .i64 g.Force, .int .i64 g.At].toArray 86)] ∧ gs = [⟨vout_148, 39, 2, out_148.length, xsout_148⟩] ∧ CH H149 2 R_Span xsout_148 out_148 ∧ HSub H10 H149) ⟨(.slice none 0 0), [], rfl, rfl, rfl, rfl, rfl, rfl, rfl, rfl, CH.nil, (HSub.refl _)⟩ ?_
   rintro ⟨x_147, out_148⟩ x151 H149 f bs gs ⟨vout_148, xsout_148, hf3, hf7, hf8, hf9, hf25, hf26, rfl, rfl, hout_148, hs149⟩ hF hr150
   rw [F_gusts_Loads_s1] at hF
   refine (JC.norm (i := 3) hf3 (JC.norm (i := 7) hf7 (JC.norm (i := 8) hf8 (JC.norm (i := 9) hf9 (JC.norm (i := 25) hf25 (JC.norm (i := 26) hf26 ?_))))))
   refine JC.seq (JC.region (by rfl) ?_)
   intro hQ
   refine JL.bin rfl rfl rfl .none rfl ?_
   refine JL.done hQ (JQ.go (JC.seq ?_))
   rcases ite_some hF with ⟨hc152, hF⟩ | ⟨hc152, hF⟩
   ·refine JC.cond_t (b := decide (x_147 < (d.Ribs.length : Int))) rfl hc152 ?_
    refine JC.skip (JQ.go (JC.seq (JC.block (JC.seq (JC.region (by rfl) ?_)))))
    intro hQ
    refine JL.move .none rfl ?_
    refine JL.assign .none rfl ?_
    refine JL.done hQ (JQ.go ?_)
    obtain ⟨y155, hy155, hF⟩ := bind_some hF
    obtain ⟨y156, hy156, hF⟩ := bind_some hF
    obtain ⟨l158, hl158, hF⟩ := bind_some hF
    refine JC.mixed 13 13 #[false, false, false, false, false, false, false, false, false, false, false, false, false] [(b13, .cells [.int .i64 y9.2.lift, y9b_v1, y9b_v2].toArray 156), (b12, .cells [.int .i64 y9.1.lift, y9a_v1, y9a_v2].toArray 156), (b2, .cells [.int .i64 g.Force, .int .i64 g.At].toArray 86)] (by rfl) mo_ (by kernel_rfl) (by kernel_rfl) ?_
    intro hQ hE
    refine JA.take 0 (listed' := #[true, false, false, false, false, false, false, false, false, false, false, false, false]) hQ rfl (by kernel_rfl) (by kernel_rfl) (by kernel_rfl) (by kernel_rfl) (by kernel_rfl) hE (HSub.refl _) (.cons_cons _ (.cons_cons _ (.cons_cons _ (List.nil_sublist _)))) ?_
    refine JL.move .none rfl ?_
    refine JA.cont ?_
    refine JA.take 1 (listed' := #[true, true, false, false, false, false, false, false, false, false, false, false, false]) hQ rfl (by kernel_rfl) (by kernel_rfl) (by kernel_rfl) (by kernel_rfl) (by kernel_rfl) hE (HSub.refl _) (.cons_cons _ (.cons_cons _ (.cons_cons _ (List.nil_sublist _)))) ?_
    refine JL.loadOwn 1 az_156 rfl rfl rfl .none rfl ?_
    refine JA.cont ?_
    refine JA.take 2 (listed' := #[true, true, true, false, false, false, false, false, false, false, false, false, false]) hQ rfl (by kernel_rfl) (by kernel_rfl) (by kernel_rfl) (by kernel_rfl) (by kernel_rfl) hE (HSub.refl _) (.cons_cons _ (.cons_cons _ (.cons_cons _ (List.nil_sublist _)))) ?_
    refine JL.loadOwn 2 az_86 rfl rfl rfl .none rfl ?_
    refine JA.cont ?_
    refine JA.take 3 (listed' := #[true, true, true, true, false, false, false, false, false, false, false, false, false]) hQ rfl (by kernel_rfl) (by kernel_rfl) (by kernel_rfl) (by kernel_rfl) (by kernel_rfl) hE (HSub.refl _) (.cons_cons _ (.cons_cons _ (.cons_cons _ (List.nil_sublist _)))) ?_
    refine JL.move .none rfl ?_
    refine JA.cont ?_
    refine JA.take 5 (listed' := #[true, true, true, true, false, true, false, false, false, false, false, false, false]) hQ rfl (by kernel_rfl) (by kernel_rfl) (by kernel_rfl) (by kernel_rfl) (by kernel_rfl) hE (HSub.refl _) (.cons_cons _ (.cons_cons _ (.cons_cons _ (List.nil_sublist _)))) ?_
    refine JL.loadOwn 0 az_156 rfl rfl rfl .none rfl ?_
    refine JA.cont ?_
    refine JA.take 6 (listed' := #[true, true, true, true, false, true, true, false, false, false, false, false, false]) hQ rfl (by kernel_rfl) (by kernel_rfl) (by kernel_rfl) (by kernel_rfl) (by kernel_rfl) hE (HSub.refl _) (.cons_cons _ (.cons_cons _ (.cons_cons _ (List.nil_sublist _)))) ?_
    refine JL.loadOwn 2 az_86 rfl rfl rfl .none rfl ?_
    refine JA.cont ?_
    refine JA.take 7 (listed' := #[true, true, true, true, false, true, true, true, false, false, false, false, false]) hQ rfl (by kernel_rfl) (by kernel_rfl) (by kernel_rfl) (by kernel_rfl) (by kernel_rfl) hE (HSub.refl _) (.cons_cons _ (.cons_cons _ (.cons_cons _ (List.nil_sublist _)))) ?_
    refine JL.move .none rfl ?_
    refine JA.cont ?_
    refine JA.many [4] (by kernel_rfl) (by simp) (all_one ⟨_, #[true, true, true, true, true, true, true, true, false, false, false, false, false], rfl, (by kernel_rfl), ?_⟩)
    refine JL.callS (c_gusts_blown_load n H149 y9.1 y9a_v1 (SL.mono RInt.mono hs149 hy9a_1) y9a_v2 (SL.mono RInt.mono hs149 hy9a_2) g x_147 y155 hy155) rfl en_100 .none rfl ?_
    refine JA.after hE (HSub.refl _) (.cons_cons _ (.cons_cons _ (.cons_cons _ (List.nil_sublist _)))) ?_
    refine JA.many [8] (by kernel_rfl) (by simp) (all_one ⟨_, #[true, true, true, true, true, true, true, true, true, false, false, false, false], rfl, (by kernel_rfl), ?_⟩)
    refine JL.callS (c_gusts_blown_load n H149 y9.2 y9b_v1 (SL.mono RInt.mono hs149 hy9b_1) y9b_v2 (SL.mono RInt.mono hs149 hy9b_2) g x_147 y156 hy156) rfl en_100 .none rfl ?_
    refine JA.after hE (HSub.refl _) (.cons_cons _ (.cons_cons _ (.cons_cons _ (List.nil_sublist _)))) ?_
    refine JA.take 9 (listed' := #[true, true, true, true, true, true, true, true, true, true, false, false, false]) hQ rfl (by kernel_rfl) (by kernel_rfl) (by kernel_rfl) (by kernel_rfl) (by kernel_rfl) hE (HSub.refl _) (.cons_cons _ (.cons_cons _ (.cons_cons _ (List.nil_sublist _)))) ?_
    refine JL.build (l := [.int .i64 y155, .int .i64 y156]) (by kernel_rfl) .none rfl ?_
    refine JA.cont ?_
    refine JA.many [10] (by kernel_rfl) (by simp) (all_one ⟨_, #[true, true, true, true, true, true, true, true, true, true, true, false, false], rfl, (by kernel_rfl), ?_⟩)
    refine JL.buildSlice (e := 39) (l := [.int .i64 y155, .int .i64 y156]) (by kernel_rfl) .none rfl ?_
    intro b166
    refine JA.after hE (HSub.refl _) (.cons _ (.cons_cons _ (.cons_cons _ (.cons_cons _ (List.nil_sublist _))))) ?_
    refine JA.many [11] (by kernel_rfl) (by simp) (all_one ⟨_, #[true, true, true, true, true, true, true, true, true, true, true, true, false], rfl, (by kernel_rfl), ?_⟩)
    refine JL.appO (R := R_Span) 0 0 (l := out_148) (m := [(Span.mk y155 y156)]) ap_24 rfl ⟨rfl, rfl⟩ rfl hout_148 rfl rfl rfl (CH.cons (cs := [.int .i64 y155, .int .i64 y156]) rfl rfl CH.nil) rfl (one_cons rfl (one_cons rfl one_nil)) hl158 .none rfl ?_
    intro v167 xs168 hch169
    refine JA.after hE (HSub.refl _) (.cons _ (.cons_cons _ (.cons_cons _ (.cons_cons _ (List.nil_sublist _))))) ?_
    refine JA.take 12 (listed' := #[true, true, true, true, true, true, true, true, true, true, true, true, true]) hQ rfl (by kernel_rfl) (by kernel_rfl) (by kernel_rfl) (by kernel_rfl) (by kernel_rfl) hE (HSub.refl _) (.cons _ (.cons_cons _ (.cons_cons _ (.cons_cons _ (List.nil_sublist _))))) ?_
    refine JL.assign .none rfl ?_
    refine JA.cont ?_
    refine JA.done hQ (by kernel_rfl) ?_
    refine JQ.normal_block (JQ.go (JC.fresh (fun f => f 3 = .pointer (some ⟨b2, 0, none⟩) ∧ f 7 = .pointer (some ⟨b12, 0, none⟩) ∧ f 8 = .pointer (some ⟨b13, 0, none⟩) ∧ f 9 = v167 ∧ f 25 = .int .i64 (d.Ribs.length : Int) ∧ f 26 = .int .i64 x_147) ⟨rfl, rfl, rfl, rfl, rfl, rfl⟩ ?_))
    rintro f ⟨hf3, hf7, hf8, hf9, hf25, hf26⟩
    refine (JC.norm (i := 3) hf3 (JC.norm (i := 7) hf7 (JC.norm (i := 8) hf8 (JC.norm (i := 9) hf9 (JC.norm (i := 25) hf25 (JC.norm (i := 26) hf26 ?_))))))
    refine JC.region (by rfl) ?_
    intro hQ
    refine JL.bin rfl rfl rfl .none rfl ?_
    refine JL.move .none rfl ?_
    refine JL.done hQ ?_
    obtain rfl := Option.some.inj hF
    refine JQ.mask [false, true, true, true] [true] ?_
    exact JQ.next rfl ⟨v167, xs168, rfl, rfl, rfl, rfl, rfl, rfl, rfl, rfl, hch169, hs149⟩
   ·refine JC.cond_f (b := decide (x_147 < (d.Ribs.length : Int))) rfl hc152 ?_
    refine JC.exit (JQ.exit_then (JQ.exit_then (JQ.exit_block ?_)))
    obtain rfl := Option.some.inj hF
    have ehr150 := hr150 _ rfl
    subst ehr150
    refine JQ.mask [false, false, false] [true] ?_
    exact JQ.join out_148 ⟨vout_148, xsout_148, rfl, rfl, rfl, hout_148, hs149, rfl⟩
  ·rintro out_102 H103 f bs gs ⟨vout_102, xsout_102, hf9, rfl, rfl, hout_102, hs103, rfl⟩
   have hF := hKr104
   try dsimp only at hF
   refine (JQ.norm (i := 9) hf9 ?_)
   refine JQ.go (JC.seq (JC.region (by rfl) ?_))
   intro hQ
   refine JL.move .none rfl ?_
   refine JL.assign .none rfl ?_
   refine JL.assign .none rfl ?_
   refine JL.done hQ (JQ.go (JC.ret (JQ.freezeG 0 (R := R_Span) rfl R_Span_mono hout_102 rfl ?_)))
   intro H170 hs170 hg171
   obtain rfl := Option.some.inj hF
   exact JQ.outH rfl (.tmp (.tmp .nil)) ⟨vout_102, rfl, hg171⟩
end Go.Proofs.Yteihdclpiekmaaa
end
section
namespace Go.Dec
/-- from some fuel on it yields y -/
def Ev {β : Type} (F : Nat → Option β) (y : β) : Prop := ∃ N, ∀ n, N ≤ n → F n = some y
theorem Ev.some {β : Type} (y : β) : Ev (fun _ => Option.some y) y := ⟨0, fun _ _ => rfl⟩
theorem Ev.of {β : Type} {F : Nat → Option β} {y : β} (h : ∀ n, F n = Option.some y) : Ev F y := ⟨0, fun n _ => h n⟩
theorem Ev.bind {α β : Type} {F : Nat → Option α} {K : Nat → α → Option β} {x : α} {y : β} (h : Ev F x) (k : Ev (fun n => K n x) y) : Ev (fun n => (F n).bind (K n)) y := by
  obtain ⟨N, hN⟩ := h
  obtain ⟨M, hM⟩ := k
  refine ⟨max N M, fun n hn => ?_⟩
  show (F n).bind (K n) = _
  rw [hN n (by omega)]
  exact hM n (by omega)
theorem Ev.get {β : Type} {F : Nat → Option β} {y : β} (h : Ev F y) : ∃ n, F n = Option.some y := let ⟨N, hN⟩ := h; ⟨N, hN N (Nat.le_refl _)⟩
/-- loops: the step's fuel and the loop's own -/
def EvL {S R : Type} (step : Nat → S → Option (S ⊕ R)) (s : S) (r : R) : Prop := ∃ N, ∀ n m, N ≤ n → N ≤ m → loopO m (step n) s = Option.some r
theorem EvL.done {S R : Type} {step : Nat → S → Option (S ⊕ R)} {s : S} {r : R} (h : Ev (fun n => step n s) (.inr r)) : EvL step s r := by
  obtain ⟨N, hN⟩ := h
  refine ⟨N + 1, fun n m hn hm => ?_⟩
  obtain ⟨m, rfl⟩ : ∃ k, m = k + 1 := ⟨m - 1, by omega⟩
  unfold loopO
  have := hN n (by omega)
  simp only at this
  rw [this]
theorem EvL.next {S R : Type} {step : Nat → S → Option (S ⊕ R)} {s s' : S} {r : R} (h : Ev (fun n => step n s) (.inl s')) (k : EvL step s' r) : EvL step s r := by
  obtain ⟨N, hN⟩ := h
  obtain ⟨M, hM⟩ := k
  refine ⟨max N M + 1, fun n m hn hm => ?_⟩
  obtain ⟨m, rfl⟩ : ∃ k, m = k + 1 := ⟨m - 1, by omega⟩
  unfold loopO
  have := hN n (by omega)
  simp only at this
  rw [this]
  exact hM n m (by omega) (by omega)
theorem EvL.ev {S R : Type} {step : Nat → S → Option (S ⊕ R)} {s : S} {r : R} (h : EvL step s r) : Ev (fun n => loopO n (step n) s) r :=
  let ⟨N, hN⟩ := h; ⟨N, fun n hn => hN n n hn hn⟩
/-- a loop over an index from i to k: s i is the state before round i; all rounds go on -/
theorem EvL.upto {S R : Type} {step : Nat → S → Option (S ⊕ R)} (s : Nat → S) {r : R} : ∀ (k i : Nat), i ≤ k → (∀ j, i ≤ j → j < k → Ev (fun n => step n (s j)) (.inl (s (j + 1)))) → Ev (fun n => step n (s k)) (.inr r) → EvL step (s i) r := by
  intro k i hik h hd
  obtain ⟨d, rfl⟩ : ∃ d, k = i + d := ⟨k - i, by omega⟩
  clear hik
  induction d generalizing i with
  | zero => exact .done hd
  | succ d ih =>
    refine .next (h i (Nat.le_refl _) (by omega)) (ih (i + 1) (fun j h1 h2 => h j (by omega) (by omega)) ?_)
    have : i + 1 + d = i + (d + 1) := by omega
    rw [this]; exact hd
/-- a loop that is left in round k -/
theorem EvL.left {S R : Type} {step : Nat → S → Option (S ⊕ R)} (s : Nat → S) {r : R} (k : Nat) (h : ∀ j, j < k → Ev (fun n => step n (s j)) (.inl (s (j + 1)))) (hd : Ev (fun n => step n (s k)) (.inr r)) : EvL step (s 0) r :=
  EvL.upto s k 0 (Nat.zero_le _) (fun j _ h2 => h j h2) hd
theorem geti_nat {α : Type} (l : List α) (i : Nat) : geti l (i : Int) = l[i]? := by
  unfold geti
  rw [if_pos (by omega)]
  simp
theorem w64_id {n : Int} (h1 : -9223372036854775808 ≤ n) (h2 : n ≤ 9223372036854775807) : w64 n = n := by
  have : w64 n = if n % 18446744073709551616 ≥ 9223372036854775808 then n % 18446744073709551616 - 18446744073709551616 else n % 18446744073709551616 := by
    simp [w64, Go.IntKind.wrap, Go.IntKind.signed, Go.IntKind.bits]
  rw [this]
  split <;> omega
def MonoF {β : Type} (F : Nat → Option β) : Prop := ∀ n m y, n ≤ m → F n = some y → F m = some y
theorem MonoF.const {β : Type} (o : Option β) : MonoF (fun _ => o) := fun _ _ _ _ h => h
theorem MonoF.bind {α β : Type} {F : Nat → Option α} {K : Nat → α → Option β} (h : MonoF F) (k : ∀ x, MonoF (fun n => K n x)) : MonoF (fun n => (F n).bind (K n)) := fun n m y hn hy => by
  obtain ⟨x, h1, h2⟩ := bind_some hy
  show (F m).bind (K m) = _
  rw [h n m x hn h1]
  exact k x n m y hn h2
theorem MonoF.loop {S R : Type} {step : Nat → S → Option (S ⊕ R)} (h : ∀ s, MonoF (fun n => step n s)) (s : S) : MonoF (fun n => loopO n (step n) s) := by
  have key : ∀ (k n m j : Nat) (s : S) (r : R), n ≤ m → k ≤ j → loopO k (step n) s = some r → loopO j (step m) s = some r := by
    intro k
    induction k with
    | zero => intro n m j s r _ _ h; simp [loopO] at h
    | succ k ih =>
      intro n m j s r hn hj hl
      obtain ⟨j, rfl⟩ : ∃ i, j = i + 1 := ⟨j - 1, by omega⟩
      unfold loopO at hl ⊢
      cases hs : step n s with
      | none => rw [hs] at hl; cases hl
      | some x =>
        rw [hs] at hl
        have := h s n m x hn hs
        simp only at this
        rw [this]
        cases x with
        | inl s' => exact ih n m j s' r hn (by omega) hl
        | inr r' => exact hl
  exact fun n m y hn hy => key n n m m s y hn hn hy
theorem MonoF.ev {β : Type} {F : Nat → Option β} (h : MonoF F) {n : Nat} {y : β} (hy : F n = some y) : Ev F y := ⟨n, fun m hm => h n m y hm hy⟩
end Go.Dec
end
section
namespace Go.Dec
theorem w64_nat {i : Nat} (h : i ≤ 4611686018427387904) : w64 ((i : Int) + 1) = ((i + 1 : Nat) : Int) := by
  rw [w64_id] <;> omega
theorem lim_ok {α : Type} {l : List α} (h : l.length ≤ 4294967296) : lim l = some l := by simp [lim, h]
section
variable {S R : Type} {step : S → Option (S ⊕ R)}
theorem loopO_succ {n : Nat} {s : S} : loopO (n + 1) step s = (match step s with | none => none | some (.inl s') => loopO n step s' | some (.inr r) => some r) := by
  rw [loopO]; rcases step s with _ | (_ | _) <;> rfl
theorem loop_done {n : Nat} {s : S} {r : R} (h : step s = some (.inr r)) (hn : 0 < n) : loopO n step s = some r := by
  obtain ⟨m, rfl⟩ : ∃ k, n = k + 1 := ⟨n - 1, by omega⟩
  rw [loopO_succ, h]
/-- a run of states -/
theorem loop_run (s : Nat → S) {r : R} : ∀ (k i n : Nat), (∀ j, i ≤ j → j < i + k → step (s j) = some (.inl (s (j + 1)))) → step (s (i + k)) = some (.inr r) → k < n → loopO n step (s i) = some r := by
  intro k
  induction k with
  | zero => intro i n _ h hn; exact loop_done h hn
  | succ k ih =>
    intro i n h hd hn
    obtain ⟨m, rfl⟩ : ∃ k, n = k + 1 := ⟨n - 1, by omega⟩
    rw [loopO_succ, h i (Nat.le_refl _) (by omega)]
    exact ih (i + 1) m (fun j h1 h2 => h j (by omega) (by omega)) (by rw [show i + 1 + k = i + (k + 1) by omega]; exact hd) (by omega)
/-- a loop that folds a list; I: what is so of the state before round i -/
theorem loop_fold {α β : Type} (l : List α) (enc : Nat → β → S) (g : β → α → β) (fin : β → R) (I : Nat → β → Prop) {n : Nat} (b0 : β) (h0 : I 0 b0)
    (h : ∀ i x b, l[i]? = some x → I i b → step (enc i b) = some (.inl (enc (i + 1) (g b x))) ∧ I (i + 1) (g b x))
    (hd : ∀ b, I l.length b → step (enc l.length b) = some (.inr (fin b))) (hn : l.length < n) : loopO n step (enc 0 b0) = some (fin (l.foldl g b0)) ∧ I l.length (l.foldl g b0) := by
  have key : ∀ (k i : Nat) (b : β) (n : Nat), i + k = l.length → I i b → k < n → loopO n step (enc i b) = some (fin ((l.drop i).foldl g b)) ∧ I l.length ((l.drop i).foldl g b) := by
    intro k
    induction k with
    | zero =>
      intro i b n hi hI hn
      have e : i = l.length := by omega
      subst e
      rw [List.drop_length]
      exact ⟨loop_done (hd b hI) hn, hI⟩
    | succ k ih =>
      intro i b n hi hI hn
      obtain ⟨m, rfl⟩ : ∃ k, n = k + 1 := ⟨n - 1, by omega⟩
      have hlt : i < l.length := by omega
      obtain ⟨h1, h2⟩ := h i l[i] b (List.getElem?_eq_getElem hlt) hI
      rw [loopO_succ, h1, List.drop_eq_getElem_cons hlt, List.foldl_cons]
      exact ih (i + 1) _ m (by omega) h2 (by omega)
  have := key l.length 0 b0 n (by omega) h0 hn
  rwa [List.drop_zero] at this
/-- a search by index -/
theorem loop_all {ρ : Type} {step : Int → Option (Int ⊕ (ρ ⊕ Unit))} (k : Nat) (p : Nat → Bool) (r : ρ) {n : Nat} (hk : k ≤ 4611686018427387904)
    (h : ∀ i, i < k → step (i : Int) = some (bif p i then .inl ((i + 1 : Nat) : Int) else .inr (.inl r))) (hd : step (k : Int) = some (.inr (.inr ()))) (hn : k < n) :
    loopO n step 0 = some (bif (List.range k).all p then .inr () else .inl r) := by
  have key : ∀ (m i n : Nat), i + m = k → m < n → loopO n step (i : Int) = some (bif (List.range' i m).all p then .inr () else .inl r) := by
    intro m
    induction m with
    | zero => intro i n hi hn; have : i = k := by omega
              subst this; rw [loop_done hd (by omega)]; simp
    | succ m ih =>
      intro i n hi hn
      obtain ⟨m', rfl⟩ : ∃ k, n = k + 1 := ⟨n - 1, by omega⟩
      rw [loopO_succ, h i (by omega), List.range'_succ, List.all_cons]
      cases hp : p i with
      | false => simp
      | true => simp only [cond_true, Bool.true_and]; exact ih (i + 1) m' (by omega) (by omega)
  have := key k 0 n (by omega) hn
  rw [List.range_eq_range']
  exact this
/-- a search in a list -/
theorem loop_all_l {α ρ : Type} {step : Int → Option (Int ⊕ (ρ ⊕ Unit))} (l : List α) (p : α → Bool) (r : ρ) {n : Nat} (hk : l.length ≤ 4611686018427387904)
    (h : ∀ i x, l[i]? = some x → i < l.length → step (i : Int) = some (bif p x then .inl ((i + 1 : Nat) : Int) else .inr (.inl r))) (hd : step (l.length : Int) = some (.inr (.inr ()))) (hn : l.length < n) :
    loopO n step 0 = some (bif l.all p then .inr () else .inl r) := by
  have := loop_all l.length (fun i => match l[i]? with | some x => p x | none => true) r hk (fun i hi => by
    rw [h i l[i] (List.getElem?_eq_getElem hi) hi]; simp [hi]) hd hn
  rw [this]
  have e : (List.range l.length).all (fun i => match l[i]? with | some x => p x | none => true) = l.all p := by
    rw [Bool.eq_iff_iff]
    simp only [List.all_eq_true, List.mem_range]
    constructor
    · intro h x hx
      obtain ⟨i, hi⟩ := List.mem_iff_getElem?.1 hx
      have := h i (List.getElem?_eq_some_iff.1 hi).1
      simpa [hi] using this
    · intro h i hi
      simpa [hi] using h _ (List.getElem_mem hi)
  rw [e]
end
/-- the first one that is such -/
theorem first_of {α : Type} {p : α → Bool} : ∀ {s : List α}, s.any p = true → ∃ i : Nat, ∃ x, s[i]? = some x ∧ p x = true ∧ ∀ (j : Nat) y, j < i → s[j]? = some y → p y = false
  | [], h => by simp at h
  | a :: s, h => by
    by_cases ha : p a = true
    · exact ⟨0, a, rfl, ha, by intros; omega⟩
    · have hs : s.any p = true := by simpa [ha] using h
      obtain ⟨i, x, h1, h2, h3⟩ := first_of hs
      refine ⟨i + 1, x, by simpa using h1, h2, fun j y hj hy => ?_⟩
      cases j with
      | zero => simp at hy; subst hy; simpa using ha
      | succ j => exact h3 j y (by omega) (by simpa using hy)
/-- a walk over what an iterator yields -/
def foldO {σ ρ α : Type} (cs : σ → α → Option (σ ⊕ ρ)) : σ → List α → Option (σ ⊕ ρ)
  | s, [] => some (.inl s)
  | s, a :: l => (cs s a).bind fun y => match y with | .inl s' => foldO cs s' l | .inr r => some (.inr r)
theorem foldO_foldl {σ ρ α : Type} {cs : σ → α → Option (σ ⊕ ρ)} (g : σ → α → σ) (I : Nat → σ → Prop) : ∀ (l : List α) (k : Nat) (s : σ), I k s → (∀ i s a, i < k + l.length → a ∈ l → I i s → cs s a = some (.inl (g s a)) ∧ I (i + 1) (g s a)) →
    foldO cs s l = some (.inl (l.foldl g s)) ∧ I (k + l.length) (l.foldl g s)
  | [], k, s, h, _ => ⟨rfl, h⟩
  | a :: l, k, s, h, hs => by
    obtain ⟨h1, h2⟩ := hs k s a (by simp) (List.mem_cons_self ..) h
    obtain ⟨h3, h4⟩ := foldO_foldl g I l (k + 1) _ h2 (fun i s a hi ha => hs i s a (by rw [List.length_cons]; omega) (List.mem_cons_of_mem _ ha))
    refine ⟨by simp [foldO, h1, h3], ?_⟩
    rw [List.length_cons, show k + (l.length + 1) = k + 1 + l.length by omega]
    exact h4
theorem foldO_append {σ ρ α : Type} {cs : σ → α → Option (σ ⊕ ρ)} : ∀ (l m : List α) (s : σ), foldO cs s (l ++ m) = (foldO cs s l).bind fun y => match y with | .inl s' => foldO cs s' m | .inr r => some (.inr r)
  | [], m, s => by simp [foldO]
  | a :: l, m, s => by
    simp only [List.cons_append, foldO]
    cases cs s a with
    | none => rfl
    | some y => cases y with
      | inl s' => simp [foldO_append l m s']
      | inr r => simp
theorem foldl_count {α : Type} (p : α → Bool) : ∀ (l : List α) (k : Int), l.foldl (fun o x => if p x = true then o + 1 else o) k = k + (l.countP p : Nat)
  | [], k => by simp
  | a :: l, k => by
    rw [List.foldl_cons, foldl_count p l]
    cases h : p a <;> simp [h, List.countP_cons]; omega
theorem foldl_append_map {α β : Type} (f : α → β) : ∀ (l : List α) (out : List β), l.foldl (fun o x => o ++ [f x]) out = out ++ l.map f
  | [], out => by simp
  | a :: l, out => by rw [List.foldl_cons, foldl_append_map f l]; simp
theorem foldl_pair {α β γ : Type} (f : β → α → β) (g : γ → α → γ) : ∀ (l : List α) (b : β) (c : γ), l.foldl (fun s x => (f s.1 x, g s.2 x)) (b, c) = (l.foldl f b, l.foldl g c)
  | [], _, _ => rfl
  | a :: l, b, c => by simp only [List.foldl_cons]; exact foldl_pair f g l _ _
end Go.Dec
end
section
namespace Go.Dec
def span (a b : Int) : List Int := (List.range (b + 1 - a).toNat).map fun j : Nat => a + j
def down (b a : Int) : List Int := (List.range (b + 1 - a).toNat).map fun j : Nat => b - j
theorem span_mem' {a b x : Int} : x ∈ span a b ↔ a ≤ x ∧ x ≤ b := by
  simp only [span, List.mem_map, List.mem_range]
  constructor
  · rintro ⟨j, h, rfl⟩; omega
  · intro h; exact ⟨(x - a).toNat, by omega, by omega⟩
theorem span_len (a b : Int) : (span a b).length = (b + 1 - a).toNat := by simp [span]
theorem span_nil {a b : Int} (h : b < a) : span a b = [] := by
  have : (b + 1 - a).toNat = 0 := by omega
  simp [span, this]
theorem span_cons {a b : Int} (h : a ≤ b) : span a b = a :: span (a + 1) b := by
  have : (b + 1 - a).toNat = (b + 1 - (a + 1)).toNat + 1 := by omega
  unfold span
  rw [this, List.range_succ_eq_map, List.map_cons, List.map_map]
  simp only [Int.natCast_zero, Int.add_zero]
  congr 1
  apply List.map_congr_left
  intro j _
  simp only [Function.comp]
  omega
/-- an iterator that counts up -/
theorem loop_up {σ ρ : Type} (cs : σ → Int → Option (σ ⊕ ρ)) {step : Int × σ → Option ((Int × σ) ⊕ (σ ⊕ ρ))} {hi : Int} : ∀ (k : Nat) (lo : Int) (s : σ) (n : Nat), (hi + 1 - lo).toNat = k →
    (∀ b s, lo ≤ b → b ≤ hi → step (b, s) = (cs s b).bind fun y => match y with | .inl s' => some (.inl (b + 1, s')) | .inr e => some (.inr (.inr e))) → (∀ b s, hi < b → b ≤ max lo (hi + 1) → step (b, s) = some (.inr (.inl s))) → k < n →
    loopO n step (lo, s) = foldO cs s (span lo hi) := by
  intro k
  induction k with
  | zero =>
    intro lo s n hk _ hd hn
    rw [span_nil (by omega), loop_done (hd lo s (by omega) (by omega)) hn]
    rfl
  | succ k ih =>
    intro lo s n hk h hd hn
    obtain ⟨m, rfl⟩ : ∃ k, n = k + 1 := ⟨n - 1, by omega⟩
    rw [span_cons (by omega), loopO_succ, h lo s (by omega) (by omega)]
    simp only [foldO]
    cases cs s lo with
    | none => rfl
    | some y => cases y with
      | inl s' =>
        simp only [Option.bind_some]
        exact ih (lo + 1) s' m (by omega) (fun b s h1 h2 => h b s (by omega) h2) (fun b s h1 h2 => hd b s h1 (by omega)) (by omega)
      | inr e => rfl
theorem foldO_flatMap {σ ρ α β : Type} {cs : σ → α → Option (σ ⊕ ρ)} (f : β → List α) : ∀ (l : List β) (s : σ), foldO cs s (l.flatMap f) = foldO (fun s b => foldO cs s (f b)) s l
  | [], s => by simp [foldO]
  | b :: l, s => by
    rw [List.flatMap_cons, foldO_append, foldO]
    congr 1
    funext y
    cases y with
    | inl s' => exact foldO_flatMap f l s'
    | inr r => rfl
theorem foldO_map {σ ρ α β : Type} {cs : σ → α → Option (σ ⊕ ρ)} (f : β → α) : ∀ (l : List β) (s : σ), foldO cs s (l.map f) = foldO (fun s b => cs s (f b)) s l
  | [], s => by simp [foldO]
  | b :: l, s => by
    rw [List.map_cons, foldO, foldO]
    congr 1
    funext y
    cases y with
    | inl s' => exact foldO_map f l s'
    | inr r => rfl
theorem loop_gcd {step : Int × Int → Option ((Int × Int) ⊕ Int)} (h0 : ∀ a, step (a, 0) = some (.inr a)) (h : ∀ a b, b ≠ 0 → step (a, b) = some (.inl (b, a.tmod b))) : ∀ (y x n : Nat), y < n → loopO n step ((x : Int), (y : Int)) = some ((Nat.gcd x y : Nat) : Int) := by
  intro y
  induction y using Nat.strongRecOn with
  | _ y ih =>
    intro x n hn
    obtain ⟨m, rfl⟩ : ∃ k, n = k + 1 := ⟨n - 1, by omega⟩
    rw [loopO_succ]
    by_cases hy : y = 0
    · subst hy
      have := h0 (x : Int)
      simp only [Int.natCast_zero] at *
      rw [this]; simp
    · rw [h _ _ (by omega)]
      simp only
      rw [← Int.ofNat_tmod]
      have hlt := Nat.mod_lt x (Nat.pos_of_ne_zero hy)
      rw [ih (x % y) hlt y m (by omega)]
      rw [Nat.gcd_comm x y, Nat.gcd_rec y x, Nat.gcd_comm]
theorem mul_in {x y A C : Int} (h1 : 0 ≤ x) (h2 : x ≤ A) (h3 : 0 ≤ y) (h4 : y ≤ C) : 0 ≤ x * y ∧ x * y ≤ A * C := by
  refine ⟨Int.mul_nonneg h1 h3, ?_⟩
  have a := Int.mul_le_mul_of_nonneg_right h2 h3
  have b := Int.mul_le_mul_of_nonneg_left h4 (show 0 ≤ A by omega)
  omega
theorem mul_abs {x y A C : Int} (h1 : -A ≤ x) (h2 : x ≤ A) (h3 : 0 ≤ y) (h4 : y ≤ C) : -(A * C) ≤ x * y ∧ x * y ≤ A * C := by
  have hA : 0 ≤ A := by omega
  have a := Int.mul_le_mul_of_nonneg_right h2 h3
  have a' := Int.mul_le_mul_of_nonneg_right h1 h3
  have b := Int.mul_le_mul_of_nonneg_left h4 hA
  rw [Int.neg_mul] at a'
  omega
end Go.Dec
end
