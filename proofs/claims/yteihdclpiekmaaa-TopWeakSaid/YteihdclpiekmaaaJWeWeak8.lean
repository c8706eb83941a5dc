/-
  A part of the proof of WeWeak: the texts WeGenK10, WeGenK11.
-/
import Derived.Test.YteihdclpiekmaaaJWeWeak7
section
set_option maxRecDepth 100000
set_option maxHeartbeats 40000000
namespace Go.Proofs.Yteihdclpiekmaaa
open Go Go.RowKit Go.Dec
set_option linter.unusedVariables false
-- 145 (ferrule/gusts.blown).rounds
def F_gusts_blown_rounds (n : Nat) (b : gusts_blown) (g : Gust) : Option (gusts_blown × Gust) :=
 some (b, g)
theorem c_gusts_blown_rounds (n : Nat) (H : Hp) (b : gusts_blown) (b_v1 : Value) (hb_1 : SL H 1 RInt b_v1 b.ribs) (b_v2 : Value) (hb_2 : SL H 1 RInt b_v2 b.shares) (g : Gust) (y : gusts_blown × Gust) (hF : F_gusts_blown_rounds n b g = some y) : HC Try.prog 145 [.agg [.int .i64 b.lift, b_v1, b_v2].toArray, .agg [.int .i64 g.Force, .int .i64 g.At].toArray] H (fun H' v => ∃ b0_ b1_ : Nat, ∃ z0_v1 z0_v2 : Value, v = .func (.func 180) #[] [.pointer (some ⟨b0_, 0, none⟩), .pointer (some ⟨b1_, 0, none⟩)].toArray ∧ Cells H' b0_ 0 [.int .i64 y.1.lift, z0_v1, z0_v2] ∧ Cells H' b1_ 0 [.int .i64 y.2.Force, .int .i64 y.2.At] ∧ SL H' 1 RInt z0_v1 y.1.ribs ∧ SL H' 1 RInt z0_v2 y.1.shares) := by
 rw [F_gusts_blown_rounds] at hF
 refine HC.of (N := 6) Try.func145 rfl rfl rfl fun w => ?_
 refine JC.seq (JC.region (by rfl) ?_)
 intro hQ
 refine JL.box (cs := [.int .i64 b.lift, b_v1, b_v2]) rfl .none rfl ?_
 intro b1
 refine JL.box (cs := [.int .i64 g.Force, .int .i64 g.At]) rfl .none rfl ?_
 intro b2
 refine JL.assign .none rfl ?_
 refine JL.done hQ (JQ.go (JC.seq (JC.region (by rfl) ?_)))
 intro hQ
 refine JL.makeFunc .none rfl ?_
 refine JL.assign .none rfl ?_
 refine JL.done hQ (JQ.go (JC.ret (JQ.freezeC 1 (l := [.int .i64 b.lift, b_v1, b_v2]) rfl ?_)))
 intro H3 hs3 hc4
 refine JQ.freezeC 0 (l := [.int .i64 g.Force, .int .i64 g.At]) rfl ?_
 intro H5 hs5 hc6
 obtain rfl := Option.some.inj hF
 exact JQ.outH rfl (.tmp .nil) ⟨b1, b2, b_v1, b_v2, rfl, (Cells.mono hs5 hc4), hc6, (SL.mono RInt.mono (HSub.trans hs3 hs5) hb_1), (SL.mono RInt.mono (HSub.trans hs3 hs5) hb_2)⟩
-- 89 (ferrule/gusts.blown).first
def F_gusts_blown_first_s1 (n : Nat)  : Unit → Int → Option (Unit ⊕ Int)
 | _, x7 => some (Sum.inr x7)
def F_gusts_blown_first (n : Nat) (b : gusts_blown) (g : Gust) : Option Int :=
 (F_gusts_blown_rounds n b g).bind fun y4 => (I_gusts_blown_rounds_1 n y4.1 y4.2 (F_gusts_blown_first_s1 n) ()).bind fun r20 => match r20 with | .inl _ => some 0 | .inr z_18 => some z_18
theorem c_gusts_blown_first (n : Nat) (H : Hp) (b : gusts_blown) (b_v1 : Value) (hb_1 : SL H 1 RInt b_v1 b.ribs) (b_v2 : Value) (hb_2 : SL H 1 RInt b_v2 b.shares) (g : Gust) (y : Int) (hF : F_gusts_blown_first n b g = some y) : SC Try.prog 89 [.agg [.int .i64 b.lift, b_v1, b_v2].toArray, .agg [.int .i64 g.Force, .int .i64 g.At].toArray] (.int .u16 y) H := by
 rw [F_gusts_blown_first] at hF
 refine SC.ofM (N := 11) Try.func89 rfl rfl rfl fun w => ?_
 refine JC.seq (JC.region (by rfl) ?_)
 intro hQ
 refine JL.box (cs := [.int .i64 b.lift, b_v1, b_v2]) rfl .none rfl ?_
 intro b1
 refine JL.box (cs := [.int .i64 g.Force, .int .i64 g.At]) rfl .none rfl ?_
 intro b2
 refine JL.alloc ze_160 .none rfl ?_
 intro b3
 refine JL.done hQ (JQ.go (JC.seq (JC.seq (JC.region (by rfl) ?_))))
 intro hQ
 refine JL.loadOwn 2 az_156 rfl rfl rfl .none rfl ?_
 refine JL.loadOwn 1 az_86 rfl rfl rfl .none rfl ?_
 obtain ⟨y4, hy4, hF⟩ := bind_some hF
 refine JL.callH (c_gusts_blown_rounds n H b b_v1 hb_1 b_v2 hb_2 g y4 hy4) rfl en_145 .none rfl ?_
 rintro H5 vv6 hs5 ⟨y4_b0, y4_b1, y4_0_v1, y4_0_v2, rfl, hy4_b0, hy4_b1, hy4_0_1, hy4_0_2⟩
 refine JL.done hQ (JQ.go (JC.block ?_))
 obtain ⟨r20, hl21, hF⟩ := bind_some hF
 refine JC.mask [true, false, false] [] ?_
 refine JC.rangeFunc (ρ := Int) (V := (VPlain fun (x : Int) => .int .u16 x)) (F := fun _ _ step s => I_gusts_blown_rounds_1 n y4.1 y4.2 step s) rfl en_180 (it_gusts_blown_rounds_1 n H5 y4.1 y4_0_v1 hy4_0_1 y4_0_v2 hy4_0_2 y4_b0 hy4_b0 y4.2 y4_b1 hy4_b1) rfl hl21 (fun (_ : Unit) H17 fr gs => fr = [(b3, .cells [.int .u16 0].toArray 160)] ∧ gs = [] ∧ HSub H5 H17) (fun (z_18 : Int) (c : Code) H19 fr gs => c = .ret ∧ fr = [(b3, .cells [.int .u16 z_18].toArray 160)] ∧ gs = [] ∧ HSub H5 H19) ⟨rfl, rfl, (HSub.refl _)⟩ ?_ ?_ ?_
 ·rintro l8 _ x7 y22 v9 own T10 H17 fr gs ⟨rfl, rfl, hs17⟩ hF ⟨rfl, rfl⟩ -
  rw [F_gusts_blown_first_s1] at hF
  refine JC.region (by rfl) ?_
  intro hQ
  refine JL.assign .none rfl ?_
  refine JL.done hQ (JQ.assigned [(b3, .cells [.int .u16 0].toArray 160)] (fun T11 => ?_))
  refine JC.block (JC.seq (JC.region (by rfl) ?_))
  intro hQ
  refine JL.move .none rfl ?_
  refine JL.storeOwn 0 (cs := [.int .u16 x7]) az_160 rfl rfl rfl (one_cons rfl one_nil) rfl rfl .none ?_
  refine JL.done hQ (JQ.go (JC.ret (JQ.ret_block ?_)))
  obtain rfl := Option.some.inj hF
  refine JQ.roundRet rfl [(b3, .cells [.int .u16 x7].toArray 160)] (HSub.refl _) ?_
  exact ⟨rfl, rfl, rfl, hs17⟩
 ·rintro D23 _ H17 fr gs rfl ⟨rfl, rfl, hs17⟩ -
  try dsimp only at hF
  refine JQ.normal_block (JQ.go (JC.seq (JC.region (by rfl) ?_)))
  intro hQ
  refine JL.storeOwn 0 (cs := [.int .u16 0]) az_160 rfl rfl rfl (one_cons rfl one_nil) rfl rfl .none ?_
  refine JL.done hQ (JQ.go (JC.ret ?_))
  obtain rfl := Option.some.inj hF
  exact JQ.outSM rfl (.cons 1 rfl .nil) (.cell 0 az_160 rfl rfl rfl .nil) rfl
 ·rintro D24 z_18 _ H19 fr gs rfl ⟨rfl, rfl, rfl, hs19⟩ -
  try dsimp only at hF
  refine JC.ret (JQ.ret_block (JQ.ret_then ?_))
  obtain rfl := Option.some.inj hF
  exact JQ.outSM rfl (.cons 1 rfl .nil) (.cell 0 az_160 rfl rfl rfl .nil) rfl
-- 91 (ferrule/gusts.ribs).list
def F_gusts_ribs_list_s1 (n : Nat) (s : Int) : Int × List Int → Option ((Int × List Int) ⊕ (List Int))
 | (x_130, out_131) => if decide (x_130 < 10) = true then ((nneg x_130).bind fun _ => (if ((band .u16 (bshr .u16 s x_130) 1) == 1) = true then ((lim (out_131 ++ [x_130])).bind fun l148 => some l148) else (some out_131)).bind fun out_143 => some (Sum.inl ((w64 (x_130 + 1)), out_143))) else (some (Sum.inr out_131))
def F_gusts_ribs_list (n : Nat) (s : Int) : Option (List Int) :=
 (loopO n (F_gusts_ribs_list_s1 n s) (0, ([] : List Int))).bind fun out_88 => some out_88
theorem c_gusts_ribs_list (n : Nat) (H : Hp) (s : Int) (y : (List Int)) (hF : F_gusts_ribs_list n s = some y) : HC Try.prog 91 [.int .u16 s] H (fun H' ra_v0 => SL H' 1 RInt ra_v0 y) := by
 rw [F_gusts_ribs_list] at hF
 refine HC.of (N := 19) Try.func91 rfl rfl rfl fun w => ?_
 refine JC.seq (JC.region (by rfl) ?_)
 intro hQ
 refine JL.assign .none rfl ?_
 refine JL.done hQ (JQ.go (JC.seq (JC.region (by rfl) ?_)))
 intro hQ
 refine JL.assign .none rfl ?_
 refine JL.done hQ (JQ.go (JC.seq (JC.seq (JC.region (by rfl) ?_))))
 intro hQ
 refine JL.move .none rfl ?_
 refine JL.done hQ (JQ.go (JC.newNil (e := 3) (sz := 1) ?_))
 obtain ⟨r90, hlr90, hKr90⟩ := bind_some hF
 refine JC.join (fun (out_88 : List Int) H89 f bs gs => ∃ (vout_88 : Value) (xsout_88 : List Value), f 3 = vout_88 ∧ bs = [] ∧ gs = [⟨vout_88, 3, 1, out_88.length, xsout_88⟩] ∧ CH H89 1 RInt xsout_88 out_88 ∧ HSub H H89 ∧ out_88 = r90) ?_ ?_
 ·skip
  refine JC.block (JC.loop hlr90 (fun (x : Int × List Int) H132 f bs gs => match x with | (x_130, out_131) => ∃ (vout_131 : Value) (xsout_131 : List Value), f 0 = .int .u16 s ∧ f 3 = vout_131 ∧ f 5 = .int .i64 x_130 ∧ bs = [] ∧ gs = [⟨vout_131, 3, 1, out_131.length, xsout_131⟩] ∧ CH H132 1 RInt xsout_131 out_131 ∧ HSub H H132) ⟨(.slice none 0 0), [], rfl, rfl, rfl, rfl, rfl, CH.nil, (HSub.refl _)⟩ ?_)
  rintro ⟨x_130, out_131⟩ x134 H132 f bs gs ⟨vout_131, xsout_131, hf0, hf3, hf5, rfl, rfl, hout_131, hs132⟩ hF hr133
  rw [F_gusts_ribs_list_s1] at hF
  refine (JC.norm (i := 0) hf0 (JC.norm (i := 3) hf3 (JC.norm (i := 5) hf5 ?_)))
  refine JC.seq (JC.region (by rfl) ?_)
  intro hQ
  refine JL.bin rfl rfl rfl .none rfl ?_
  refine JL.done hQ (JQ.go (JC.seq ?_))
  rcases ite_some hF with ⟨hc135, hF⟩ | ⟨hc135, hF⟩
  ·refine JC.cond_t (b := decide (x_130 < 10)) rfl hc135 ?_
   refine JC.skip (JQ.go (JC.seq (JC.block (JC.seq (JC.region (by rfl) ?_)))))
   intro hQ
   refine JL.move .none rfl ?_
   refine JL.assign .none rfl ?_
   refine JL.done hQ (JQ.go (JC.seq (JC.region (by rfl) ?_)))
   intro hQ
   refine JL.move .none rfl ?_
   refine JL.move .none rfl ?_
   obtain ⟨u136, hu136, hF⟩ := bind_some hF
   refine JL.shr rfl rfl (nneg_some hu136) .none rfl ?_
   refine JL.and rfl rfl .none rfl ?_
   refine JL.bin rfl rfl rfl .none rfl ?_
   refine JL.done hQ (JQ.go ?_)
   obtain ⟨r145, hlr145, hKr145⟩ := bind_some hF
   refine JC.join (fun (out_143 : List Int) H144 f bs gs => ∃ (vout_143 : Value) (xsout_143 : List Value), f 0 = .int .u16 s ∧ f 3 = vout_143 ∧ f 5 = .int .i64 x_130 ∧ bs = [] ∧ gs = [⟨vout_143, 3, 1, out_143.length, xsout_143⟩] ∧ CH H144 1 RInt xsout_143 out_143 ∧ HSub H132 H144 ∧ out_143 = r145) ?_ ?_
   ·have hF := hlr145
    rcases ite_some hF with ⟨hc146, hF⟩ | ⟨hc146, hF⟩
    ·refine JC.cond_t (b := ((band .u16 (bshr .u16 s x_130) 1) == 1)) rfl hc146 ?_
     refine JC.region (by rfl) ?_
     intro hQ
     refine JL.move .none rfl ?_
     refine JL.move .none rfl ?_
     refine JL.buildSlice (e := 3) (l := [.int .i64 x_130]) (by kernel_rfl) .none rfl ?_
     intro b147
     obtain ⟨l148, hl148, hF⟩ := bind_some hF
     refine JL.appO (R := RInt) 0 0 (l := out_131) (m := [x_130]) ap_23 rfl ⟨rfl, rfl⟩ rfl hout_131 rfl rfl rfl (CH.cons (cs := [.int .i64 x_130]) rfl rfl CH.nil) rfl (one_cons rfl one_nil) hl148 .none rfl ?_
     intro v149 xs150 hch151
     refine JL.assign .none rfl ?_
     refine JL.done hQ ?_
     obtain rfl := Option.some.inj hF
     refine JQ.mask [false] [true] ?_
     exact JQ.join l148 ⟨v149, xs150, rfl, rfl, rfl, rfl, rfl, hch151, (HSub.refl _), rfl⟩
    ·refine JC.cond_f (b := ((band .u16 (bshr .u16 s x_130) 1) == 1)) rfl hc146 ?_
     refine JC.skip ?_
     obtain rfl := Option.some.inj hF
     exact JQ.join out_131 ⟨vout_131, xsout_131, rfl, rfl, rfl, rfl, rfl, hout_131, (HSub.refl _), rfl⟩
   ·rintro out_143 H144 f bs gs ⟨vout_143, xsout_143, hf0, hf3, hf5, rfl, rfl, hout_143, hs144, rfl⟩
    have hF := hKr145
    try dsimp only at hF
    refine (JQ.norm (i := 0) hf0 (JQ.norm (i := 3) hf3 (JQ.norm (i := 5) hf5 ?_)))
    refine JQ.normal_block (JQ.go (JC.region (by rfl) ?_))
    intro hQ
    refine JL.bin rfl rfl rfl .none rfl ?_
    refine JL.move .none rfl ?_
    refine JL.done hQ ?_
    obtain rfl := Option.some.inj hF
    exact JQ.next rfl ⟨vout_143, xsout_143, rfl, rfl, rfl, rfl, rfl, hout_143, (HSub.trans hs132 hs144)⟩
  ·refine JC.cond_f (b := decide (x_130 < 10)) rfl hc135 ?_
   refine JC.exit (JQ.exit_then (JQ.exit_then (JQ.exit_block ?_)))
   obtain rfl := Option.some.inj hF
   have ehr133 := hr133 _ rfl
   subst ehr133
   exact JQ.join out_131 ⟨vout_131, xsout_131, rfl, rfl, rfl, hout_131, hs132, rfl⟩
 ·rintro out_88 H89 f bs gs ⟨vout_88, xsout_88, hf3, rfl, rfl, hout_88, hs89, rfl⟩
  have hF := hKr90
  try dsimp only at hF
  refine (JQ.norm (i := 3) hf3 ?_)
  refine JQ.go (JC.seq (JC.region (by rfl) ?_))
  intro hQ
  refine JL.move .none rfl ?_
  refine JL.assign .none rfl ?_
  refine JL.done hQ (JQ.go (JC.ret (JQ.freezeG 0 (R := RInt) rfl RInt.mono hout_88 rfl ?_)))
  intro H152 hs152 hg153
  obtain rfl := Option.some.inj hF
  exact JQ.outH rfl (.tmp .nil) hg153
-- 48 ferrule/gusts.Weak
def F_gusts_Weak_s1 (n : Nat) (class_ : List Gust) (y4 : gusts_blown × gusts_blown) : Int × Int → Option ((Int × Int) ⊕ Int)
 | (all_69, x_70) => if decide (x_70 < (class_.length : Int)) = true then ((geti class_ x_70).bind fun y75 => (F_gusts_blown_first n y4.2 y75).bind fun y81 => some (Sum.inl ((bor .u16 all_69 y81), (w64 (x_70 + 1))))) else (some (Sum.inr all_69))
def F_gusts_Weak (n : Nat) (d : Canopy) (class_ : List Gust) : Option ((List Int) × Int) :=
 (F_gusts_ask n d class_).bind fun y2 => if (y2 != 0) = true then (some (([] : List Int), y2)) else ((F_gusts_ends n d).bind fun y4 => (loopO n (F_gusts_Weak_s1 n class_ y4) (0, 0)).bind fun all_44 => (F_gusts_ribs_list n all_44).bind fun y82 => some (y82, 0))
theorem c_gusts_Weak (n : Nat) (H : Hp) (d : Canopy) (d_v0 : Value) (hd_0 : SL H 7 R_Section d_v0 d.Frame.Sections) (d_v7 : Value) (hd_7 : SL H 2 R_Span d_v7 d.Ribs) (d_v8 : Value) (hd_8 : SL H 1 RInt d_v8 d.Shares) (class_ : List Gust) (class__v0 : Value) (hclass__0 : SL H 2 R_Gust class__v0 class_) (y : (List Int) × Int) (hF : F_gusts_Weak n d class_ = some y) : HC Try.prog 48 [.agg [d_v0, .int .i64 d.Frame.Low, .int .i64 d.Frame.High, .int .i64 d.Frame.Ease.Num, .int .i64 d.Frame.Ease.Den, .int .i64 d.Frame.Rod, .int .i64 d.Frame.Case, d_v7, d_v8].toArray, class__v0] H (fun H' v => ∃ ra_v0 : Value, v = .tuple [ra_v0, .int .i64 y.2].toArray ∧ SL H' 1 RInt ra_v0 y.1) := by
 rw [F_gusts_Weak] at hF
 refine HC.of (N := 37) Try.func48 rfl rfl rfl fun w => ?_
 refine JC.seq (JC.region (by rfl) ?_)
 intro hQ
 refine JL.box (cs := [d_v0, .int .i64 d.Frame.Low, .int .i64 d.Frame.High, .int .i64 d.Frame.Ease.Num, .int .i64 d.Frame.Ease.Den, .int .i64 d.Frame.Rod, .int .i64 d.Frame.Case, d_v7, d_v8]) rfl .none rfl ?_
 intro b1
 refine JL.assign .none rfl ?_
 refine JL.assign .none rfl ?_
 refine JL.done hQ (JQ.go (JC.seq (JC.seq (JC.region (by rfl) ?_))))
 intro hQ
 refine JL.loadOwn 0 az_76 rfl rfl rfl .none rfl ?_
 refine JL.move .none rfl ?_
 obtain ⟨y2, hy2, hF⟩ := bind_some hF
 refine JL.callS (c_gusts_ask n H d d_v0 hd_0 d_v7 hd_7 d_v8 hd_8 class_ class__v0 hclass__0 y2 hy2) rfl en_87 .none rfl ?_
 refine JL.assign .none rfl ?_
 refine JL.done hQ (JQ.go (JC.seq (JC.region (by rfl) ?_)))
 intro hQ
 refine JL.move .none rfl ?_
 refine JL.bin rfl rfl rfl .none rfl ?_
 refine JL.done hQ (JQ.go ?_)
 rcases ite_some hF with ⟨hc3, hF⟩ | ⟨hc3, hF⟩
 ·refine JC.cond_t (b := (y2 != 0)) rfl hc3 ?_
  refine JC.seq (JC.region (by rfl) ?_)
  intro hQ
  refine JL.move .none rfl ?_
  refine JL.assign .none rfl ?_
  refine JL.assign .none rfl ?_
  refine JL.done hQ (JQ.go (JC.ret (JQ.ret_then ?_)))
  obtain rfl := Option.some.inj hF
  exact JQ.outH rfl (.tmp (.tmp .nil)) ⟨(.slice none 0 0), rfl, SL.nil⟩
 ·refine JC.cond_f (b := (y2 != 0)) rfl hc3 ?_
  refine JC.skip (JQ.go (JC.seq (JC.region (by rfl) ?_)))
  intro hQ
  refine JL.loadOwn 0 az_76 rfl rfl rfl .none rfl ?_
  obtain ⟨y4, hy4, hF⟩ := bind_some hF
  refine JL.callH (c_gusts_ends n H d d_v0 hd_0 d_v7 hd_7 d_v8 hd_8 y4 hy4) rfl en_88 .none rfl ?_
  rintro H5 vv6 hs5 ⟨y4a_v1, y4a_v2, y4b_v1, y4b_v2, rfl, hy4a_1, hy4a_2, hy4b_1, hy4b_2⟩
  refine JL.move .none rfl ?_
  refine JL.extract rfl rfl .none rfl ?_
  refine JL.extract rfl rfl .none rfl ?_
  refine JL.alloc ze_156 .none rfl ?_
  intro b7
  refine JL.alloc ze_156 .none rfl ?_
  intro b8
  refine JL.storeOwn 1 (cs := [.int .i64 y4.1.lift, y4a_v1, y4a_v2]) az_156 rfl rfl rfl (one_cons rfl (one_cons (SL.one hy4a_1) (one_cons (SL.one hy4a_2) one_nil))) rfl rfl .none ?_
  refine JL.storeOwn 0 (cs := [.int .i64 y4.2.lift, y4b_v1, y4b_v2]) az_156 rfl rfl rfl (one_cons rfl (one_cons (SL.one hy4b_1) (one_cons (SL.one hy4b_2) one_nil))) rfl rfl .none ?_
  refine JL.done hQ (JQ.go (JC.fresh (fun f => f 1 = class__v0 ∧ f 4 = .slice none 0 0 ∧ f 5 = .int .i64 0 ∧ f 8 = .pointer (some ⟨b8, 0, none⟩)) ⟨rfl, rfl, rfl, rfl⟩ ?_))
  rintro f ⟨hf1, hf4, hf5, hf8⟩
  refine (JC.norm (i := 1) hf1 (JC.norm (i := 4) hf4 (JC.norm (i := 5) hf5 (JC.norm (i := 8) hf8 ?_))))
  refine JC.seq (JC.region (by rfl) ?_)
  intro hQ
  refine JL.assign .none rfl ?_
  refine JL.done hQ (JQ.go (JC.seq (JC.seq (JC.region (by rfl) ?_))))
  intro hQ
  refine JL.move .none rfl ?_
  refine JL.lenSL (R := R_Gust) ul_103 (SL.mono R_Gust_mono hs5 hclass__0) .none rfl ?_
  refine JL.move .none rfl ?_
  refine JL.done hQ (JQ.go ?_)
  obtain ⟨r46, hlr46, hKr46⟩ := bind_some hF
  refine JC.join (fun (all_44 : Int) H45 f bs gs => f 9 = .int .u16 all_44 ∧ bs = [] ∧ gs = [] ∧ HSub H5 H45 ∧ all_44 = r46) ?_ ?_
  ·skip
   refine JC.block (JC.mask [true, false, false] [] ?_)
   refine JC.loop hlr46 (fun (x : Int × Int) H71 f bs gs => match x with | (all_69, x_70) => f 8 = .pointer (some ⟨b8, 0, none⟩) ∧ f 9 = .int .u16 all_69 ∧ f 23 = class__v0 ∧ f 24 = .int .i64 (class_.length : Int) ∧ f 25 = .int .i64 x_70 ∧ bs = [(b8, .cells [.int .i64 y4.2.lift, y4b_v1, y4b_v2].toArray 156)] ∧ gs = [] ∧ HSub H5 H71) ⟨rfl, rfl, rfl, rfl, rfl, rfl, rfl, (HSub.refl _)⟩ ?_
   rintro ⟨all_69, x_70⟩ x73 H71 f bs gs ⟨hf8, hf9, hf23, hf24, hf25, rfl, rfl, hs71⟩ hF hr72
   rw [F_gusts_Weak_s1] at hF
   refine (JC.norm (i := 8) hf8 (JC.norm (i := 9) hf9 (JC.norm (i := 23) hf23 (JC.norm (i := 24) hf24 (JC.norm (i := 25) hf25 ?_)))))
   refine JC.seq (JC.region (by rfl) ?_)
   intro hQ
   refine JL.bin rfl rfl rfl .none rfl ?_
   refine JL.done hQ (JQ.go (JC.seq ?_))
   rcases ite_some hF with ⟨hc74, hF⟩ | ⟨hc74, hF⟩
   ·refine JC.cond_t (b := decide (x_70 < (class_.length : Int))) rfl hc74 ?_
    refine JC.skip (JQ.go (JC.seq (JC.block (JC.seq (JC.region (by rfl) ?_)))))
    intro hQ
    obtain ⟨y75, hy75, hF⟩ := bind_some hF
    refine JL.indexSL (R := R_Gust) sl_103 (SL.mono R_Gust_mono (HSub.trans hs5 hs71) hclass__0) rfl hy75 .none rfl ?_
    rintro b76 o77 cs78 hc79 - rfl
    refine JL.loadH 0 az_86 rfl hc79 rfl .none rfl ?_
    refine JL.alloc ze_86 .none rfl ?_
    intro b80
    refine JL.storeOwn 0 (cs := [.int .i64 y75.Force, .int .i64 y75.At]) az_86 rfl rfl rfl (one_cons rfl (one_cons rfl one_nil)) rfl rfl .none ?_
    refine JL.done hQ (JQ.go (JC.region (by rfl) ?_))
    intro hQ
    refine JL.move .none rfl ?_
    refine JL.loadOwn 1 az_156 rfl rfl rfl .none rfl ?_
    refine JL.loadOwn 0 az_86 rfl rfl rfl .none rfl ?_
    obtain ⟨y81, hy81, hF⟩ := bind_some hF
    refine JL.callS (c_gusts_blown_first n H71 y4.2 y4b_v1 (SL.mono RInt.mono hs71 hy4b_1) y4b_v2 (SL.mono RInt.mono hs71 hy4b_2) y75 y81 hy81) rfl en_89 .none rfl ?_
    refine JL.or rfl rfl .none rfl ?_
    refine JL.assign .none rfl ?_
    refine JL.done hQ (JQ.normal_block (JQ.go (JC.fresh (fun f => f 8 = .pointer (some ⟨b8, 0, none⟩) ∧ f 9 = .int .u16 (bor .u16 all_69 y81) ∧ f 23 = class__v0 ∧ f 24 = .int .i64 (class_.length : Int) ∧ f 25 = .int .i64 x_70) ⟨rfl, rfl, rfl, rfl, rfl⟩ ?_)))
    rintro f ⟨hf8, hf9, hf23, hf24, hf25⟩
    refine (JC.norm (i := 8) hf8 (JC.norm (i := 9) hf9 (JC.norm (i := 23) hf23 (JC.norm (i := 24) hf24 (JC.norm (i := 25) hf25 ?_)))))
    refine JC.region (by rfl) ?_
    intro hQ
    refine JL.bin rfl rfl rfl .none rfl ?_
    refine JL.move .none rfl ?_
    refine JL.done hQ ?_
    obtain rfl := Option.some.inj hF
    refine JQ.mask [false, true] [] ?_
    exact JQ.next rfl ⟨rfl, rfl, rfl, rfl, rfl, rfl, rfl, hs71⟩
   ·refine JC.cond_f (b := decide (x_70 < (class_.length : Int))) rfl hc74 ?_
    refine JC.exit (JQ.exit_then (JQ.exit_then (JQ.exit_block ?_)))
    obtain rfl := Option.some.inj hF
    have ehr72 := hr72 _ rfl
    subst ehr72
    refine JQ.mask [false] [] ?_
    exact JQ.join all_69 ⟨rfl, rfl, rfl, hs71, rfl⟩
  ·rintro all_44 H45 f bs gs ⟨hf9, rfl, rfl, hs45, rfl⟩
   have hF := hKr46
   try dsimp only at hF
   refine (JQ.norm (i := 9) hf9 ?_)
   refine JQ.go (JC.seq (JC.region (by rfl) ?_))
   intro hQ
   refine JL.move .none rfl ?_
   obtain ⟨y82, hy82, hF⟩ := bind_some hF
   refine JL.callH (c_gusts_ribs_list n H45 all_44 y82 hy82) rfl en_91 .none rfl ?_
   intro H83 y82a_v0 hs83 hy82a_0
   refine JL.assign .none rfl ?_
   refine JL.assign .none rfl ?_
   refine JL.done hQ (JQ.go (JC.ret ?_))
   obtain rfl := Option.some.inj hF
   exact JQ.outH rfl (.tmp (.tmp .nil)) ⟨y82a_v0, rfl, hy82a_0⟩
-- 27 ferrule/ferruleref01.Copy
def F_ref01_Copy (n : Nat) (f_ : Frame) : Option Frame :=
 (lim (([] : List Section) ++ f_.Sections)).bind fun l5 => some (Frame.mk l5 f_.Low f_.High f_.Ease f_.Rod f_.Case)
theorem x_ref01_Copy (n : Nat) (H : Hp) (f_ : Frame) (f__v0 : Value) (hf__0 : SL H 7 R_Section f__v0 f_.Sections) (y : Frame) (hF : F_ref01_Copy n f_ = some y) : XC Try.prog 27 [.agg [f__v0, .int .i64 f_.Low, .int .i64 f_.High, .int .i64 f_.Ease.Num, .int .i64 f_.Ease.Den, .int .i64 f_.Rod, .int .i64 f_.Case].toArray] H (fun H' v gs' => ∃ (y_v0 : Value) (y_xs0 : List Value), v = .agg [y_v0, .int .i64 y.Low, .int .i64 y.High, .int .i64 y.Ease.Num, .int .i64 y.Ease.Den, .int .i64 y.Rod, .int .i64 y.Case].toArray ∧ gs' = [⟨y_v0, 68, 7, y.Sections.length, y_xs0⟩] ∧ CH H' 7 R_Section y_xs0 y.Sections) := by
 rw [F_ref01_Copy] at hF
 refine XC.of (N := 9) Try.func27 rfl rfl rfl fun w => ?_
 refine JC.seq (JC.region (by rfl) ?_)
 intro hQ
 refine JL.box (cs := [f__v0, .int .i64 f_.Low, .int .i64 f_.High, .int .i64 f_.Ease.Num, .int .i64 f_.Ease.Den, .int .i64 f_.Rod, .int .i64 f_.Case]) rfl .none rfl ?_
 intro b1
 refine JL.alloc ze_53 .none rfl ?_
 intro b2
 refine JL.done hQ (JQ.go (JC.seq (JC.region (by rfl) ?_)))
 intro hQ
 refine JL.emptySlice ap_49 .none rfl ?_
 intro v3
 refine JL.fieldAddr fo_53_0 rfl .none rfl ?_
 refine JL.loadOwn 1 az_49 rfl rfl rfl .none rfl ?_
 obtain ⟨l5, hl5, hF⟩ := bind_some hF
 refine JL.appD (R := R_Section) 0 (l := ([] : List Section)) (m := f_.Sections) ap_49 rfl ⟨rfl, rfl⟩ rfl CH.nil rfl hf__0 (R_Section_one _) hl5 .none rfl ?_
 intro v6 xs7 hch8
 refine JL.fieldAddr fo_53_0 rfl .none rfl ?_
 refine JL.oneG 0 rfl (fun ho9 => ?_)
 refine JL.storeOwn 1 (cs := [v6]) az_49 rfl ho9.2 rfl (one_cons ho9.1 one_nil) rfl rfl .none ?_
 refine JL.done hQ (JQ.go (JC.seq (JC.region (by rfl) ?_)))
 intro hQ
 refine JL.loadOwn 1 az_53 rfl rfl rfl .none rfl ?_
 refine JL.oneG 0 rfl (fun ho10 => ?_)
 refine JL.storeOwn 0 (cs := [v6, .int .i64 f_.Low, .int .i64 f_.High, .int .i64 f_.Ease.Num, .int .i64 f_.Ease.Den, .int .i64 f_.Rod, .int .i64 f_.Case]) az_53 rfl rfl rfl (one_cons ho10.1 (one_cons rfl (one_cons rfl (one_cons rfl (one_cons rfl (one_cons rfl (one_cons rfl one_nil))))))) rfl rfl .none ?_
 refine JL.done hQ (JQ.go (JC.ret ?_))
 obtain rfl := Option.some.inj hF
 exact JQ.outX rfl (.cell 0 az_53 rfl rfl rfl .nil) ⟨v6, xs7, rfl, rfl, hch8⟩
-- 97 ferrule/ferruleref05.Copy
def F_ref05_Copy (n : Nat) (d : Canopy) : Option Canopy :=
 (F_ref01_Copy n d.Frame).bind fun y4 => (lim (([] : List Span) ++ d.Ribs)).bind fun l9 => (lim (([] : List Int) ++ d.Shares)).bind fun l15 => some (Canopy.mk y4 l9 l15)
theorem x_ref05_Copy (n : Nat) (H : Hp) (d : Canopy) (d_v0 : Value) (hd_0 : SL H 7 R_Section d_v0 d.Frame.Sections) (d_v7 : Value) (hd_7 : SL H 2 R_Span d_v7 d.Ribs) (d_v8 : Value) (hd_8 : SL H 1 RInt d_v8 d.Shares) (y : Canopy) (hF : F_ref05_Copy n d = some y) : XC Try.prog 97 [.agg [d_v0, .int .i64 d.Frame.Low, .int .i64 d.Frame.High, .int .i64 d.Frame.Ease.Num, .int .i64 d.Frame.Ease.Den, .int .i64 d.Frame.Rod, .int .i64 d.Frame.Case, d_v7, d_v8].toArray] H (fun H' v gs' => ∃ (y_v0 : Value) (y_xs0 : List Value) (y_v1 : Value) (y_xs1 : List Value) (y_v2 : Value) (y_xs2 : List Value), v = .agg [y_v0, .int .i64 y.Frame.Low, .int .i64 y.Frame.High, .int .i64 y.Frame.Ease.Num, .int .i64 y.Frame.Ease.Den, .int .i64 y.Frame.Rod, .int .i64 y.Frame.Case, y_v1, y_v2].toArray ∧ gs' = [⟨y_v2, 3, 1, y.Shares.length, y_xs2⟩, ⟨y_v1, 39, 2, y.Ribs.length, y_xs1⟩, ⟨y_v0, 68, 7, y.Frame.Sections.length, y_xs0⟩] ∧ CH H' 7 R_Section y_xs0 y.Frame.Sections ∧ CH H' 2 R_Span y_xs1 y.Ribs ∧ CH H' 1 RInt y_xs2 y.Shares) := by
 rw [F_ref05_Copy] at hF
 refine XC.of (N := 20) Try.func97 rfl rfl rfl fun w => ?_
 refine JC.seq (JC.region (by rfl) ?_)
 intro hQ
 refine JL.box (cs := [d_v0, .int .i64 d.Frame.Low, .int .i64 d.Frame.High, .int .i64 d.Frame.Ease.Num, .int .i64 d.Frame.Ease.Den, .int .i64 d.Frame.Rod, .int .i64 d.Frame.Case, d_v7, d_v8]) rfl .none rfl ?_
 intro b1
 refine JL.alloc ze_76 .none rfl ?_
 intro b2
 refine JL.done hQ (JQ.go (JC.seq (JC.region (by rfl) ?_)))
 intro hQ
 refine JL.loadOwn 1 az_76 rfl rfl rfl .none rfl ?_
 refine JL.alloc ze_76 .none rfl ?_
 intro b3
 refine JL.storeOwn 0 (cs := [d_v0, .int .i64 d.Frame.Low, .int .i64 d.Frame.High, .int .i64 d.Frame.Ease.Num, .int .i64 d.Frame.Ease.Den, .int .i64 d.Frame.Rod, .int .i64 d.Frame.Case, d_v7, d_v8]) az_76 rfl rfl rfl (one_cons (SL.one hd_0) (one_cons rfl (one_cons rfl (one_cons rfl (one_cons rfl (one_cons rfl (one_cons rfl (one_cons (SL.one hd_7) (one_cons (SL.one hd_8) one_nil))))))))) rfl rfl .none ?_
 refine JL.done hQ (JQ.go (JC.seq (JC.region (by rfl) ?_)))
 intro hQ
 refine JL.fieldAddr fo_76_0 rfl .none rfl ?_
 refine JL.loadOwn 2 az_53 rfl rfl rfl .none rfl ?_
 obtain ⟨y4, hy4, hF⟩ := bind_some hF
 refine JL.callXC (x_ref01_Copy n H d.Frame d_v0 hd_0 y4 hy4) rfl en_27 .none rfl ?_
 rintro H5 vv6 _ hs5 ⟨y4_v0, y4_xs0, rfl, rfl, hy4_0⟩
 refine JL.fieldAddr fo_76_0 rfl .none rfl ?_
 refine JL.oneG 0 rfl (fun ho8 => ?_)
 refine JL.storeOwn 0 (cs := [y4_v0, .int .i64 y4.Low, .int .i64 y4.High, .int .i64 y4.Ease.Num, .int .i64 y4.Ease.Den, .int .i64 y4.Rod, .int .i64 y4.Case]) az_53 rfl rfl rfl (one_cons ho8.1 (one_cons rfl (one_cons rfl (one_cons rfl (one_cons rfl (one_cons rfl (one_cons rfl one_nil))))))) rfl rfl .none ?_
 refine JL.done hQ (JQ.go (JC.seq ?_))
 obtain ⟨l11, hl11, hF⟩ := bind_some hF
 obtain ⟨l17, hl17, hF⟩ := bind_some hF
 refine JC.mixed 12 12 #[false, false, false, false, false, false, false, false, false, false, false, false] [(b2, .cells [.slice none 0 0, .int .i64 0, .int .i64 0, .int .i64 0, .int .i64 0, .int .i64 0, .int .i64 0, .slice none 0 0, .slice none 0 0].toArray 76), (b1, .cells [d_v0, .int .i64 d.Frame.Low, .int .i64 d.Frame.High, .int .i64 d.Frame.Ease.Num, .int .i64 d.Frame.Ease.Den, .int .i64 d.Frame.Rod, .int .i64 d.Frame.Case, d_v7, d_v8].toArray 76)] (by rfl) mo_ (by kernel_rfl) (by kernel_rfl) ?_
 intro hQ hE
 refine JA.cut 4 #[true, true, true, true, true, true, true, false, true, false, false, false] (fun H118 f bs gs => ∃ (v108 : Value) (v101 : Value) (xs102 : List Value), f 2 = .pointer (some ⟨b2, 0, none⟩) ∧ f 3 = .pointer (some ⟨b3, 0, none⟩) ∧ f 12 = v101 ∧ f 13 = v108 ∧ f 15 = d_v8 ∧ f 17 = .pointer (some ⟨b3, 7, none⟩) ∧ bs = [(b3, .cells [y4_v0, .int .i64 y4.Low, .int .i64 y4.High, .int .i64 y4.Ease.Num, .int .i64 y4.Ease.Den, .int .i64 y4.Rod, .int .i64 y4.Case, d_v7, d_v8].toArray 76), (b2, .cells [.slice none 0 0, .int .i64 0, .int .i64 0, .int .i64 0, .int .i64 0, .int .i64 0, .int .i64 0, .slice none 0 0, .slice none 0 0].toArray 76), (b1, .cells [d_v0, .int .i64 d.Frame.Low, .int .i64 d.Frame.High, .int .i64 d.Frame.Ease.Num, .int .i64 d.Frame.Ease.Den, .int .i64 d.Frame.Rod, .int .i64 d.Frame.Case, d_v7, d_v8].toArray 76)] ∧ gs = [⟨v108, 3, 1, 0, []⟩, ⟨v101, 39, 2, l11.length, xs102⟩, ⟨y4_v0, 68, 7, y4.Sections.length, y4_xs0⟩] ∧ CH H118 2 R_Span xs102 l11 ∧ HSub H5 H118) ?_ ?_
 ·rintro H118 f bs gs ⟨v108, v101, xs102, hf2, hf3, hf12, hf13, hf15, hf17, rfl, rfl, hm119, hs118⟩
  refine (JA.norm (i := 2) hf2 (JA.norm (i := 3) hf3 (JA.norm (i := 12) hf12 (JA.norm (i := 13) hf13 (JA.norm (i := 15) hf15 (JA.norm (i := 17) hf17 ?_))))))
  refine JA.many [7] (by kernel_rfl) (by simp) (all_one ⟨_, #[true, true, true, true, true, true, true, true, true, false, false, false], rfl, (by kernel_rfl), ?_⟩)
  refine JL.appD (R := RInt) 0 (l := ([] : List Int)) (m := d.Shares) ap_23 rfl ⟨rfl, rfl⟩ rfl CH.nil rfl (SL.mono RInt.mono (HSub.trans hs5 hs118) hd_8) (RInt.one _) hl17 .none rfl ?_
  intro v120 xs121 hch122
  refine JA.after hE hs118 (.cons _ (.cons_cons _ (.cons_cons _ (List.nil_sublist _)))) ?_
  refine JA.many [9] (by kernel_rfl) (by simp) (all_one ⟨_, #[true, true, true, true, true, true, true, true, true, true, false, false], rfl, (by kernel_rfl), ?_⟩)
  refine JL.oneG 1 rfl (fun ho123 => ?_)
  refine JL.storeOwn 0 (cs := [v101]) az_24 rfl ho123.2 rfl (one_cons ho123.1 one_nil) rfl rfl .none ?_
  refine JA.after hE hs118 (.cons _ (.cons_cons _ (.cons_cons _ (List.nil_sublist _)))) ?_
  refine JA.take 10 (listed' := #[true, true, true, true, true, true, true, true, true, true, true, false]) hQ rfl (by kernel_rfl) (by kernel_rfl) (by kernel_rfl) (by kernel_rfl) (by kernel_rfl) hE hs118 (.cons _ (.cons_cons _ (.cons_cons _ (List.nil_sublist _)))) ?_
  refine JL.fieldAddr fo_76_2 rfl .none rfl ?_
  refine JA.cont ?_
  refine JA.many [11] (by kernel_rfl) (by simp) (all_one ⟨_, #[true, true, true, true, true, true, true, true, true, true, true, true], rfl, (by kernel_rfl), ?_⟩)
  refine JL.oneG 0 rfl (fun ho124 => ?_)
  refine JL.storeOwn 0 (cs := [v120]) az_23 rfl ho124.2 rfl (one_cons ho124.1 one_nil) rfl rfl .none ?_
  refine JA.after hE hs118 (.cons _ (.cons_cons _ (.cons_cons _ (List.nil_sublist _)))) ?_
  refine JA.done hQ (by kernel_rfl) ?_
  refine JQ.go (JC.seq (JC.region (by rfl) ?_))
  intro hQ
  refine JL.loadOwn 0 az_76 rfl rfl rfl .none rfl ?_
  refine JL.oneG 2 rfl (fun ho125 => ?_)
  refine JL.oneG 1 rfl (fun ho126 => ?_)
  refine JL.oneG 0 rfl (fun ho127 => ?_)
  refine JL.storeOwn 1 (cs := [y4_v0, .int .i64 y4.Low, .int .i64 y4.High, .int .i64 y4.Ease.Num, .int .i64 y4.Ease.Den, .int .i64 y4.Rod, .int .i64 y4.Case, v101, v120]) az_76 rfl rfl rfl (one_cons ho125.1 (one_cons rfl (one_cons rfl (one_cons rfl (one_cons rfl (one_cons rfl (one_cons rfl (one_cons ho126.1 (one_cons ho127.1 one_nil))))))))) rfl rfl .none ?_
  refine JL.done hQ (JQ.go (JC.ret ?_))
  obtain rfl := Option.some.inj hF
  exact JQ.outX rfl (.cell 1 az_76 rfl rfl rfl .nil) ⟨y4_v0, y4_xs0, v101, xs102, v120, xs121, rfl, rfl, (CH.mono R_Section_mono hs118 hy4_0), hm119, hch122⟩
 intro nd117_0
 refine JA.cut 6 #[true, true, true, false, true, true, true, false, false, false, false, false] (fun H128 f bs gs => ∃ (v104 : Value) (v97 : Value), f 2 = .pointer (some ⟨b2, 0, none⟩) ∧ f 3 = .pointer (some ⟨b3, 0, none⟩) ∧ f 9 = v97 ∧ f 11 = d_v7 ∧ f 13 = v104 ∧ f 15 = d_v8 ∧ bs = [(b3, .cells [y4_v0, .int .i64 y4.Low, .int .i64 y4.High, .int .i64 y4.Ease.Num, .int .i64 y4.Ease.Den, .int .i64 y4.Rod, .int .i64 y4.Case, d_v7, d_v8].toArray 76), (b2, .cells [.slice none 0 0, .int .i64 0, .int .i64 0, .int .i64 0, .int .i64 0, .int .i64 0, .int .i64 0, .slice none 0 0, .slice none 0 0].toArray 76), (b1, .cells [d_v0, .int .i64 d.Frame.Low, .int .i64 d.Frame.High, .int .i64 d.Frame.Ease.Num, .int .i64 d.Frame.Ease.Den, .int .i64 d.Frame.Rod, .int .i64 d.Frame.Case, d_v7, d_v8].toArray 76)] ∧ gs = [⟨v104, 3, 1, 0, []⟩, ⟨v97, 39, 2, 0, []⟩, ⟨y4_v0, 68, 7, y4.Sections.length, y4_xs0⟩] ∧ HSub H5 H128) ?_ ?_
 ·rintro H128 f bs gs ⟨v104, v97, hf2, hf3, hf9, hf11, hf13, hf15, rfl, rfl, hs128⟩
  refine (JA.norm (i := 2) hf2 (JA.norm (i := 3) hf3 (JA.norm (i := 9) hf9 (JA.norm (i := 11) hf11 (JA.norm (i := 13) hf13 (JA.norm (i := 15) hf15 ?_))))))
  refine JA.many [3] (by kernel_rfl) (by simp) (all_one ⟨_, #[true, true, true, true, true, true, true, false, false, false, false, false], rfl, (by kernel_rfl), ?_⟩)
  refine JL.appD (R := R_Span) 1 (l := ([] : List Span)) (m := d.Ribs) ap_24 rfl ⟨rfl, rfl⟩ rfl CH.nil rfl (SL.mono R_Span_mono (HSub.trans hs5 hs128) hd_7) (R_Span_one _) hl11 .none rfl ?_
  intro v129 xs130 hch131
  refine JA.after hE hs128 (.cons _ (.cons_cons _ (.cons_cons _ (List.nil_sublist _)))) ?_
  refine JA.take 8 (listed' := #[true, true, true, true, true, true, true, false, true, false, false, false]) hQ rfl (by kernel_rfl) (by kernel_rfl) (by kernel_rfl) (by kernel_rfl) (by kernel_rfl) hE hs128 (.cons _ (.cons_cons _ (.cons_cons _ (List.nil_sublist _)))) ?_
  refine JL.fieldAddr fo_76_1 rfl .none rfl ?_
  refine JA.cont ?_
  exact nd117_0 _ _ _ _ ⟨v104, v129, xs130, rfl, rfl, rfl, rfl, rfl, rfl, rfl, rfl, hch131, hs128⟩
 intro nd117_1
 refine JA.take 1 (listed' := #[false, true, false, false, false, false, false, false, false, false, false, false]) hQ rfl (by kernel_rfl) (by kernel_rfl) (by kernel_rfl) (by kernel_rfl) (by kernel_rfl) hE (HSub.refl _) (.cons _ (.cons_cons _ (.cons_cons _ (List.nil_sublist _)))) ?_
 refine JL.fieldAddr fo_76_1 rfl .none rfl ?_
 refine JA.cont ?_
 refine JA.take 2 (listed' := #[false, true, true, false, false, false, false, false, false, false, false, false]) hQ rfl (by kernel_rfl) (by kernel_rfl) (by kernel_rfl) (by kernel_rfl) (by kernel_rfl) hE (HSub.refl _) (.cons _ (.cons_cons _ (.cons_cons _ (List.nil_sublist _)))) ?_
 refine JL.loadOwn 1 az_24 rfl rfl rfl .none rfl ?_
 refine JA.cont ?_
 refine JA.take 5 (listed' := #[false, true, true, false, false, true, false, false, false, false, false, false]) hQ rfl (by kernel_rfl) (by kernel_rfl) (by kernel_rfl) (by kernel_rfl) (by kernel_rfl) hE (HSub.refl _) (.cons _ (.cons_cons _ (.cons_cons _ (List.nil_sublist _)))) ?_
 refine JL.fieldAddr fo_76_2 rfl .none rfl ?_
 refine JA.cont ?_
 refine JA.take 6 (listed' := #[false, true, true, false, false, true, true, false, false, false, false, false]) hQ rfl (by kernel_rfl) (by kernel_rfl) (by kernel_rfl) (by kernel_rfl) (by kernel_rfl) hE (HSub.refl _) (.cons _ (.cons_cons _ (.cons_cons _ (List.nil_sublist _)))) ?_
 refine JL.loadOwn 1 az_23 rfl rfl rfl .none rfl ?_
 refine JA.cont ?_
 refine JA.many [0, 4] (by kernel_rfl) (by simp) (all_cons ⟨_, #[true, true, true, false, false, true, true, false, false, false, false, false], rfl, (by kernel_rfl), ?_⟩ (all_one ⟨_, #[false, true, true, false, true, true, true, false, false, false, false, false], rfl, (by kernel_rfl), ?_⟩))
 ·skip
  refine JL.emptySlice ap_24 .none rfl ?_
  intro v132
  refine JA.after hE (HSub.refl _) (.cons _ (.cons_cons _ (.cons_cons _ (List.nil_sublist _)))) ?_
  refine JA.many [3, 4] (by kernel_rfl) (by simp) (all_cons ⟨_, #[true, true, true, true, false, true, true, false, false, false, false, false], rfl, (by kernel_rfl), ?_⟩ (all_one ⟨_, #[true, true, true, false, true, true, true, false, false, false, false, false], rfl, (by kernel_rfl), ?_⟩))
  ·skip
   refine JL.appD (R := R_Span) 0 (l := ([] : List Span)) (m := d.Ribs) ap_24 rfl ⟨rfl, rfl⟩ rfl CH.nil rfl (SL.mono R_Span_mono hs5 hd_7) (R_Span_one _) hl11 .none rfl ?_
   intro v134 xs135 hch136
   refine JA.after hE (HSub.refl _) (.cons _ (.cons_cons _ (.cons_cons _ (List.nil_sublist _)))) ?_
   refine JA.take 8 (listed' := #[true, true, true, true, false, true, true, false, true, false, false, false]) hQ rfl (by kernel_rfl) (by kernel_rfl) (by kernel_rfl) (by kernel_rfl) (by kernel_rfl) hE (HSub.refl _) (.cons _ (.cons_cons _ (.cons_cons _ (List.nil_sublist _)))) ?_
   refine JL.fieldAddr fo_76_1 rfl .none rfl ?_
   refine JA.cont ?_
   refine JA.many [4] (by kernel_rfl) (by simp) (all_one ⟨_, #[true, true, true, true, true, true, true, false, true, false, false, false], rfl, (by kernel_rfl), ?_⟩)
   refine JL.emptySlice ap_23 .none rfl ?_
   intro v137
   refine JA.after hE (HSub.refl _) (.cons _ (.cons_cons _ (.cons_cons _ (List.nil_sublist _)))) ?_
   exact nd117_0 _ _ _ _ ⟨v137, v134, xs135, rfl, rfl, rfl, rfl, rfl, rfl, rfl, rfl, hch136, (HSub.refl _)⟩
  ·skip
   refine JL.emptySlice ap_23 .none rfl ?_
   intro v139
   refine JA.after hE (HSub.refl _) (.cons _ (.cons_cons _ (.cons_cons _ (List.nil_sublist _)))) ?_
   exact nd117_1 _ _ _ _ ⟨v139, v132, rfl, rfl, rfl, rfl, rfl, rfl, rfl, rfl, (HSub.refl _)⟩
 ·skip
  refine JL.emptySlice ap_23 .none rfl ?_
  intro v141
  refine JA.after hE (HSub.refl _) (.cons _ (.cons_cons _ (.cons_cons _ (List.nil_sublist _)))) ?_
  refine JA.many [0] (by kernel_rfl) (by simp) (all_one ⟨_, #[true, true, true, false, true, true, true, false, false, false, false, false], rfl, (by kernel_rfl), ?_⟩)
  refine JL.emptySlice ap_24 .none rfl ?_
  intro v143
  refine JA.after hE (HSub.refl _) (.cons _ (.cons_cons _ (.cons_cons _ (List.nil_sublist _)))) ?_
  refine JA.permG (swapAt_perm 0 _) ?_
  exact nd117_1 _ _ _ _ ⟨v141, v143, rfl, rfl, rfl, rfl, rfl, rfl, rfl, rfl, (HSub.refl _)⟩
end Go.Proofs.Yteihdclpiekmaaa
end
section
set_option maxRecDepth 100000
set_option maxHeartbeats 40000000
namespace Go.Proofs.Yteihdclpiekmaaa
open Go Go.RowKit Go.Dec
set_option linter.unusedVariables false
-- 43 ferrule/ferruleref13.Copy
def F_ref13_Copy (n : Nat) (r : Run) : Option Run :=
 (F_ref05_Copy n r.Canopy).bind fun y4 => (lim (([] : List Blow) ++ r.Blows)).bind fun l9 => (lim (([] : List Meter) ++ r.Meters)).bind fun l15 => some (Run.mk y4 l9 l15 r.Wrong)
theorem x_ref13_Copy (n : Nat) (H : Hp) (r : Run) (r_v0 : Value) (hr_0 : SL H 7 R_Section r_v0 r.Canopy.Frame.Sections) (r_v7 : Value) (hr_7 : SL H 2 R_Span r_v7 r.Canopy.Ribs) (r_v8 : Value) (hr_8 : SL H 1 RInt r_v8 r.Canopy.Shares) (r_v9 : Value) (hr_9 : SL H 3 R_Blow r_v9 r.Blows) (r_v10 : Value) (hr_10 : SL H 2 R_Meter r_v10 r.Meters) (y : Run) (hF : F_ref13_Copy n r = some y) : XC Try.prog 43 [.agg [r_v0, .int .i64 r.Canopy.Frame.Low, .int .i64 r.Canopy.Frame.High, .int .i64 r.Canopy.Frame.Ease.Num, .int .i64 r.Canopy.Frame.Ease.Den, .int .i64 r.Canopy.Frame.Rod, .int .i64 r.Canopy.Frame.Case, r_v7, r_v8, r_v9, r_v10, .int .i64 r.Wrong].toArray] H (fun H' v gs' => ∃ (y_v0 : Value) (y_xs0 : List Value) (y_v1 : Value) (y_xs1 : List Value) (y_v2 : Value) (y_xs2 : List Value) (y_v3 : Value) (y_xs3 : List Value) (y_v4 : Value) (y_xs4 : List Value), v = .agg [y_v0, .int .i64 y.Canopy.Frame.Low, .int .i64 y.Canopy.Frame.High, .int .i64 y.Canopy.Frame.Ease.Num, .int .i64 y.Canopy.Frame.Ease.Den, .int .i64 y.Canopy.Frame.Rod, .int .i64 y.Canopy.Frame.Case, y_v1, y_v2, y_v3, y_v4, .int .i64 y.Wrong].toArray ∧ gs' = [⟨y_v4, 206, 2, y.Meters.length, y_xs4⟩, ⟨y_v3, 98, 3, y.Blows.length, y_xs3⟩, ⟨y_v2, 3, 1, y.Canopy.Shares.length, y_xs2⟩, ⟨y_v1, 39, 2, y.Canopy.Ribs.length, y_xs1⟩, ⟨y_v0, 68, 7, y.Canopy.Frame.Sections.length, y_xs0⟩] ∧ CH H' 7 R_Section y_xs0 y.Canopy.Frame.Sections ∧ CH H' 2 R_Span y_xs1 y.Canopy.Ribs ∧ CH H' 1 RInt y_xs2 y.Canopy.Shares ∧ CH H' 3 R_Blow y_xs3 y.Blows ∧ CH H' 2 R_Meter y_xs4 y.Meters) := by
 rw [F_ref13_Copy] at hF
 refine XC.of (N := 20) Try.func43 rfl rfl rfl fun w => ?_
 refine JC.seq (JC.region (by rfl) ?_)
 intro hQ
 refine JL.box (cs := [r_v0, .int .i64 r.Canopy.Frame.Low, .int .i64 r.Canopy.Frame.High, .int .i64 r.Canopy.Frame.Ease.Num, .int .i64 r.Canopy.Frame.Ease.Den, .int .i64 r.Canopy.Frame.Rod, .int .i64 r.Canopy.Frame.Case, r_v7, r_v8, r_v9, r_v10, .int .i64 r.Wrong]) rfl .none rfl ?_
 intro b1
 refine JL.alloc ze_90 .none rfl ?_
 intro b2
 refine JL.done hQ (JQ.go (JC.seq (JC.region (by rfl) ?_)))
 intro hQ
 refine JL.loadOwn 1 az_90 rfl rfl rfl .none rfl ?_
 refine JL.alloc ze_90 .none rfl ?_
 intro b3
 refine JL.storeOwn 0 (cs := [r_v0, .int .i64 r.Canopy.Frame.Low, .int .i64 r.Canopy.Frame.High, .int .i64 r.Canopy.Frame.Ease.Num, .int .i64 r.Canopy.Frame.Ease.Den, .int .i64 r.Canopy.Frame.Rod, .int .i64 r.Canopy.Frame.Case, r_v7, r_v8, r_v9, r_v10, .int .i64 r.Wrong]) az_90 rfl rfl rfl (one_cons (SL.one hr_0) (one_cons rfl (one_cons rfl (one_cons rfl (one_cons rfl (one_cons rfl (one_cons rfl (one_cons (SL.one hr_7) (one_cons (SL.one hr_8) (one_cons (SL.one hr_9) (one_cons (SL.one hr_10) (one_cons rfl one_nil)))))))))))) rfl rfl .none ?_
 refine JL.done hQ (JQ.go (JC.seq (JC.region (by rfl) ?_)))
 intro hQ
 refine JL.fieldAddr fo_90_0 rfl .none rfl ?_
 refine JL.loadOwn 2 az_76 rfl rfl rfl .none rfl ?_
 obtain ⟨y4, hy4, hF⟩ := bind_some hF
 refine JL.callXC (x_ref05_Copy n H r.Canopy r_v0 hr_0 r_v7 hr_7 r_v8 hr_8 y4 hy4) rfl en_97 .none rfl ?_
 rintro H5 vv6 _ hs5 ⟨y4_v0, y4_xs0, y4_v1, y4_xs1, y4_v2, y4_xs2, rfl, rfl, hy4_0, hy4_1, hy4_2⟩
 refine JL.fieldAddr fo_90_0 rfl .none rfl ?_
 refine JL.oneG 2 rfl (fun ho10 => ?_)
 refine JL.oneG 1 rfl (fun ho11 => ?_)
 refine JL.oneG 0 rfl (fun ho12 => ?_)
 refine JL.storeOwn 0 (cs := [y4_v0, .int .i64 y4.Frame.Low, .int .i64 y4.Frame.High, .int .i64 y4.Frame.Ease.Num, .int .i64 y4.Frame.Ease.Den, .int .i64 y4.Frame.Rod, .int .i64 y4.Frame.Case, y4_v1, y4_v2]) az_76 rfl rfl rfl (one_cons ho10.1 (one_cons rfl (one_cons rfl (one_cons rfl (one_cons rfl (one_cons rfl (one_cons rfl (one_cons ho11.1 (one_cons ho12.1 one_nil))))))))) rfl rfl .none ?_
 refine JL.done hQ (JQ.go (JC.seq ?_))
 obtain ⟨l15, hl15, hF⟩ := bind_some hF
 obtain ⟨l21, hl21, hF⟩ := bind_some hF
 refine JC.mixed 12 12 #[false, false, false, false, false, false, false, false, false, false, false, false] [(b2, .cells [.slice none 0 0, .int .i64 0, .int .i64 0, .int .i64 0, .int .i64 0, .int .i64 0, .int .i64 0, .slice none 0 0, .slice none 0 0, .slice none 0 0, .slice none 0 0, .int .i64 0].toArray 90), (b1, .cells [r_v0, .int .i64 r.Canopy.Frame.Low, .int .i64 r.Canopy.Frame.High, .int .i64 r.Canopy.Frame.Ease.Num, .int .i64 r.Canopy.Frame.Ease.Den, .int .i64 r.Canopy.Frame.Rod, .int .i64 r.Canopy.Frame.Case, r_v7, r_v8, r_v9, r_v10, .int .i64 r.Wrong].toArray 90)] (by rfl) mo_ (by kernel_rfl) (by kernel_rfl) ?_
 intro hQ hE
 refine JA.cut 4 #[true, true, true, true, true, true, true, false, true, false, false, false] (fun H122 f bs gs => ∃ (v112 : Value) (v105 : Value) (xs106 : List Value), f 2 = .pointer (some ⟨b2, 0, none⟩) ∧ f 3 = .pointer (some ⟨b3, 0, none⟩) ∧ f 12 = v105 ∧ f 13 = v112 ∧ f 15 = r_v10 ∧ f 17 = .pointer (some ⟨b3, 9, none⟩) ∧ bs = [(b3, .cells [y4_v0, .int .i64 y4.Frame.Low, .int .i64 y4.Frame.High, .int .i64 y4.Frame.Ease.Num, .int .i64 y4.Frame.Ease.Den, .int .i64 y4.Frame.Rod, .int .i64 y4.Frame.Case, y4_v1, y4_v2, r_v9, r_v10, .int .i64 r.Wrong].toArray 90), (b2, .cells [.slice none 0 0, .int .i64 0, .int .i64 0, .int .i64 0, .int .i64 0, .int .i64 0, .int .i64 0, .slice none 0 0, .slice none 0 0, .slice none 0 0, .slice none 0 0, .int .i64 0].toArray 90), (b1, .cells [r_v0, .int .i64 r.Canopy.Frame.Low, .int .i64 r.Canopy.Frame.High, .int .i64 r.Canopy.Frame.Ease.Num, .int .i64 r.Canopy.Frame.Ease.Den, .int .i64 r.Canopy.Frame.Rod, .int .i64 r.Canopy.Frame.Case, r_v7, r_v8, r_v9, r_v10, .int .i64 r.Wrong].toArray 90)] ∧ gs = [⟨v112, 206, 2, 0, []⟩, ⟨v105, 98, 3, l15.length, xs106⟩, ⟨y4_v2, 3, 1, y4.Shares.length, y4_xs2⟩, ⟨y4_v1, 39, 2, y4.Ribs.length, y4_xs1⟩, ⟨y4_v0, 68, 7, y4.Frame.Sections.length, y4_xs0⟩] ∧ CH H122 3 R_Blow xs106 l15 ∧ HSub H5 H122) ?_ ?_
 ·rintro H122 f bs gs ⟨v112, v105, xs106, hf2, hf3, hf12, hf13, hf15, hf17, rfl, rfl, hm123, hs122⟩
  refine (JA.norm (i := 2) hf2 (JA.norm (i := 3) hf3 (JA.norm (i := 12) hf12 (JA.norm (i := 13) hf13 (JA.norm (i := 15) hf15 (JA.norm (i := 17) hf17 ?_))))))
  refine JA.many [7] (by kernel_rfl) (by simp) (all_one ⟨_, #[true, true, true, true, true, true, true, true, true, false, false, false], rfl, (by kernel_rfl), ?_⟩)
  refine JL.appD (R := R_Meter) 0 (l := ([] : List Meter)) (m := r.Meters) ap_88 rfl ⟨rfl, rfl⟩ rfl CH.nil rfl (SL.mono R_Meter_mono (HSub.trans hs5 hs122) hr_10) (R_Meter_one _) hl21 .none rfl ?_
  intro v124 xs125 hch126
  refine JA.after hE hs122 (.cons _ (.cons_cons _ (.cons_cons _ (List.nil_sublist _)))) ?_
  refine JA.many [9] (by kernel_rfl) (by simp) (all_one ⟨_, #[true, true, true, true, true, true, true, true, true, true, false, false], rfl, (by kernel_rfl), ?_⟩)
  refine JL.oneG 1 rfl (fun ho127 => ?_)
  refine JL.storeOwn 0 (cs := [v105]) az_87 rfl ho127.2 rfl (one_cons ho127.1 one_nil) rfl rfl .none ?_
  refine JA.after hE hs122 (.cons _ (.cons_cons _ (.cons_cons _ (List.nil_sublist _)))) ?_
  refine JA.take 10 (listed' := #[true, true, true, true, true, true, true, true, true, true, true, false]) hQ rfl (by kernel_rfl) (by kernel_rfl) (by kernel_rfl) (by kernel_rfl) (by kernel_rfl) hE hs122 (.cons _ (.cons_cons _ (.cons_cons _ (List.nil_sublist _)))) ?_
  refine JL.fieldAddr fo_90_2 rfl .none rfl ?_
  refine JA.cont ?_
  refine JA.many [11] (by kernel_rfl) (by simp) (all_one ⟨_, #[true, true, true, true, true, true, true, true, true, true, true, true], rfl, (by kernel_rfl), ?_⟩)
  refine JL.oneG 0 rfl (fun ho128 => ?_)
  refine JL.storeOwn 0 (cs := [v124]) az_88 rfl ho128.2 rfl (one_cons ho128.1 one_nil) rfl rfl .none ?_
  refine JA.after hE hs122 (.cons _ (.cons_cons _ (.cons_cons _ (List.nil_sublist _)))) ?_
  refine JA.done hQ (by kernel_rfl) ?_
  refine JQ.go (JC.seq (JC.region (by rfl) ?_))
  intro hQ
  refine JL.loadOwn 0 az_90 rfl rfl rfl .none rfl ?_
  refine JL.oneG 4 rfl (fun ho129 => ?_)
  refine JL.oneG 3 rfl (fun ho130 => ?_)
  refine JL.oneG 2 rfl (fun ho131 => ?_)
  refine JL.oneG 1 rfl (fun ho132 => ?_)
  refine JL.oneG 0 rfl (fun ho133 => ?_)
  refine JL.storeOwn 1 (cs := [y4_v0, .int .i64 y4.Frame.Low, .int .i64 y4.Frame.High, .int .i64 y4.Frame.Ease.Num, .int .i64 y4.Frame.Ease.Den, .int .i64 y4.Frame.Rod, .int .i64 y4.Frame.Case, y4_v1, y4_v2, v105, v124, .int .i64 r.Wrong]) az_90 rfl rfl rfl (one_cons ho129.1 (one_cons rfl (one_cons rfl (one_cons rfl (one_cons rfl (one_cons rfl (one_cons rfl (one_cons ho130.1 (one_cons ho131.1 (one_cons ho132.1 (one_cons ho133.1 (one_cons rfl one_nil)))))))))))) rfl rfl .none ?_
  refine JL.done hQ (JQ.go (JC.ret ?_))
  obtain rfl := Option.some.inj hF
  exact JQ.outX rfl (.cell 1 az_90 rfl rfl rfl .nil) ⟨y4_v0, y4_xs0, y4_v1, y4_xs1, y4_v2, y4_xs2, v105, xs106, v124, xs125, rfl, rfl, (CH.mono R_Section_mono hs122 hy4_0), (CH.mono R_Span_mono hs122 hy4_1), (CH.mono RInt.mono hs122 hy4_2), hm123, hch126⟩
 intro nd121_0
 refine JA.cut 6 #[true, true, true, false, true, true, true, false, false, false, false, false] (fun H134 f bs gs => ∃ (v108 : Value) (v101 : Value), f 2 = .pointer (some ⟨b2, 0, none⟩) ∧ f 3 = .pointer (some ⟨b3, 0, none⟩) ∧ f 9 = v101 ∧ f 11 = r_v9 ∧ f 13 = v108 ∧ f 15 = r_v10 ∧ bs = [(b3, .cells [y4_v0, .int .i64 y4.Frame.Low, .int .i64 y4.Frame.High, .int .i64 y4.Frame.Ease.Num, .int .i64 y4.Frame.Ease.Den, .int .i64 y4.Frame.Rod, .int .i64 y4.Frame.Case, y4_v1, y4_v2, r_v9, r_v10, .int .i64 r.Wrong].toArray 90), (b2, .cells [.slice none 0 0, .int .i64 0, .int .i64 0, .int .i64 0, .int .i64 0, .int .i64 0, .int .i64 0, .slice none 0 0, .slice none 0 0, .slice none 0 0, .slice none 0 0, .int .i64 0].toArray 90), (b1, .cells [r_v0, .int .i64 r.Canopy.Frame.Low, .int .i64 r.Canopy.Frame.High, .int .i64 r.Canopy.Frame.Ease.Num, .int .i64 r.Canopy.Frame.Ease.Den, .int .i64 r.Canopy.Frame.Rod, .int .i64 r.Canopy.Frame.Case, r_v7, r_v8, r_v9, r_v10, .int .i64 r.Wrong].toArray 90)] ∧ gs = [⟨v108, 206, 2, 0, []⟩, ⟨v101, 98, 3, 0, []⟩, ⟨y4_v2, 3, 1, y4.Shares.length, y4_xs2⟩, ⟨y4_v1, 39, 2, y4.Ribs.length, y4_xs1⟩, ⟨y4_v0, 68, 7, y4.Frame.Sections.length, y4_xs0⟩] ∧ HSub H5 H134) ?_ ?_
 ·rintro H134 f bs gs ⟨v108, v101, hf2, hf3, hf9, hf11, hf13, hf15, rfl, rfl, hs134⟩
  refine (JA.norm (i := 2) hf2 (JA.norm (i := 3) hf3 (JA.norm (i := 9) hf9 (JA.norm (i := 11) hf11 (JA.norm (i := 13) hf13 (JA.norm (i := 15) hf15 ?_))))))
  refine JA.many [3] (by kernel_rfl) (by simp) (all_one ⟨_, #[true, true, true, true, true, true, true, false, false, false, false, false], rfl, (by kernel_rfl), ?_⟩)
  refine JL.appD (R := R_Blow) 1 (l := ([] : List Blow)) (m := r.Blows) ap_87 rfl ⟨rfl, rfl⟩ rfl CH.nil rfl (SL.mono R_Blow_mono (HSub.trans hs5 hs134) hr_9) (R_Blow_one _) hl15 .none rfl ?_
  intro v135 xs136 hch137
  refine JA.after hE hs134 (.cons _ (.cons_cons _ (.cons_cons _ (List.nil_sublist _)))) ?_
  refine JA.take 8 (listed' := #[true, true, true, true, true, true, true, false, true, false, false, false]) hQ rfl (by kernel_rfl) (by kernel_rfl) (by kernel_rfl) (by kernel_rfl) (by kernel_rfl) hE hs134 (.cons _ (.cons_cons _ (.cons_cons _ (List.nil_sublist _)))) ?_
  refine JL.fieldAddr fo_90_1 rfl .none rfl ?_
  refine JA.cont ?_
  exact nd121_0 _ _ _ _ ⟨v108, v135, xs136, rfl, rfl, rfl, rfl, rfl, rfl, rfl, rfl, hch137, hs134⟩
 intro nd121_1
 refine JA.take 1 (listed' := #[false, true, false, false, false, false, false, false, false, false, false, false]) hQ rfl (by kernel_rfl) (by kernel_rfl) (by kernel_rfl) (by kernel_rfl) (by kernel_rfl) hE (HSub.refl _) (.cons _ (.cons_cons _ (.cons_cons _ (List.nil_sublist _)))) ?_
 refine JL.fieldAddr fo_90_1 rfl .none rfl ?_
 refine JA.cont ?_
 refine JA.take 2 (listed' := #[false, true, true, false, false, false, false, false, false, false, false, false]) hQ rfl (by kernel_rfl) (by kernel_rfl) (by kernel_rfl) (by kernel_rfl) (by kernel_rfl) hE (HSub.refl _) (.cons _ (.cons_cons _ (.cons_cons _ (List.nil_sublist _)))) ?_
 refine JL.loadOwn 1 az_87 rfl rfl rfl .none rfl ?_
 refine JA.cont ?_
 refine JA.take 5 (listed' := #[false, true, true, false, false, true, false, false, false, false, false, false]) hQ rfl (by kernel_rfl) (by kernel_rfl) (by kernel_rfl) (by kernel_rfl) (by kernel_rfl) hE (HSub.refl _) (.cons _ (.cons_cons _ (.cons_cons _ (List.nil_sublist _)))) ?_
 refine JL.fieldAddr fo_90_2 rfl .none rfl ?_
 refine JA.cont ?_
 refine JA.take 6 (listed' := #[false, true, true, false, false, true, true, false, false, false, false, false]) hQ rfl (by kernel_rfl) (by kernel_rfl) (by kernel_rfl) (by kernel_rfl) (by kernel_rfl) hE (HSub.refl _) (.cons _ (.cons_cons _ (.cons_cons _ (List.nil_sublist _)))) ?_
 refine JL.loadOwn 1 az_88 rfl rfl rfl .none rfl ?_
 refine JA.cont ?_
 refine JA.many [0, 4] (by kernel_rfl) (by simp) (all_cons ⟨_, #[true, true, true, false, false, true, true, false, false, false, false, false], rfl, (by kernel_rfl), ?_⟩ (all_one ⟨_, #[false, true, true, false, true, true, true, false, false, false, false, false], rfl, (by kernel_rfl), ?_⟩))
 ·skip
  refine JL.emptySlice ap_87 .none rfl ?_
  intro v138
  refine JA.after hE (HSub.refl _) (.cons _ (.cons_cons _ (.cons_cons _ (List.nil_sublist _)))) ?_
  refine JA.many [3, 4] (by kernel_rfl) (by simp) (all_cons ⟨_, #[true, true, true, true, false, true, true, false, false, false, false, false], rfl, (by kernel_rfl), ?_⟩ (all_one ⟨_, #[true, true, true, false, true, true, true, false, false, false, false, false], rfl, (by kernel_rfl), ?_⟩))
  ·skip
   refine JL.appD (R := R_Blow) 0 (l := ([] : List Blow)) (m := r.Blows) ap_87 rfl ⟨rfl, rfl⟩ rfl CH.nil rfl (SL.mono R_Blow_mono hs5 hr_9) (R_Blow_one _) hl15 .none rfl ?_
   intro v140 xs141 hch142
   refine JA.after hE (HSub.refl _) (.cons _ (.cons_cons _ (.cons_cons _ (List.nil_sublist _)))) ?_
   refine JA.take 8 (listed' := #[true, true, true, true, false, true, true, false, true, false, false, false]) hQ rfl (by kernel_rfl) (by kernel_rfl) (by kernel_rfl) (by kernel_rfl) (by kernel_rfl) hE (HSub.refl _) (.cons _ (.cons_cons _ (.cons_cons _ (List.nil_sublist _)))) ?_
   refine JL.fieldAddr fo_90_1 rfl .none rfl ?_
   refine JA.cont ?_
   refine JA.many [4] (by kernel_rfl) (by simp) (all_one ⟨_, #[true, true, true, true, true, true, true, false, true, false, false, false], rfl, (by kernel_rfl), ?_⟩)
   refine JL.emptySlice ap_88 .none rfl ?_
   intro v143
   refine JA.after hE (HSub.refl _) (.cons _ (.cons_cons _ (.cons_cons _ (List.nil_sublist _)))) ?_
   exact nd121_0 _ _ _ _ ⟨v143, v140, xs141, rfl, rfl, rfl, rfl, rfl, rfl, rfl, rfl, hch142, (HSub.refl _)⟩
  ·skip
   refine JL.emptySlice ap_88 .none rfl ?_
   intro v145
   refine JA.after hE (HSub.refl _) (.cons _ (.cons_cons _ (.cons_cons _ (List.nil_sublist _)))) ?_
   exact nd121_1 _ _ _ _ ⟨v145, v138, rfl, rfl, rfl, rfl, rfl, rfl, rfl, rfl, (HSub.refl _)⟩
 ·skip
  refine JL.emptySlice ap_88 .none rfl ?_
  intro v147
  refine JA.after hE (HSub.refl _) (.cons _ (.cons_cons _ (.cons_cons _ (List.nil_sublist _)))) ?_
  refine JA.many [0] (by kernel_rfl) (by simp) (all_one ⟨_, #[true, true, true, false, true, true, true, false, false, false, false, false], rfl, (by kernel_rfl), ?_⟩)
  refine JL.emptySlice ap_87 .none rfl ?_
  intro v149
  refine JA.after hE (HSub.refl _) (.cons _ (.cons_cons _ (.cons_cons _ (List.nil_sublist _)))) ?_
  refine JA.permG (swapAt_perm 0 _) ?_
  exact nd121_1 _ _ _ _ ⟨v147, v149, rfl, rfl, rfl, rfl, rfl, rfl, rfl, rfl, (HSub.refl _)⟩
-- 224 (ferrule/gusts.blown).stands$1
def F_gusts_blown_stands_1 (n : Nat) (g : Gust) (c_0 : gusts_blown) : Option Bool :=
 (F_gusts_blown_first n c_0 g).bind fun y2 => some (y2 != 0)
theorem c_gusts_blown_stands_1 (n : Nat) (H : Hp) (g : Gust) (c_0 : gusts_blown) (c_0_v1 : Value) (hc_0_1 : SL H 1 RInt c_0_v1 c_0.ribs) (c_0_v2 : Value) (hc_0_2 : SL H 1 RInt c_0_v2 c_0.shares) (c_0_b : Nat) (c_0_c : Cells H c_0_b 0 [.int .i64 c_0.lift, c_0_v1, c_0_v2]) (y : Bool) (hF : F_gusts_blown_stands_1 n g c_0 = some y) : SC Try.prog 224 [.agg [.int .i64 g.Force, .int .i64 g.At].toArray, .pointer (some ⟨c_0_b, 0, none⟩)] (.bool y) H := by
 rw [F_gusts_blown_stands_1] at hF
 refine SC.of (N := 8) Try.func224 rfl rfl rfl fun w => ?_
 refine JC.seq (JC.region (by rfl) ?_)
 intro hQ
 refine JL.box (cs := [.int .i64 g.Force, .int .i64 g.At]) rfl .none rfl ?_
 intro b1
 refine JL.assign .none rfl ?_
 refine JL.done hQ (JQ.go (JC.seq (JC.region (by rfl) ?_)))
 intro hQ
 refine JL.loadH 0 az_156 rfl c_0_c rfl .none rfl ?_
 refine JL.loadOwn 0 az_86 rfl rfl rfl .none rfl ?_
 obtain ⟨y2, hy2, hF⟩ := bind_some hF
 refine JL.callS (c_gusts_blown_first n H c_0 c_0_v1 hc_0_1 c_0_v2 hc_0_2 g y2 hy2) rfl en_89 .none rfl ?_
 refine JL.bin rfl rfl rfl .none rfl ?_
 refine JL.assign .none rfl ?_
 refine JL.done hQ (JQ.go (JC.ret ?_))
 obtain rfl := Option.some.inj hF
 exact JQ.outS rfl (.tmp .nil) rfl
-- 186 (ferrule/gusts.blown).stands
def F_gusts_blown_stands (n : Nat) (b : gusts_blown) (class_ : List Gust) : Option Bool :=
 (F_slices_ContainsFunc___api_Gust_api_Gust_ n class_ (fun a0_ => F_gusts_blown_stands_1 n a0_ b)).bind fun y4 => some (!y4)
theorem c_gusts_blown_stands (n : Nat) (H : Hp) (b : gusts_blown) (b_v1 : Value) (hb_1 : SL H 1 RInt b_v1 b.ribs) (b_v2 : Value) (hb_2 : SL H 1 RInt b_v2 b.shares) (class_ : List Gust) (class__v0 : Value) (hclass__0 : SL H 2 R_Gust class__v0 class_) (y : Bool) (hF : F_gusts_blown_stands n b class_ = some y) : SC Try.prog 186 [.agg [.int .i64 b.lift, b_v1, b_v2].toArray, class__v0] (.bool y) H := by
 rw [F_gusts_blown_stands] at hF
 refine SC.of (N := 9) Try.func186 rfl rfl rfl fun w => ?_
 refine JC.seq (JC.region (by rfl) ?_)
 intro hQ
 refine JL.box (cs := [.int .i64 b.lift, b_v1, b_v2]) rfl .none rfl ?_
 intro b1
 refine JL.assign .none rfl ?_
 refine JL.done hQ (JQ.go (JC.seq (JC.region (by rfl) ?_)))
 intro hQ
 refine JL.move .none rfl ?_
 refine JL.makeFunc .none rfl ?_
 refine JL.freezeC 0 (l := [.int .i64 b.lift, b_v1, b_v2]) rfl ?_
 intro H2 hs2 hc3
 obtain ⟨y4, hy4, hF⟩ := bind_some hF
 refine JL.callS (c_slices_ContainsFunc___api_Gust_api_Gust_ n H2 class_ class__v0 (SL.mono R_Gust_mono hs2 hclass__0) (fun a0_ => F_gusts_blown_stands_1 n a0_ b) 224 [.pointer (some ⟨b1, 0, none⟩)] en_224 (fun H' hs' a0_ y' hy' => c_gusts_blown_stands_1 n H' a0_ b b_v1 (SL.mono RInt.mono hs' (SL.mono RInt.mono hs2 hb_1)) b_v2 (SL.mono RInt.mono hs' (SL.mono RInt.mono hs2 hb_2)) b1 (Cells.mono hs' hc3) y' hy') y4 hy4) rfl en_144 .none rfl ?_
 refine JL.not rfl .none rfl ?_
 refine JL.assign .none rfl ?_
 refine JL.done hQ (JQ.go (JC.ret ?_))
 obtain rfl := Option.some.inj hF
 exact JQ.outS rfl (.tmp .nil) rfl
-- 151 ferrule/gusts.Stands
def F_gusts_Stands (n : Nat) (d : Canopy) (class_ : List Gust) : Option (Int × Int) :=
 (F_gusts_ask n d class_).bind fun y2 => if (y2 != 0) = true then (some (0, y2)) else ((F_gusts_ends n d).bind fun y4 => (F_gusts_blown_stands n y4.2 class_).bind fun y9 => if y9 = true then (some (1, 0)) else ((F_gusts_blown_stands n y4.1 class_).bind fun y11 => if (!y11) = true then (some (2, 0)) else (some (3, 0))))
theorem c_gusts_Stands (n : Nat) (H : Hp) (d : Canopy) (d_v0 : Value) (hd_0 : SL H 7 R_Section d_v0 d.Frame.Sections) (d_v7 : Value) (hd_7 : SL H 2 R_Span d_v7 d.Ribs) (d_v8 : Value) (hd_8 : SL H 1 RInt d_v8 d.Shares) (class_ : List Gust) (class__v0 : Value) (hclass__0 : SL H 2 R_Gust class__v0 class_) (y : Int × Int) (hF : F_gusts_Stands n d class_ = some y) : SC Try.prog 151 [.agg [d_v0, .int .i64 d.Frame.Low, .int .i64 d.Frame.High, .int .i64 d.Frame.Ease.Num, .int .i64 d.Frame.Ease.Den, .int .i64 d.Frame.Rod, .int .i64 d.Frame.Case, d_v7, d_v8].toArray, class__v0] (.tuple [.int .i64 y.1, .int .i64 y.2].toArray) H := by
 rw [F_gusts_Stands] at hF
 refine SC.of (N := 29) Try.func151 rfl rfl rfl fun w => ?_
 refine JC.seq (JC.region (by rfl) ?_)
 intro hQ
 refine JL.box (cs := [d_v0, .int .i64 d.Frame.Low, .int .i64 d.Frame.High, .int .i64 d.Frame.Ease.Num, .int .i64 d.Frame.Ease.Den, .int .i64 d.Frame.Rod, .int .i64 d.Frame.Case, d_v7, d_v8]) rfl .none rfl ?_
 intro b1
 refine JL.assign .none rfl ?_
 refine JL.assign .none rfl ?_
 refine JL.done hQ (JQ.go (JC.seq (JC.seq (JC.region (by rfl) ?_))))
 intro hQ
 refine JL.loadOwn 0 az_76 rfl rfl rfl .none rfl ?_
 refine JL.move .none rfl ?_
 obtain ⟨y2, hy2, hF⟩ := bind_some hF
 refine JL.callS (c_gusts_ask n H d d_v0 hd_0 d_v7 hd_7 d_v8 hd_8 class_ class__v0 hclass__0 y2 hy2) rfl en_87 .none rfl ?_
 refine JL.assign .none rfl ?_
 refine JL.done hQ (JQ.go (JC.seq (JC.region (by rfl) ?_)))
 intro hQ
 refine JL.move .none rfl ?_
 refine JL.bin rfl rfl rfl .none rfl ?_
 refine JL.done hQ (JQ.go ?_)
 rcases ite_some hF with ⟨hc3, hF⟩ | ⟨hc3, hF⟩
 ·refine JC.cond_t (b := (y2 != 0)) rfl hc3 ?_
  refine JC.seq (JC.region (by rfl) ?_)
  intro hQ
  refine JL.move .none rfl ?_
  refine JL.assign .none rfl ?_
  refine JL.assign .none rfl ?_
  refine JL.done hQ (JQ.go (JC.ret (JQ.ret_then ?_)))
  obtain rfl := Option.some.inj hF
  exact JQ.outS rfl (.tmp (.tmp .nil)) rfl
 ·refine JC.cond_f (b := (y2 != 0)) rfl hc3 ?_
  refine JC.skip (JQ.go (JC.seq (JC.region (by rfl) ?_)))
  intro hQ
  refine JL.loadOwn 0 az_76 rfl rfl rfl .none rfl ?_
  obtain ⟨y4, hy4, hF⟩ := bind_some hF
  refine JL.callH (c_gusts_ends n H d d_v0 hd_0 d_v7 hd_7 d_v8 hd_8 y4 hy4) rfl en_88 .none rfl ?_
  rintro H5 vv6 hs5 ⟨y4a_v1, y4a_v2, y4b_v1, y4b_v2, rfl, hy4a_1, hy4a_2, hy4b_1, hy4b_2⟩
  refine JL.move .none rfl ?_
  refine JL.extract rfl rfl .none rfl ?_
  refine JL.extract rfl rfl .none rfl ?_
  refine JL.alloc ze_156 .none rfl ?_
  intro b7
  refine JL.alloc ze_156 .none rfl ?_
  intro b8
  refine JL.storeOwn 1 (cs := [.int .i64 y4.1.lift, y4a_v1, y4a_v2]) az_156 rfl rfl rfl (one_cons rfl (one_cons (SL.one hy4a_1) (one_cons (SL.one hy4a_2) one_nil))) rfl rfl .none ?_
  refine JL.storeOwn 0 (cs := [.int .i64 y4.2.lift, y4b_v1, y4b_v2]) az_156 rfl rfl rfl (one_cons rfl (one_cons (SL.one hy4b_1) (one_cons (SL.one hy4b_2) one_nil))) rfl rfl .none ?_
  refine JL.done hQ (JQ.go (JC.fresh (fun f => f 1 = class__v0 ∧ f 4 = .int .i64 0 ∧ f 5 = .int .i64 0 ∧ f 7 = .pointer (some ⟨b7, 0, none⟩) ∧ f 8 = .pointer (some ⟨b8, 0, none⟩)) ⟨rfl, rfl, rfl, rfl, rfl⟩ ?_))
  rintro f ⟨hf1, hf4, hf5, hf7, hf8⟩
  refine (JC.norm (i := 1) hf1 (JC.norm (i := 4) hf4 (JC.norm (i := 5) hf5 (JC.norm (i := 7) hf7 (JC.norm (i := 8) hf8 ?_)))))
  refine JC.seq (JC.block (JC.seq (JC.region (by rfl) ?_)))
  intro hQ
  refine JL.loadOwn 0 az_156 rfl rfl rfl .none rfl ?_
  refine JL.move .none rfl ?_
  obtain ⟨y9, hy9, hF⟩ := bind_some hF
  refine JL.callS (c_gusts_blown_stands n H5 y4.2 y4b_v1 hy4b_1 y4b_v2 hy4b_2 class_ class__v0 (SL.mono R_Gust_mono hs5 hclass__0) y9 hy9) rfl en_186 .none rfl ?_
  refine JL.assign .none rfl ?_
  refine JL.done hQ (JQ.go ?_)
  rcases ite_some hF with ⟨hc10, hF⟩ | ⟨hc10, hF⟩
  ·refine JC.cond_t (b := y9) rfl hc10 ?_
   refine JC.seq (JC.region (by rfl) ?_)
   intro hQ
   refine JL.assign .none rfl ?_
   refine JL.assign .none rfl ?_
   refine JL.done hQ (JQ.go (JC.ret (JQ.ret_block (JQ.ret_then ?_))))
   obtain rfl := Option.some.inj hF
   exact JQ.outS rfl (.tmp (.tmp .nil)) rfl
  ·refine JC.cond_f (b := y9) rfl hc10 ?_
   refine JC.seq (JC.region (by rfl) ?_)
   intro hQ
   refine JL.loadOwn 1 az_156 rfl rfl rfl .none rfl ?_
   refine JL.move .none rfl ?_
   obtain ⟨y11, hy11, hF⟩ := bind_some hF
   refine JL.callS (c_gusts_blown_stands n H5 y4.1 y4a_v1 hy4a_1 y4a_v2 hy4a_2 class_ class__v0 (SL.mono R_Gust_mono hs5 hclass__0) y11 hy11) rfl en_186 .none rfl ?_
   refine JL.not rfl .none rfl ?_
   refine JL.assign .none rfl ?_
   refine JL.done hQ (JQ.go (JC.fresh (fun f => f 4 = .int .i64 0 ∧ f 5 = .int .i64 0 ∧ f 24 = .bool (!y11)) ⟨rfl, rfl, rfl⟩ ?_))
   rintro f ⟨hf4, hf5, hf24⟩
   refine (JC.norm (i := 4) hf4 (JC.norm (i := 5) hf5 (JC.norm (i := 24) hf24 ?_)))
   rcases ite_some hF with ⟨hc12, hF⟩ | ⟨hc12, hF⟩
   ·refine JC.cond_t (b := (!y11)) rfl hc12 ?_
    refine JC.seq (JC.region (by rfl) ?_)
    intro hQ
    refine JL.assign .none rfl ?_
    refine JL.assign .none rfl ?_
    refine JL.done hQ (JQ.go (JC.ret (JQ.ret_block (JQ.ret_then ?_))))
    obtain rfl := Option.some.inj hF
    exact JQ.outS rfl (.tmp (.tmp .nil)) rfl
   ·refine JC.cond_f (b := (!y11)) rfl hc12 ?_
    refine JC.skip (JQ.normal_block (JQ.go (JC.seq (JC.region (by rfl) ?_))))
    intro hQ
    refine JL.assign .none rfl ?_
    refine JL.assign .none rfl ?_
    refine JL.done hQ (JQ.go (JC.ret ?_))
    obtain rfl := Option.some.inj hF
    exact JQ.outS rfl (.tmp (.tmp .nil)) rfl
-- 150 ferrule/counts.fells$1
def F_counts_fells_1 (n : Nat) (b : Blow) (force : Int) (m0 : Mp) (c_1 : Canopy) (c_2 : Bool) : Option (Bool × Mp) :=
 (kok 2 [force, b.At]).bind fun _ => (if ((mget m0 [force, b.At]) == 0) = true then ((F_gusts_Stands n c_1 [(Gust.mk force b.At)]).bind fun y43 => (kok 2 [force, b.At]).bind fun _ => some (mput m0 [force, b.At] y43.1)) else (some m0)).bind fun m_35 => (kok 2 [force, b.At]).bind fun _ => (if ((mget m_35 [force, b.At]) == 2) = true then (some true) else ((if (!c_2) = true then ((kok 2 [force, b.At]).bind fun _ => some ((mget m_35 [force, b.At]) == 3)) else (some false) : Option Bool).bind fun p79 => some p79) : Option Bool).bind fun p75 => some (p75, m_35)
theorem c_counts_fells_1 (n : Nat) (H : Hp) (b : Blow) (force : Int) (c_0_b bm : Nat) (c_0_c : Cells H c_0_b 0 [.map (some bm)]) (c_1 : Canopy) (c_1_v0 : Value) (hc_1_0 : SL H 7 R_Section c_1_v0 c_1.Frame.Sections) (c_1_v7 : Value) (hc_1_7 : SL H 2 R_Span c_1_v7 c_1.Ribs) (c_1_v8 : Value) (hc_1_8 : SL H 1 RInt c_1_v8 c_1.Shares) (c_1_b : Nat) (c_1_c : Cells H c_1_b 0 [c_1_v0, .int .i64 c_1.Frame.Low, .int .i64 c_1.Frame.High, .int .i64 c_1.Frame.Ease.Num, .int .i64 c_1.Frame.Ease.Den, .int .i64 c_1.Frame.Rod, .int .i64 c_1.Frame.Case, c_1_v7, c_1_v8]) (c_2 : Bool) (c_2_b : Nat) (c_2_c : Cells H c_2_b 0 [.bool c_2]) (J : Mp → Prop) (hole : H.hole = some (bm, fun o => ∃ es ck m, o = .map es ck ∧ MR 2 ekA m es ck ∧ J m)) (y : Bool) (hF : ∀ m0, J m0 → ∃ m1, J m1 ∧ F_counts_fells_1 n b force m0 c_1 c_2 = some (y, m1)) : SC Try.prog 150 [.agg [.int .i64 b.At, .int .i64 b.Force.Low, .int .i64 b.Force.High].toArray, .int .i64 force, .pointer (some ⟨c_0_b, 0, none⟩), .pointer (some ⟨c_1_b, 0, none⟩), .pointer (some ⟨c_2_b, 0, none⟩)] (.bool y) H := by
 refine SC.ofHole (N := 40) (J := J) Try.func150 rfl rfl rfl hole fun B H es0 ck0 m0 hsub hm0 hJ => ?_
 obtain ⟨m1_, hJ1, hF⟩ := hF m0 hJ
 refine ⟨m1_, hJ1, ?_⟩
 clear hole
 replace hc_1_0 := SL.fsub R_Section_fz hsub hc_1_0
 replace hc_1_7 := SL.fsub R_Span_fz hsub hc_1_7
 replace hc_1_8 := SL.fsub RInt.fz hsub hc_1_8
 replace c_0_c := Cells.fsub hsub c_0_c
 replace c_1_c := Cells.fsub hsub c_1_c
 replace c_2_c := Cells.fsub hsub c_2_c
 rw [F_counts_fells_1] at hF
 refine JC.seq (JC.region (by rfl) ?_)
 intro hQ
 refine JL.box (cs := [.int .i64 b.At, .int .i64 b.Force.Low, .int .i64 b.Force.High]) rfl .none rfl ?_
 intro b1
 refine JL.assign .none rfl ?_
 refine JL.done hQ (JQ.go (JC.seq (JC.region (by rfl) ?_)))
 intro hQ
 refine JL.move .none rfl ?_
 refine JL.fieldAddr fo_98_0 rfl .none rfl ?_
 refine JL.loadOwn 0 az_3 rfl rfl rfl .none rfl ?_
 refine JL.build (l := [.int .i64 force, .int .i64 b.At]) (by kernel_rfl) .none rfl ?_
 refine JL.alloc ze_86 .none rfl ?_
 intro b2
 refine JL.storeOwn 0 (cs := [.int .i64 force, .int .i64 b.At]) az_86 rfl rfl rfl (one_cons rfl (one_cons rfl one_nil)) rfl rfl .none ?_
 refine JL.done hQ (JQ.go (JC.seq (JC.seq (JC.region (by rfl) ?_))))
 intro hQ
 refine JL.loadH 0 az_214 rfl c_0_c rfl .none rfl ?_
 refine JL.loadOwn 0 az_86 rfl rfl rfl .none rfl ?_
 obtain ⟨u3, hu3, hF⟩ := bind_some hF
 refine JL.lookupM (k := [force, b.At]) mp_214 kt_86 rfl (.own 2 rfl) hm0 rfl hu3 .none rfl ?_
 refine JL.bin rfl rfl rfl .none rfl ?_
 refine JL.done hQ (JQ.go (JC.fresh (fun f => f 2 = .pointer (some ⟨c_0_b, 0, none⟩) ∧ f 3 = .pointer (some ⟨c_1_b, 0, none⟩) ∧ f 4 = .pointer (some ⟨c_2_b, 0, none⟩) ∧ f 7 = .bool false ∧ f 8 = .pointer (some ⟨b2, 0, none⟩) ∧ f 16 = .bool ((mget m0 [force, b.At]) == 0)) ⟨rfl, rfl, rfl, rfl, rfl, rfl⟩ ?_))
 rintro f ⟨hf2, hf3, hf4, hf7, hf8, hf16⟩
 refine (JC.norm (i := 2) hf2 (JC.norm (i := 3) hf3 (JC.norm (i := 4) hf4 (JC.norm (i := 7) hf7 (JC.norm (i := 8) hf8 (JC.norm (i := 16) hf16 ?_))))))
 obtain ⟨r37, hlr37, hKr37⟩ := bind_some hF
 refine JC.join (fun (m_35 : Mp) H36 f bs gs => ∃ (em_35 : Array MapEntry) (cm_35 : Nat), f 2 = .pointer (some ⟨c_0_b, 0, none⟩) ∧ f 4 = .pointer (some ⟨c_2_b, 0, none⟩) ∧ f 8 = .pointer (some ⟨b2, 0, none⟩) ∧ bs = [(b2, .cells [.int .i64 force, .int .i64 b.At].toArray 86), (bm, .map em_35 cm_35)] ∧ gs = [] ∧ MR 2 ekA m_35 em_35 cm_35 ∧ HSub H H36 ∧ m_35 = r37) ?_ ?_
 ·have hF := hlr37
  rcases ite_some hF with ⟨hc38, hF⟩ | ⟨hc38, hF⟩
  ·refine JC.cond_t (b := ((mget m0 [force, b.At]) == 0)) rfl hc38 ?_
   obtain ⟨y43, hy43, hF⟩ := bind_some hF
   obtain ⟨u44, hu44, hF⟩ := bind_some hF
   refine JC.mixed 10 10 #[false, false, false, false, false, false, false, false, false, false] [(b2, .cells [.int .i64 force, .int .i64 b.At].toArray 86), (b1, .cells [.int .i64 b.At, .int .i64 b.Force.Low, .int .i64 b.Force.High].toArray 98)] (by rfl) mo_ (by kernel_rfl) (by kernel_rfl) ?_
   intro hQ hE
   refine JA.take 0 (listed' := #[true, false, false, false, false, false, false, false, false, false]) hQ rfl (by kernel_rfl) (by kernel_rfl) (by kernel_rfl) (by kernel_rfl) (by kernel_rfl) hE (HSub.refl _) (.cons_cons _ (.cons_cons _ (.cons _ (List.nil_sublist _)))) ?_
   refine JL.loadH 0 az_214 rfl c_0_c rfl .none rfl ?_
   refine JA.cont ?_
   refine JA.take 1 (listed' := #[true, true, false, false, false, false, false, false, false, false]) hQ rfl (by kernel_rfl) (by kernel_rfl) (by kernel_rfl) (by kernel_rfl) (by kernel_rfl) hE (HSub.refl _) (.cons_cons _ (.cons_cons _ (.cons _ (List.nil_sublist _)))) ?_
   refine JL.loadOwn 0 az_86 rfl rfl rfl .none rfl ?_
   refine JA.cont ?_
   refine JA.take 2 (listed' := #[true, true, true, false, false, false, false, false, false, false]) hQ rfl (by kernel_rfl) (by kernel_rfl) (by kernel_rfl) (by kernel_rfl) (by kernel_rfl) hE (HSub.refl _) (.cons_cons _ (.cons_cons _ (.cons _ (List.nil_sublist _)))) ?_
   refine JL.loadH 0 az_76 rfl c_1_c rfl .none rfl ?_
   refine JA.cont ?_
   refine JA.take 3 (listed' := #[true, true, true, true, false, false, false, false, false, false]) hQ rfl (by kernel_rfl) (by kernel_rfl) (by kernel_rfl) (by kernel_rfl) (by kernel_rfl) hE (HSub.refl _) (.cons_cons _ (.cons_cons _ (.cons _ (List.nil_sublist _)))) ?_
   refine JL.loadOwn 0 az_86 rfl rfl rfl .none rfl ?_
   refine JA.cont ?_
   refine JA.many [4] (by kernel_rfl) (by simp) (all_one ⟨_, #[true, true, true, true, true, false, false, false, false, false], rfl, (by kernel_rfl), ?_⟩)
   refine JL.buildSlice (e := 86) (l := [.int .i64 force, .int .i64 b.At]) (by kernel_rfl) .none rfl ?_
   intro b62
   refine JA.after hE (HSub.refl _) (.cons _ (.cons_cons _ (.cons_cons _ (.cons _ (List.nil_sublist _))))) ?_
   refine JA.many [5] (by kernel_rfl) (by simp) (all_one ⟨_, #[true, true, true, true, true, true, false, false, false, false], rfl, (by kernel_rfl), ?_⟩)
   refine JL.freezeC 0 (l := [.int .i64 force, .int .i64 b.At]) rfl ?_
   intro H63 hs63 hc64
   have hg65 : SL H63 2 R_Gust (.slice (some ⟨b62, 0, none⟩) 1 1) [(Gust.mk force b.At)] := CH.sl (l := [(Gust.mk force b.At)]) (CH.cons (cs := [.int .i64 force, .int .i64 b.At]) rfl rfl CH.nil) hc64 ⟨by simp, by simp⟩
   refine JL.callS (c_gusts_Stands n H63 c_1 c_1_v0 (SL.mono R_Section_mono hs63 hc_1_0) c_1_v7 (SL.mono R_Span_mono hs63 hc_1_7) c_1_v8 (SL.mono RInt.mono hs63 hc_1_8) [(Gust.mk force b.At)] (.slice (some ⟨b62, 0, none⟩) 1 1) hg65 y43 hy43) rfl en_151 .none rfl ?_
   refine JA.after hE hs63 (.cons_cons _ (.cons_cons _ (.cons _ (List.nil_sublist _)))) ?_
   refine JA.take 6 (listed' := #[true, true, true, true, true, true, true, false, false, false]) hQ rfl (by kernel_rfl) (by kernel_rfl) (by kernel_rfl) (by kernel_rfl) (by kernel_rfl) hE hs63 (.cons_cons _ (.cons_cons _ (.cons _ (List.nil_sublist _)))) ?_
   refine JL.move .none rfl ?_
   refine JA.cont ?_
   refine JA.take 7 (listed' := #[true, true, true, true, true, true, true, true, false, false]) hQ rfl (by kernel_rfl) (by kernel_rfl) (by kernel_rfl) (by kernel_rfl) (by kernel_rfl) hE hs63 (.cons_cons _ (.cons_cons _ (.cons _ (List.nil_sublist _)))) ?_
   refine JL.extract rfl rfl .none rfl ?_
   refine JA.cont ?_
   refine JA.take 8 (listed' := #[true, true, true, true, true, true, true, true, true, false]) hQ rfl (by kernel_rfl) (by kernel_rfl) (by kernel_rfl) (by kernel_rfl) (by kernel_rfl) hE hs63 (.cons_cons _ (.cons_cons _ (.cons _ (List.nil_sublist _)))) ?_
   refine JL.extract rfl rfl .none rfl ?_
   refine JA.cont ?_
   refine JA.many [9] (by kernel_rfl) (by simp) (all_one ⟨_, #[true, true, true, true, true, true, true, true, true, true], rfl, (by kernel_rfl), ?_⟩)
   refine JL.updateM (k := [force, b.At]) 2 mp_214 kt_86 rfl rfl hm0 rfl hu44 rfl .none rfl ?_
   intro es66 ck67 hm68
   refine JA.after hE hs63 (.cons_cons _ (.cons_cons _ (.cons _ (List.nil_sublist _)))) ?_
   refine JA.done hQ (by kernel_rfl) ?_
   obtain rfl := Option.some.inj hF
   refine JQ.mask [true, false, true] [] ?_
   exact JQ.join (mput m0 [force, b.At] y43.1) ⟨es66, ck67, rfl, rfl, rfl, rfl, rfl, hm68, hs63, rfl⟩
  ·refine JC.cond_f (b := ((mget m0 [force, b.At]) == 0)) rfl hc38 ?_
   refine JC.skip ?_
   obtain rfl := Option.some.inj hF
   refine JQ.mask [true, false, true] [] ?_
   exact JQ.join m0 ⟨es0, ck0, rfl, rfl, rfl, rfl, rfl, hm0, (HSub.refl _), rfl⟩
 ·rintro m_35 H36 f bs gs ⟨em_35, cm_35, hf2, hf4, hf8, rfl, rfl, hm_35, hs36, rfl⟩
  have hF := hKr37
  try dsimp only at hF
  refine (JQ.norm (i := 2) hf2 (JQ.norm (i := 4) hf4 (JQ.norm (i := 8) hf8 ?_)))
  refine JQ.go (JC.seq (JC.region (by rfl) ?_))
  intro hQ
  refine JL.loadH 0 az_214 rfl (Cells.mono hs36 c_0_c) rfl .none rfl ?_
  refine JL.loadOwn 0 az_86 rfl rfl rfl .none rfl ?_
  obtain ⟨u69, hu69, hF⟩ := bind_some hF
  refine JL.lookupM (k := [force, b.At]) mp_214 kt_86 rfl (.own 1 rfl) hm_35 rfl hu69 .none rfl ?_
  refine JL.bin rfl rfl rfl .none rfl ?_
  refine JL.move .none rfl ?_
  obtain ⟨p75, hp75, hF⟩ := bind_some hF
  refine JL.cut 9 (fun f => f 39 = .bool p75) ?_ ?_
  ·intro hJ76
   rcases ite_some hp75 with ⟨hc77, hF⟩ | ⟨hc77, hF⟩
   ·skip
    refine JL.skip (.bool rfl rfl rfl hc77) rfl ?_
    refine JL.skip (.bool rfl rfl rfl hc77) rfl ?_
    refine JL.skip (.bool rfl rfl rfl hc77) rfl ?_
    refine JL.skip (.no rfl rfl rfl) rfl ?_
    refine JL.skip (.no rfl rfl rfl) rfl ?_
    refine JL.skip (.no rfl rfl rfl) rfl ?_
    refine JL.skip (.no rfl rfl rfl) rfl ?_
    refine JL.skip (.bool rfl rfl rfl hc77) rfl ?_
    refine JL.pick_t (b := ((mget m_35 [force, b.At]) == 2)) rfl hc77 .none rfl ?_
    obtain rfl := Option.some.inj hF
    exact hJ76 _ (rfl)
   ·skip
    refine JL.loadH 0 az_4 rfl (Cells.mono hs36 c_2_c) rfl (.some rfl rfl rfl hc77) rfl ?_
    refine JL.not rfl (.some rfl rfl rfl hc77) rfl ?_
    refine JL.move (.some rfl rfl rfl hc77) rfl ?_
    obtain ⟨p79, hp79, hF⟩ := bind_some hF
    refine JL.cut 5 (fun f => f 30 = .bool ((mget m_35 [force, b.At]) == 2) ∧ f 38 = .bool p79) ?_ ?_
    ·intro hJ80
     rcases ite_some hp79 with ⟨hc81, hF⟩ | ⟨hc81, hF⟩
     ·skip
      refine JL.loadH 0 az_214 rfl (Cells.mono hs36 c_0_c) rfl (.some rfl rfl rfl hc81) rfl ?_
      refine JL.loadOwn 0 az_86 rfl rfl rfl (.some rfl rfl rfl hc81) rfl ?_
      obtain ⟨u82, hu82, hF⟩ := bind_some hF
      refine JL.lookupM (k := [force, b.At]) mp_214 kt_86 rfl (.own 1 rfl) hm_35 rfl hu82 (.some rfl rfl rfl hc81) rfl ?_
      refine JL.bin rfl rfl rfl (.some rfl rfl rfl hc81) rfl ?_
      refine JL.pick_t (b := (!c_2)) rfl hc81 (.some rfl rfl rfl hc77) rfl ?_
      obtain rfl := Option.some.inj hF
      exact hJ80 _ ⟨rfl, rfl⟩
     ·skip
      refine JL.skip (.bool rfl rfl rfl hc81) rfl ?_
      refine JL.skip (.bool rfl rfl rfl hc81) rfl ?_
      refine JL.skip (.bool rfl rfl rfl hc81) rfl ?_
      refine JL.skip (.bool rfl rfl rfl hc81) rfl ?_
      refine JL.pick_f (b := (!c_2)) rfl hc81 (.some rfl rfl rfl hc77) rfl ?_
      obtain rfl := Option.some.inj hF
      exact hJ80 _ ⟨rfl, rfl⟩
    ·rintro f ⟨hf30, hf38⟩
     refine (JL.norm (i := 30) hf30 (JL.norm (i := 38) hf38 ?_))
     refine JL.pick_f (b := ((mget m_35 [force, b.At]) == 2)) rfl hc77 .none rfl ?_
     obtain rfl := Option.some.inj hF
     exact hJ76 _ (rfl)
  ·rintro f hf39
   refine (JL.norm (i := 39) hf39 ?_)
   refine JL.assign .none rfl ?_
   refine JL.done hQ (JQ.go (JC.ret ?_))
   obtain ⟨rfl, rfl⟩ := Prod.mk.inj (Option.some.inj hF)
   exact JQ.outK 1 rfl (.tmp .nil) rfl hs36 rfl hm_35
-- 99 ferrule/counts.fells
theorem c_counts_fells (n : Nat) (H : Hp) (d : Canopy) (d_v0 : Value) (hd_0 : SL H 7 R_Section d_v0 d.Frame.Sections) (d_v7 : Value) (hd_7 : SL H 2 R_Span d_v7 d.Ribs) (d_v8 : Value) (hd_8 : SL H 1 RInt d_v8 d.Shares) (surely : Bool) : XB Try.prog 99 [.agg [d_v0, .int .i64 d.Frame.Low, .int .i64 d.Frame.High, .int .i64 d.Frame.Ease.Num, .int .i64 d.Frame.Ease.Den, .int .i64 d.Frame.Rod, .int .i64 d.Frame.Case, d_v7, d_v8].toArray, .bool surely] H (fun H' v bs' => ∃ bm b1 b2 b3, v = .func (.func 150) #[] [.pointer (some ⟨b1, 0, none⟩), .pointer (some ⟨b2, 0, none⟩), .pointer (some ⟨b3, 0, none⟩)].toArray ∧ bs' = [(bm, .map #[] 0)] ∧ Cells H' b1 0 [.map (some bm)] ∧ Cells H' b2 0 [d_v0, .int .i64 d.Frame.Low, .int .i64 d.Frame.High, .int .i64 d.Frame.Ease.Num, .int .i64 d.Frame.Ease.Den, .int .i64 d.Frame.Rod, .int .i64 d.Frame.Case, d_v7, d_v8] ∧ Cells H' b3 0 [.bool surely]) := by
 refine XB.of (N := 8) Try.func99 rfl rfl rfl fun w => ?_
 refine JC.seq (JC.region (by rfl) ?_)
 intro hQ
 refine JL.box (cs := [d_v0, .int .i64 d.Frame.Low, .int .i64 d.Frame.High, .int .i64 d.Frame.Ease.Num, .int .i64 d.Frame.Ease.Den, .int .i64 d.Frame.Rod, .int .i64 d.Frame.Case, d_v7, d_v8]) rfl .none rfl ?_
 intro b2
 refine JL.box (cs := [.bool surely]) rfl .none rfl ?_
 intro b3
 refine JL.assign .none rfl ?_
 refine JL.done hQ (JQ.go (JC.seq (JC.region (by rfl) ?_)))
 intro hQ
 refine JL.makeMap .none rfl ?_
 intro bm
 refine JL.alloc ze_214 .none rfl ?_
 intro b1
 refine JL.storeOwn 0 (cs := [.map (some bm)]) az_214 rfl rfl rfl (one_cons rfl one_nil) rfl rfl .none ?_
 refine JL.done hQ (JQ.go (JC.seq (JC.region (by rfl) ?_)))
 intro hQ
 refine JL.makeFunc .none rfl ?_
 refine JL.assign .none rfl ?_
 refine JL.done hQ (JQ.go (JC.ret (JQ.freezeC 0 (l := [.map (some bm)]) rfl ?_)))
 intro H1 hs1 hc1
 refine JQ.freezeC 1 (l := [.bool surely]) rfl ?_
 intro H2 hs2 hc2
 refine JQ.freezeC 1 (l := [d_v0, .int .i64 d.Frame.Low, .int .i64 d.Frame.High, .int .i64 d.Frame.Ease.Num, .int .i64 d.Frame.Ease.Den, .int .i64 d.Frame.Rod, .int .i64 d.Frame.Case, d_v7, d_v8]) rfl ?_
 intro H3 hs3 hc3
 exact JQ.outB rfl (.tmp .nil) ⟨bm, b1, b2, b3, rfl, rfl, Cells.mono hs3 (Cells.mono hs2 hc1), hc3, Cells.mono hs3 hc2⟩
end Go.Proofs.Yteihdclpiekmaaa
end
