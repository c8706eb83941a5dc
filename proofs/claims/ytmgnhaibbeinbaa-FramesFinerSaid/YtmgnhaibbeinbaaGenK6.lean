/-
  Printed by a program: functions of the translation as plain functions, and their contracts.
-/
import Derived.Test.YtmgnhaibbeinbaaGenK5
namespace Go.Proofs.Ytmgnhaibbeinbaa
open Go Go.RowKit Go.Dec
set_option linter.unusedVariables false
-- 66 ferrule/ferruleref01.binds
def F_ref01_binds_s1 (n : Nat) (f_ : Frame) (section_ : Int) (r : Int) (y2 : (List ref01_Pair)) : Int × Int → Option ((Int × Int) ⊕ Int)
  | (some_114, i_115) => if decide (i_115 < (y2.length : Int)) = true then ((geti y2 i_115).bind fun y126 => (F_ref01_BindsAt n f_ section_ r y126).bind fun y131 => (if y131 = true then (some (w64 (some_114 + 1))) else (some some_114)).bind fun some_133 => some (Sum.inl (some_133, (w64 (i_115 + 1))))) else (some (Sum.inr some_114))
def F_ref01_binds (n : Nat) (f_ : Frame) (section_ : Int) (r : Int) : Option (Int × Int) :=
  (F_ref01_Pairs n f_ section_).bind fun y2 => (loopO n (F_ref01_binds_s1 n f_ section_ r y2) (0, 0)).bind fun some_69 => some (some_69, (y2.length : Int))
set_option maxRecDepth 100000 in
set_option maxHeartbeats 40000000 in
theorem c_ref01_binds (n : Nat) (H : Hp) (f_ : Frame) (f__v0 : Value) (hf__0 : SL H 7 R_Section f__v0 f_.Sections) (section_ : Int) (r : Int) (y : Int × Int) (hF : F_ref01_binds n f_ section_ r = some y) : SC Try.prog 66 [.agg [f__v0, .int .i64 f_.Low, .int .i64 f_.High, .int .i64 f_.Ease.Num, .int .i64 f_.Ease.Den, .int .i64 f_.Rod, .int .i64 f_.Case].toArray, .int .i64 section_, .int .i64 r] (.tuple [.int .i64 y.1, .int .i64 y.2].toArray) H := by
  rw [F_ref01_binds] at hF
  refine SC.of (N := 32) Try.func66 rfl rfl rfl fun w => ?_
  refine JC.seq ?_
  refine JC.region (by rfl) ?_
  intro hQ
  refine JL.box (cs := [f__v0, .int .i64 f_.Low, .int .i64 f_.High, .int .i64 f_.Ease.Num, .int .i64 f_.Ease.Den, .int .i64 f_.Rod, .int .i64 f_.Case]) rfl .none rfl ?_
  intro b1
  refine JL.assign .none rfl ?_
  refine JL.assign .none rfl ?_
  refine JL.done hQ ?_
  refine JQ.go ?_
  refine JC.seq ?_
  refine JC.region (by rfl) ?_
  intro hQ
  refine JL.loadOwn 0 az_26 rfl rfl rfl .none rfl ?_
  refine JL.move .none rfl ?_
  obtain ⟨y2, hy2, hF⟩ := bind_some hF
  refine JL.callH (c_ref01_Pairs n H f_ f__v0 hf__0 section_ y2 hy2) rfl en_25 .none rfl ?_
  intro H3 y2a_v0 hs3 hy2a_0
  refine JL.assign .none rfl ?_
  refine JL.done hQ ?_
  refine JQ.go ?_
  refine JC.seq ?_
  refine JC.seq ?_
  refine JC.region (by rfl) ?_
  intro hQ
  refine JL.assign .none rfl ?_
  refine JL.done hQ ?_
  refine JQ.go ?_
  obtain ⟨r71, hlr71, hKr71⟩ := bind_some hF
  refine JC.join (fun (some_69 : Int) H70 f bs gs => f 6 = .int .i64 some_69 ∧ f 8 = y2a_v0 ∧ bs = [] ∧ gs = [] ∧ HSub H3 H70 ∧ some_69 = r71) ?_ ?_
  · skip
    refine JC.block ?_
    refine JC.loop hlr71 (fun (x : Int × Int) H116 f bs gs => match x with | (some_114, i_115) => f 1 = .int .i64 section_ ∧ f 2 = .int .i64 r ∧ f 3 = .pointer (some ⟨b1, 0, none⟩) ∧ f 6 = .int .i64 some_114 ∧ f 8 = y2a_v0 ∧ f 9 = .int .i64 i_115 ∧ bs = [(b1, .cells [f__v0, .int .i64 f_.Low, .int .i64 f_.High, .int .i64 f_.Ease.Num, .int .i64 f_.Ease.Den, .int .i64 f_.Rod, .int .i64 f_.Case].toArray 26)] ∧ gs = [] ∧ HSub H3 H116) ⟨rfl, rfl, rfl, rfl, rfl, rfl, rfl, rfl, (HSub.refl _)⟩ ?_
    rintro ⟨some_114, i_115⟩ x118 H116 f bs gs ⟨hf1, hf2, hf3, hf6, hf8, hf9, rfl, rfl, hs116⟩ hF hr117
    rw [F_ref01_binds_s1] at hF
    refine (JC.norm (i := 1) hf1 (JC.norm (i := 2) hf2 (JC.norm (i := 3) hf3 (JC.norm (i := 6) hf6 (JC.norm (i := 8) hf8 (JC.norm (i := 9) hf9 ?_))))))
    refine JC.seq ?_
    refine JC.seq ?_
    refine JC.region (by rfl) ?_
    intro hQ
    refine JL.move .none rfl ?_
    refine JL.move .none rfl ?_
    refine JL.lenSL (R := R_ref01_Pair) ul_40 (SL.mono R_ref01_Pair_mono hs116 hy2a_0) .none rfl ?_
    refine JL.bin rfl rfl rfl .none rfl ?_
    refine JL.done hQ ?_
    refine JQ.go ?_
    rcases ite_some hF with ⟨hc119, hF⟩ | ⟨hc119, hF⟩
    · refine JC.cond_t (b := decide (i_115 < (y2.length : Int))) rfl hc119 ?_
      refine JC.skip ?_
      refine JQ.go ?_
      refine JC.seq ?_
      refine JC.block ?_
      refine JC.seq ?_
      refine JC.draw (by rfl) mo_ (by kernel_rfl) ?_
      intro hQ
      refine JL.loadOwn 0 az_26 rfl rfl rfl .none rfl ?_
      refine JL.move .none rfl ?_
      refine JL.move .none rfl ?_
      refine JL.move .none rfl ?_
      refine JL.move .none rfl ?_
      obtain ⟨y126, hy126, hF⟩ := bind_some hF
      refine JL.indexSL (R := R_ref01_Pair) sl_40 (SL.mono R_ref01_Pair_mono hs116 hy2a_0) rfl hy126 .none rfl ?_
      rintro b127 o128 cs129 hc130 - rfl
      refine JL.loadH 0 az_45 rfl hc130 rfl .none rfl ?_
      obtain ⟨y131, hy131, hF⟩ := bind_some hF
      refine JL.callS (c_ref01_BindsAt n H116 f_ f__v0 (SL.mono R_Section_mono (HSub.trans hs3 hs116) hf__0) section_ r y126 y131 hy131) rfl en_27 .none rfl ?_
      refine JL.doneQ hQ ?_
      refine JQ.go ?_
      refine JC.fresh (fun f => f 1 = .int .i64 section_ ∧ f 2 = .int .i64 r ∧ f 3 = .pointer (some ⟨b1, 0, none⟩) ∧ f 6 = .int .i64 some_114 ∧ f 8 = y2a_v0 ∧ f 9 = .int .i64 i_115 ∧ f 26 = .bool y131) ⟨rfl, rfl, rfl, rfl, rfl, rfl, rfl⟩ ?_
      rintro f ⟨hf1, hf2, hf3, hf6, hf8, hf9, hf26⟩
      refine (JC.norm (i := 1) hf1 (JC.norm (i := 2) hf2 (JC.norm (i := 3) hf3 (JC.norm (i := 6) hf6 (JC.norm (i := 8) hf8 (JC.norm (i := 9) hf9 (JC.norm (i := 26) hf26 ?_)))))))
      obtain ⟨r135, hlr135, hKr135⟩ := bind_some hF
      refine JC.join (fun (some_133 : Int) H134 f bs gs => f 1 = .int .i64 section_ ∧ f 2 = .int .i64 r ∧ f 3 = .pointer (some ⟨b1, 0, none⟩) ∧ f 6 = .int .i64 some_133 ∧ f 8 = y2a_v0 ∧ f 9 = .int .i64 i_115 ∧ bs = [(b1, .cells [f__v0, .int .i64 f_.Low, .int .i64 f_.High, .int .i64 f_.Ease.Num, .int .i64 f_.Ease.Den, .int .i64 f_.Rod, .int .i64 f_.Case].toArray 26)] ∧ gs = [] ∧ HSub H116 H134 ∧ some_133 = r135) ?_ ?_
      · have hF := hlr135
        rcases ite_some hF with ⟨hc136, hF⟩ | ⟨hc136, hF⟩
        · refine JC.cond_t (b := y131) rfl hc136 ?_
          refine JC.region (by rfl) ?_
          intro hQ
          refine JL.move .none rfl ?_
          refine JL.bin rfl rfl rfl .none rfl ?_
          refine JL.assign .none rfl ?_
          refine JL.done hQ ?_
          obtain rfl := Option.some.inj hF
          exact JQ.join (w64 (some_114 + 1)) ⟨rfl, rfl, rfl, rfl, rfl, rfl, rfl, rfl, (HSub.refl _), rfl⟩
        · refine JC.cond_f (b := y131) rfl hc136 ?_
          refine JC.skip ?_
          obtain rfl := Option.some.inj hF
          exact JQ.join some_114 ⟨rfl, rfl, rfl, rfl, rfl, rfl, rfl, rfl, (HSub.refl _), rfl⟩
      · rintro some_133 H134 f bs gs ⟨hf1, hf2, hf3, hf6, hf8, hf9, rfl, rfl, hs134, rfl⟩
        have hF := hKr135
        try dsimp only at hF
        refine (JQ.norm (i := 1) hf1 (JQ.norm (i := 2) hf2 (JQ.norm (i := 3) hf3 (JQ.norm (i := 6) hf6 (JQ.norm (i := 8) hf8 (JQ.norm (i := 9) hf9 ?_))))))
        refine JQ.normal_block ?_
        refine JQ.go ?_
        refine JC.region (by rfl) ?_
        intro hQ
        refine JL.move .none rfl ?_
        refine JL.bin rfl rfl rfl .none rfl ?_
        refine JL.assign .none rfl ?_
        refine JL.done hQ ?_
        obtain rfl := Option.some.inj hF
        exact JQ.next rfl ⟨rfl, rfl, rfl, rfl, rfl, rfl, rfl, rfl, (HSub.trans hs116 hs134)⟩
    · refine JC.cond_f (b := decide (i_115 < (y2.length : Int))) rfl hc119 ?_
      refine JC.exit ?_
      refine JQ.exit_then ?_
      refine JQ.exit_then ?_
      refine JQ.exit_block ?_
      obtain rfl := Option.some.inj hF
      have ehr117 := hr117 _ rfl
      subst ehr117
      refine JQ.mask [false] [] ?_
      exact JQ.join some_114 ⟨rfl, rfl, rfl, rfl, hs116, rfl⟩
  · rintro some_69 H70 f bs gs ⟨hf6, hf8, rfl, rfl, hs70, rfl⟩
    have hF := hKr71
    try dsimp only at hF
    refine (JQ.norm (i := 6) hf6 (JQ.norm (i := 8) hf8 ?_))
    refine JQ.go ?_
    refine JC.seq ?_
    refine JC.region (by rfl) ?_
    intro hQ
    refine JL.move .none rfl ?_
    refine JL.move .none rfl ?_
    refine JL.lenSL (R := R_ref01_Pair) ul_40 (SL.mono R_ref01_Pair_mono hs70 hy2a_0) .none rfl ?_
    refine JL.assign .none rfl ?_
    refine JL.assign .none rfl ?_
    refine JL.done hQ ?_
    refine JQ.go ?_
    refine JC.ret ?_
    obtain rfl := Option.some.inj hF
    exact JQ.outS rfl (.tmp (.tmp .nil)) rfl

-- 67 ferrule/ferruleref01.is
def F_ref01_is (n : Nat) (some_ : Int) (many : Int) : Option Int :=
  if (some_ == many) = true then (some 1) else (if (some_ == 0) = true then (some 2) else (some 3))
set_option maxRecDepth 100000 in
set_option maxHeartbeats 40000000 in
theorem c_ref01_is (n : Nat) (H : Hp) (some_ : Int) (many : Int) (y : Int) (hF : F_ref01_is n some_ many = some y) : SC Try.prog 67 [.int .i64 some_, .int .i64 many] (.int .i64 y) H := by
  rw [F_ref01_is] at hF
  refine SC.of (N := 11) Try.func67 rfl rfl rfl fun w => ?_
  refine JC.seq ?_
  refine JC.region (by rfl) ?_
  intro hQ
  refine JL.assign .none rfl ?_
  refine JL.done hQ ?_
  refine JQ.go ?_
  refine JC.seq ?_
  refine JC.seq ?_
  refine JC.region (by rfl) ?_
  intro hQ
  refine JL.move .none rfl ?_
  refine JL.done hQ ?_
  refine JQ.go ?_
  refine JC.block ?_
  refine JC.seq ?_
  refine JC.region (by rfl) ?_
  intro hQ
  refine JL.move .none rfl ?_
  refine JL.bin rfl rfl rfl .none rfl ?_
  refine JL.assign .none rfl ?_
  refine JL.done hQ ?_
  refine JQ.go ?_
  rcases ite_some hF with ⟨hc1, hF⟩ | ⟨hc1, hF⟩
  · refine JC.cond_t (b := (some_ == many)) rfl hc1 ?_
    refine JC.seq ?_
    refine JC.region (by rfl) ?_
    intro hQ
    refine JL.assign .none rfl ?_
    refine JL.done hQ ?_
    refine JQ.go ?_
    refine JC.ret ?_
    refine JQ.ret_block ?_
    refine JQ.ret_then ?_
    obtain rfl := Option.some.inj hF
    exact JQ.outS rfl (.tmp .nil) rfl
  · refine JC.cond_f (b := (some_ == many)) rfl hc1 ?_
    refine JC.seq ?_
    refine JC.region (by rfl) ?_
    intro hQ
    refine JL.bin rfl rfl rfl .none rfl ?_
    refine JL.assign .none rfl ?_
    refine JL.done hQ ?_
    refine JQ.go ?_
    rcases ite_some hF with ⟨hc2, hF⟩ | ⟨hc2, hF⟩
    · refine JC.cond_t (b := (some_ == 0)) rfl hc2 ?_
      refine JC.seq ?_
      refine JC.region (by rfl) ?_
      intro hQ
      refine JL.assign .none rfl ?_
      refine JL.done hQ ?_
      refine JQ.go ?_
      refine JC.ret ?_
      refine JQ.ret_block ?_
      refine JQ.ret_then ?_
      obtain rfl := Option.some.inj hF
      exact JQ.outS rfl (.tmp .nil) rfl
    · refine JC.cond_f (b := (some_ == 0)) rfl hc2 ?_
      refine JC.skip ?_
      refine JQ.normal_block ?_
      refine JQ.go ?_
      refine JC.seq ?_
      refine JC.region (by rfl) ?_
      intro hQ
      refine JL.assign .none rfl ?_
      refine JL.done hQ ?_
      refine JQ.go ?_
      refine JC.ret ?_
      obtain rfl := Option.some.inj hF
      exact JQ.outS rfl (.tmp .nil) rfl

-- 21 ferrule/ferruleref01.Binds
def F_ref01_Binds (n : Nat) (f_ : Frame) (section_ : Int) (r : Int) : Option (Int × Int) :=
  (F_ref01_IsSection n f_ section_).bind fun y9 => (if y9 = true then ((F_ref01_IsPosition n f_ r).bind fun y14 => some y14) else (some false) : Option Bool).bind fun p11 => (F_ref01_check n f_ p11).bind fun y15 => if (y15 != 0) = true then (some (0, y15)) else ((F_ref01_binds n f_ section_ r).bind fun y17 => (F_ref01_is n y17.1 y17.2).bind fun y18 => some (y18, 0))
set_option maxRecDepth 100000 in
set_option maxHeartbeats 40000000 in
theorem c_ref01_Binds (n : Nat) (H : Hp) (f_ : Frame) (f__v0 : Value) (hf__0 : SL H 7 R_Section f__v0 f_.Sections) (section_ : Int) (r : Int) (y : Int × Int) (hF : F_ref01_Binds n f_ section_ r = some y) : SC Try.prog 21 [.agg [f__v0, .int .i64 f_.Low, .int .i64 f_.High, .int .i64 f_.Ease.Num, .int .i64 f_.Ease.Den, .int .i64 f_.Rod, .int .i64 f_.Case].toArray, .int .i64 section_, .int .i64 r] (.tuple [.int .i64 y.1, .int .i64 y.2].toArray) H := by
  rw [F_ref01_Binds] at hF
  refine SC.of (N := 34) Try.func21 rfl rfl rfl fun w => ?_
  refine JC.seq ?_
  refine JC.region (by rfl) ?_
  intro hQ
  refine JL.box (cs := [f__v0, .int .i64 f_.Low, .int .i64 f_.High, .int .i64 f_.Ease.Num, .int .i64 f_.Ease.Den, .int .i64 f_.Rod, .int .i64 f_.Case]) rfl .none rfl ?_
  intro b1
  refine JL.assign .none rfl ?_
  refine JL.assign .none rfl ?_
  refine JL.done hQ ?_
  refine JQ.go ?_
  refine JC.seq ?_
  refine JC.seq ?_
  refine JC.draw (by rfl) mo_ (by kernel_rfl) ?_
  intro hQ
  refine JL.loadOwn 0 az_26 rfl rfl rfl .none rfl ?_
  refine JL.loadOwn 0 az_26 rfl rfl rfl .none rfl ?_
  refine JL.move .none rfl ?_
  obtain ⟨y9, hy9, hF⟩ := bind_some hF
  refine JL.callS (c_ref01_IsSection n H f_ f__v0 hf__0 section_ y9 hy9) rfl en_40 .none rfl ?_
  refine JL.move .none rfl ?_
  obtain ⟨p11, hp11, hF⟩ := bind_some hF
  refine JL.cut 4 (fun f => f 1 = .int .i64 section_ ∧ f 2 = .int .i64 r ∧ f 3 = .pointer (some ⟨b1, 0, none⟩) ∧ f 11 = .agg [f__v0, .int .i64 f_.Low, .int .i64 f_.High, .int .i64 f_.Ease.Num, .int .i64 f_.Ease.Den, .int .i64 f_.Rod, .int .i64 f_.Case].toArray ∧ f 19 = .bool p11) ?_ ?_
  · intro hJ12
    rcases ite_some hp11 with ⟨hc13, hF⟩ | ⟨hc13, hF⟩
    · skip
      refine JL.loadOwn 0 az_26 rfl rfl rfl (.some rfl rfl rfl hc13) rfl ?_
      refine JL.move (.some rfl rfl rfl hc13) rfl ?_
      obtain ⟨y14, hy14, hF⟩ := bind_some hF
      refine JL.callS (c_ref01_IsPosition n H f_ f__v0 hf__0 r y14 hy14) rfl en_59 (.some rfl rfl rfl hc13) rfl ?_
      refine JL.pick_t (b := y9) rfl hc13 .none rfl ?_
      obtain rfl := Option.some.inj hF
      exact hJ12 _ ⟨rfl, rfl, rfl, rfl, rfl⟩
    · skip
      refine JL.skip (.bool rfl rfl rfl hc13) rfl ?_
      refine JL.skip (.bool rfl rfl rfl hc13) rfl ?_
      refine JL.skip (.bool rfl rfl rfl hc13) rfl ?_
      refine JL.pick_f (b := y9) rfl hc13 .none rfl ?_
      obtain rfl := Option.some.inj hF
      exact hJ12 _ ⟨rfl, rfl, rfl, rfl, rfl⟩
  · rintro f ⟨hf1, hf2, hf3, hf11, hf19⟩
    refine (JL.norm (i := 1) hf1 (JL.norm (i := 2) hf2 (JL.norm (i := 3) hf3 (JL.norm (i := 11) hf11 (JL.norm (i := 19) hf19 ?_)))))
    obtain ⟨y15, hy15, hF⟩ := bind_some hF
    refine JL.callS (c_ref01_check n H f_ f__v0 hf__0 p11 y15 hy15) rfl en_58 .none rfl ?_
    refine JL.assign .none rfl ?_
    refine JL.doneQ hQ ?_
    refine JQ.go ?_
    refine JC.seq ?_
    refine JC.region (by rfl) ?_
    intro hQ
    refine JL.move .none rfl ?_
    refine JL.bin rfl rfl rfl .none rfl ?_
    refine JL.done hQ ?_
    refine JQ.go ?_
    rcases ite_some hF with ⟨hc16, hF⟩ | ⟨hc16, hF⟩
    · refine JC.cond_t (b := (y15 != 0)) rfl hc16 ?_
      refine JC.seq ?_
      refine JC.region (by rfl) ?_
      intro hQ
      refine JL.move .none rfl ?_
      refine JL.assign .none rfl ?_
      refine JL.assign .none rfl ?_
      refine JL.done hQ ?_
      refine JQ.go ?_
      refine JC.ret ?_
      refine JQ.ret_then ?_
      obtain rfl := Option.some.inj hF
      exact JQ.outS rfl (.tmp (.tmp .nil)) rfl
    · refine JC.cond_f (b := (y15 != 0)) rfl hc16 ?_
      refine JC.skip ?_
      refine JQ.go ?_
      refine JC.seq ?_
      refine JC.region (by rfl) ?_
      intro hQ
      refine JL.loadOwn 0 az_26 rfl rfl rfl .none rfl ?_
      refine JL.move .none rfl ?_
      refine JL.move .none rfl ?_
      obtain ⟨y17, hy17, hF⟩ := bind_some hF
      refine JL.callS (c_ref01_binds n H f_ f__v0 hf__0 section_ r y17 hy17) rfl en_66 .none rfl ?_
      refine JL.move .none rfl ?_
      refine JL.extract rfl rfl .none rfl ?_
      refine JL.extract rfl rfl .none rfl ?_
      refine JL.assign .none rfl ?_
      refine JL.assign .none rfl ?_
      refine JL.done hQ ?_
      refine JQ.go ?_
      refine JC.fresh (fun f => f 9 = .int .i64 y17.1 ∧ f 10 = .int .i64 y17.2) ⟨rfl, rfl⟩ ?_
      rintro f ⟨hf9, hf10⟩
      refine (JC.norm (i := 9) hf9 (JC.norm (i := 10) hf10 ?_))
      refine JC.seq ?_
      refine JC.region (by rfl) ?_
      intro hQ
      refine JL.move .none rfl ?_
      refine JL.move .none rfl ?_
      obtain ⟨y18, hy18, hF⟩ := bind_some hF
      refine JL.callS (c_ref01_is n H y17.1 y17.2 y18 hy18) rfl en_67 .none rfl ?_
      refine JL.assign .none rfl ?_
      refine JL.assign .none rfl ?_
      refine JL.done hQ ?_
      refine JQ.go ?_
      refine JC.ret ?_
      obtain rfl := Option.some.inj hF
      exact JQ.outS rfl (.tmp (.tmp .nil)) rfl

-- 22 ferrule/ferrulelaw01.same
def F_law01_same_s1 (n : Nat) (a : Frame) (b : Frame) : Int → Option (Int ⊕ (Bool ⊕ Unit))
  | i_138 => if decide (i_138 < (a.Sections.length : Int)) = true then ((geti a.Sections i_138).bind fun y153 => (geti b.Sections i_138).bind fun y158 => if (!((y153.Arm.Low == y158.Arm.Low) && ((y153.Arm.High == y158.Arm.High) && ((y153.Stretch.Low == y158.Stretch.Low) && ((y153.Stretch.High == y158.Stretch.High) && ((y153.Base == y158.Base) && ((y153.Gear.Num == y158.Gear.Num) && (y153.Gear.Den == y158.Gear.Den)))))))) = true then (some (Sum.inr (Sum.inl false))) else (some (Sum.inl (w64 (i_138 + 1))))) else (some (Sum.inr (Sum.inr ())))
def F_law01_same (n : Nat) (a : Frame) (b : Frame) : Option Bool :=
  if (((((((a.Sections.length : Int) != (b.Sections.length : Int)) || (a.Low != b.Low)) || (a.High != b.High)) || (!((a.Ease.Num == b.Ease.Num) && (a.Ease.Den == b.Ease.Den)))) || (a.Rod != b.Rod)) || (a.Case != b.Case)) = true then (some false) else ((loopO n (F_law01_same_s1 n a b) 0).bind fun r89 => match r89 with | .inl o => some o | .inr _ => some true)
set_option maxRecDepth 100000 in
set_option maxHeartbeats 40000000 in
theorem c_law01_same (n : Nat) (H : Hp) (a : Frame) (a_v0 : Value) (ha_0 : SL H 7 R_Section a_v0 a.Sections) (b : Frame) (b_v0 : Value) (hb_0 : SL H 7 R_Section b_v0 b.Sections) (y : Bool) (hF : F_law01_same n a b = some y) : SC Try.prog 22 [.agg [a_v0, .int .i64 a.Low, .int .i64 a.High, .int .i64 a.Ease.Num, .int .i64 a.Ease.Den, .int .i64 a.Rod, .int .i64 a.Case].toArray, .agg [b_v0, .int .i64 b.Low, .int .i64 b.High, .int .i64 b.Ease.Num, .int .i64 b.Ease.Den, .int .i64 b.Rod, .int .i64 b.Case].toArray] (.bool y) H := by
  rw [F_law01_same] at hF
  refine SC.of (N := 66) Try.func22 rfl rfl rfl fun w => ?_
  refine JC.seq ?_
  refine JC.region (by rfl) ?_
  intro hQ
  refine JL.box (cs := [a_v0, .int .i64 a.Low, .int .i64 a.High, .int .i64 a.Ease.Num, .int .i64 a.Ease.Den, .int .i64 a.Rod, .int .i64 a.Case]) rfl .none rfl ?_
  intro b1
  refine JL.box (cs := [b_v0, .int .i64 b.Low, .int .i64 b.High, .int .i64 b.Ease.Num, .int .i64 b.Ease.Den, .int .i64 b.Rod, .int .i64 b.Case]) rfl .none rfl ?_
  intro b2
  refine JL.assign .none rfl ?_
  refine JL.done hQ ?_
  refine JQ.go ?_
  refine JC.seq ?_
  refine JC.seq ?_
  refine JC.region (by rfl) ?_
  intro hQ
  refine JL.fieldAddr fo_26_0 rfl .none rfl ?_
  refine JL.loadOwn 1 az_22 rfl rfl rfl .none rfl ?_
  refine JL.lenSL (R := R_Section) ul_22 ha_0 .none rfl ?_
  refine JL.fieldAddr fo_26_0 rfl .none rfl ?_
  refine JL.loadOwn 0 az_22 rfl rfl rfl .none rfl ?_
  refine JL.lenSL (R := R_Section) ul_22 hb_0 .none rfl ?_
  refine JL.bin rfl rfl rfl .none rfl ?_
  refine JL.move .none rfl ?_
  refine JL.cut 6 (fun f => f 2 = .pointer (some ⟨b1, 0, none⟩) ∧ f 3 = .pointer (some ⟨b2, 0, none⟩) ∧ f 19 = .bool (((a.Sections.length : Int) != (b.Sections.length : Int)) || (a.Low != b.Low))) ?_ ?_
  · intro hJ3
    rcases bcases ((a.Sections.length : Int) != (b.Sections.length : Int)) with hc4 | hc4
    · skip
      refine JL.skip (.bool rfl rfl rfl hc4) rfl ?_
      refine JL.skip (.bool rfl rfl rfl hc4) rfl ?_
      refine JL.skip (.bool rfl rfl rfl hc4) rfl ?_
      refine JL.skip (.bool rfl rfl rfl hc4) rfl ?_
      refine JL.skip (.bool rfl rfl rfl hc4) rfl ?_
      refine JL.pick_t (b := ((a.Sections.length : Int) != (b.Sections.length : Int))) rfl hc4 .none rfl ?_
      exact hJ3 _ ⟨rfl, rfl, or_t hc4 rfl⟩
    · skip
      refine JL.fieldAddr fo_26_1 rfl (.some rfl rfl rfl hc4) rfl ?_
      refine JL.loadOwn 1 az_3 rfl rfl rfl (.some rfl rfl rfl hc4) rfl ?_
      refine JL.fieldAddr fo_26_1 rfl (.some rfl rfl rfl hc4) rfl ?_
      refine JL.loadOwn 0 az_3 rfl rfl rfl (.some rfl rfl rfl hc4) rfl ?_
      refine JL.bin rfl rfl rfl (.some rfl rfl rfl hc4) rfl ?_
      refine JL.pick_f (b := ((a.Sections.length : Int) != (b.Sections.length : Int))) rfl hc4 .none rfl ?_
      exact hJ3 _ ⟨rfl, rfl, or_f hc4 rfl⟩
  · rintro f ⟨hf2, hf3, hf19⟩
    refine (JL.norm (i := 2) hf2 (JL.norm (i := 3) hf3 (JL.norm (i := 19) hf19 ?_)))
    refine JL.move .none rfl ?_
    refine JL.cut 6 (fun f => f 2 = .pointer (some ⟨b1, 0, none⟩) ∧ f 3 = .pointer (some ⟨b2, 0, none⟩) ∧ f 26 = .bool ((((a.Sections.length : Int) != (b.Sections.length : Int)) || (a.Low != b.Low)) || (a.High != b.High))) ?_ ?_
    · intro hJ5
      rcases bcases (((a.Sections.length : Int) != (b.Sections.length : Int)) || (a.Low != b.Low)) with hc6 | hc6
      · skip
        refine JL.skip (.bool rfl rfl rfl hc6) rfl ?_
        refine JL.skip (.bool rfl rfl rfl hc6) rfl ?_
        refine JL.skip (.bool rfl rfl rfl hc6) rfl ?_
        refine JL.skip (.bool rfl rfl rfl hc6) rfl ?_
        refine JL.skip (.bool rfl rfl rfl hc6) rfl ?_
        refine JL.pick_t (b := (((a.Sections.length : Int) != (b.Sections.length : Int)) || (a.Low != b.Low))) rfl hc6 .none rfl ?_
        exact hJ5 _ ⟨rfl, rfl, or_t hc6 rfl⟩
      · skip
        refine JL.fieldAddr fo_26_2 rfl (.some rfl rfl rfl hc6) rfl ?_
        refine JL.loadOwn 1 az_3 rfl rfl rfl (.some rfl rfl rfl hc6) rfl ?_
        refine JL.fieldAddr fo_26_2 rfl (.some rfl rfl rfl hc6) rfl ?_
        refine JL.loadOwn 0 az_3 rfl rfl rfl (.some rfl rfl rfl hc6) rfl ?_
        refine JL.bin rfl rfl rfl (.some rfl rfl rfl hc6) rfl ?_
        refine JL.pick_f (b := (((a.Sections.length : Int) != (b.Sections.length : Int)) || (a.Low != b.Low))) rfl hc6 .none rfl ?_
        exact hJ5 _ ⟨rfl, rfl, or_f hc6 rfl⟩
    · rintro f ⟨hf2, hf3, hf26⟩
      refine (JL.norm (i := 2) hf2 (JL.norm (i := 3) hf3 (JL.norm (i := 26) hf26 ?_)))
      refine JL.move .none rfl ?_
      refine JL.cut 6 (fun f => f 2 = .pointer (some ⟨b1, 0, none⟩) ∧ f 3 = .pointer (some ⟨b2, 0, none⟩) ∧ f 33 = .bool (((((a.Sections.length : Int) != (b.Sections.length : Int)) || (a.Low != b.Low)) || (a.High != b.High)) || (!((a.Ease.Num == b.Ease.Num) && (a.Ease.Den == b.Ease.Den))))) ?_ ?_
      · intro hJ7
        rcases bcases ((((a.Sections.length : Int) != (b.Sections.length : Int)) || (a.Low != b.Low)) || (a.High != b.High)) with hc8 | hc8
        · skip
          refine JL.skip (.bool rfl rfl rfl hc8) rfl ?_
          refine JL.skip (.bool rfl rfl rfl hc8) rfl ?_
          refine JL.skip (.bool rfl rfl rfl hc8) rfl ?_
          refine JL.skip (.bool rfl rfl rfl hc8) rfl ?_
          refine JL.skip (.bool rfl rfl rfl hc8) rfl ?_
          refine JL.pick_t (b := ((((a.Sections.length : Int) != (b.Sections.length : Int)) || (a.Low != b.Low)) || (a.High != b.High))) rfl hc8 .none rfl ?_
          exact hJ7 _ ⟨rfl, rfl, or_t hc8 rfl⟩
        · skip
          refine JL.fieldAddr fo_26_3 rfl (.some rfl rfl rfl hc8) rfl ?_
          refine JL.loadOwn 1 az_24 rfl rfl rfl (.some rfl rfl rfl hc8) rfl ?_
          refine JL.fieldAddr fo_26_3 rfl (.some rfl rfl rfl hc8) rfl ?_
          refine JL.loadOwn 0 az_24 rfl rfl rfl (.some rfl rfl rfl hc8) rfl ?_
          refine JL.neAgg eqg_24 rfl rfl (fun w => eqa_24 a.Ease.Num a.Ease.Den b.Ease.Num b.Ease.Den w) (.some rfl rfl rfl hc8) rfl ?_
          refine JL.pick_f (b := ((((a.Sections.length : Int) != (b.Sections.length : Int)) || (a.Low != b.Low)) || (a.High != b.High))) rfl hc8 .none rfl ?_
          exact hJ7 _ ⟨rfl, rfl, or_f hc8 rfl⟩
      · rintro f ⟨hf2, hf3, hf33⟩
        refine (JL.norm (i := 2) hf2 (JL.norm (i := 3) hf3 (JL.norm (i := 33) hf33 ?_)))
        refine JL.move .none rfl ?_
        refine JL.cut 6 (fun f => f 2 = .pointer (some ⟨b1, 0, none⟩) ∧ f 3 = .pointer (some ⟨b2, 0, none⟩) ∧ f 40 = .bool ((((((a.Sections.length : Int) != (b.Sections.length : Int)) || (a.Low != b.Low)) || (a.High != b.High)) || (!((a.Ease.Num == b.Ease.Num) && (a.Ease.Den == b.Ease.Den)))) || (a.Rod != b.Rod))) ?_ ?_
        · intro hJ9
          rcases bcases (((((a.Sections.length : Int) != (b.Sections.length : Int)) || (a.Low != b.Low)) || (a.High != b.High)) || (!((a.Ease.Num == b.Ease.Num) && (a.Ease.Den == b.Ease.Den)))) with hc10 | hc10
          · skip
            refine JL.skip (.bool rfl rfl rfl hc10) rfl ?_
            refine JL.skip (.bool rfl rfl rfl hc10) rfl ?_
            refine JL.skip (.bool rfl rfl rfl hc10) rfl ?_
            refine JL.skip (.bool rfl rfl rfl hc10) rfl ?_
            refine JL.skip (.bool rfl rfl rfl hc10) rfl ?_
            refine JL.pick_t (b := (((((a.Sections.length : Int) != (b.Sections.length : Int)) || (a.Low != b.Low)) || (a.High != b.High)) || (!((a.Ease.Num == b.Ease.Num) && (a.Ease.Den == b.Ease.Den))))) rfl hc10 .none rfl ?_
            exact hJ9 _ ⟨rfl, rfl, or_t hc10 rfl⟩
          · skip
            refine JL.fieldAddr fo_26_4 rfl (.some rfl rfl rfl hc10) rfl ?_
            refine JL.loadOwn 1 az_3 rfl rfl rfl (.some rfl rfl rfl hc10) rfl ?_
            refine JL.fieldAddr fo_26_4 rfl (.some rfl rfl rfl hc10) rfl ?_
            refine JL.loadOwn 0 az_3 rfl rfl rfl (.some rfl rfl rfl hc10) rfl ?_
            refine JL.bin rfl rfl rfl (.some rfl rfl rfl hc10) rfl ?_
            refine JL.pick_f (b := (((((a.Sections.length : Int) != (b.Sections.length : Int)) || (a.Low != b.Low)) || (a.High != b.High)) || (!((a.Ease.Num == b.Ease.Num) && (a.Ease.Den == b.Ease.Den))))) rfl hc10 .none rfl ?_
            exact hJ9 _ ⟨rfl, rfl, or_f hc10 rfl⟩
        · rintro f ⟨hf2, hf3, hf40⟩
          refine (JL.norm (i := 2) hf2 (JL.norm (i := 3) hf3 (JL.norm (i := 40) hf40 ?_)))
          refine JL.move .none rfl ?_
          refine JL.cut 6 (fun f => f 2 = .pointer (some ⟨b1, 0, none⟩) ∧ f 3 = .pointer (some ⟨b2, 0, none⟩) ∧ f 47 = .bool (((((((a.Sections.length : Int) != (b.Sections.length : Int)) || (a.Low != b.Low)) || (a.High != b.High)) || (!((a.Ease.Num == b.Ease.Num) && (a.Ease.Den == b.Ease.Den)))) || (a.Rod != b.Rod)) || (a.Case != b.Case))) ?_ ?_
          · intro hJ11
            rcases bcases ((((((a.Sections.length : Int) != (b.Sections.length : Int)) || (a.Low != b.Low)) || (a.High != b.High)) || (!((a.Ease.Num == b.Ease.Num) && (a.Ease.Den == b.Ease.Den)))) || (a.Rod != b.Rod)) with hc12 | hc12
            · skip
              refine JL.skip (.bool rfl rfl rfl hc12) rfl ?_
              refine JL.skip (.bool rfl rfl rfl hc12) rfl ?_
              refine JL.skip (.bool rfl rfl rfl hc12) rfl ?_
              refine JL.skip (.bool rfl rfl rfl hc12) rfl ?_
              refine JL.skip (.bool rfl rfl rfl hc12) rfl ?_
              refine JL.pick_t (b := ((((((a.Sections.length : Int) != (b.Sections.length : Int)) || (a.Low != b.Low)) || (a.High != b.High)) || (!((a.Ease.Num == b.Ease.Num) && (a.Ease.Den == b.Ease.Den)))) || (a.Rod != b.Rod))) rfl hc12 .none rfl ?_
              exact hJ11 _ ⟨rfl, rfl, or_t hc12 rfl⟩
            · skip
              refine JL.fieldAddr fo_26_5 rfl (.some rfl rfl rfl hc12) rfl ?_
              refine JL.loadOwn 1 az_3 rfl rfl rfl (.some rfl rfl rfl hc12) rfl ?_
              refine JL.fieldAddr fo_26_5 rfl (.some rfl rfl rfl hc12) rfl ?_
              refine JL.loadOwn 0 az_3 rfl rfl rfl (.some rfl rfl rfl hc12) rfl ?_
              refine JL.bin rfl rfl rfl (.some rfl rfl rfl hc12) rfl ?_
              refine JL.pick_f (b := ((((((a.Sections.length : Int) != (b.Sections.length : Int)) || (a.Low != b.Low)) || (a.High != b.High)) || (!((a.Ease.Num == b.Ease.Num) && (a.Ease.Den == b.Ease.Den)))) || (a.Rod != b.Rod))) rfl hc12 .none rfl ?_
              exact hJ11 _ ⟨rfl, rfl, or_f hc12 rfl⟩
          · rintro f ⟨hf2, hf3, hf47⟩
            refine (JL.norm (i := 2) hf2 (JL.norm (i := 3) hf3 (JL.norm (i := 47) hf47 ?_)))
            refine JL.done hQ ?_
            refine JQ.go ?_
            rcases ite_some hF with ⟨hc13, hF⟩ | ⟨hc13, hF⟩
            · refine JC.cond_t (b := (((((((a.Sections.length : Int) != (b.Sections.length : Int)) || (a.Low != b.Low)) || (a.High != b.High)) || (!((a.Ease.Num == b.Ease.Num) && (a.Ease.Den == b.Ease.Den)))) || (a.Rod != b.Rod)) || (a.Case != b.Case))) rfl hc13 ?_
              refine JC.seq ?_
              refine JC.region (by rfl) ?_
              intro hQ
              refine JL.assign .none rfl ?_
              refine JL.done hQ ?_
              refine JQ.go ?_
              refine JC.ret ?_
              refine JQ.ret_then ?_
              obtain rfl := Option.some.inj hF
              exact JQ.outS rfl (.tmp .nil) rfl
            · refine JC.cond_f (b := (((((((a.Sections.length : Int) != (b.Sections.length : Int)) || (a.Low != b.Low)) || (a.High != b.High)) || (!((a.Ease.Num == b.Ease.Num) && (a.Ease.Den == b.Ease.Den)))) || (a.Rod != b.Rod)) || (a.Case != b.Case))) rfl hc13 ?_
              refine JC.skip ?_
              refine JQ.go ?_
              refine JC.seq ?_
              refine JC.seq ?_
              refine JC.region (by rfl) ?_
              intro hQ
              refine JL.assign .none rfl ?_
              refine JL.done hQ ?_
              refine JQ.go ?_
              obtain ⟨r89, hlr89, hKr89⟩ := bind_some hF
              refine JC.join (fun (_ : Unit) H88 f bs gs => bs = [] ∧ gs = [] ∧ HSub H H88 ∧ Sum.inr () = r89) ?_ ?_
              · skip
                refine JC.block ?_
                refine JC.loop hlr89 (fun (i_138 : Int) H139 f bs gs => f 2 = .pointer (some ⟨b1, 0, none⟩) ∧ f 3 = .pointer (some ⟨b2, 0, none⟩) ∧ f 5 = .int .i64 i_138 ∧ bs = [(b2, .cells [b_v0, .int .i64 b.Low, .int .i64 b.High, .int .i64 b.Ease.Num, .int .i64 b.Ease.Den, .int .i64 b.Rod, .int .i64 b.Case].toArray 26), (b1, .cells [a_v0, .int .i64 a.Low, .int .i64 a.High, .int .i64 a.Ease.Num, .int .i64 a.Ease.Den, .int .i64 a.Rod, .int .i64 a.Case].toArray 26)] ∧ gs = [] ∧ HSub H H139) ⟨rfl, rfl, rfl, rfl, rfl, (HSub.refl _)⟩ ?_
                rintro i_138 x141 H139 f bs gs ⟨hf2, hf3, hf5, rfl, rfl, hs139⟩ hF hr140
                rw [F_law01_same_s1] at hF
                refine (JC.norm (i := 2) hf2 (JC.norm (i := 3) hf3 (JC.norm (i := 5) hf5 ?_)))
                refine JC.seq ?_
                refine JC.seq ?_
                refine JC.region (by rfl) ?_
                intro hQ
                refine JL.move .none rfl ?_
                refine JL.fieldAddr fo_26_0 rfl .none rfl ?_
                refine JL.loadOwn 1 az_22 rfl rfl rfl .none rfl ?_
                refine JL.lenSL (R := R_Section) ul_22 (SL.mono R_Section_mono hs139 ha_0) .none rfl ?_
                refine JL.bin rfl rfl rfl .none rfl ?_
                refine JL.done hQ ?_
                refine JQ.go ?_
                rcases ite_some hF with ⟨hc142, hF⟩ | ⟨hc142, hF⟩
                · refine JC.cond_t (b := decide (i_138 < (a.Sections.length : Int))) rfl hc142 ?_
                  refine JC.skip ?_
                  refine JQ.go ?_
                  refine JC.seq ?_
                  refine JC.block ?_
                  refine JC.seq ?_
                  refine JC.draw (by rfl) mo_ (by kernel_rfl) ?_
                  intro hQ
                  refine JL.fieldAddr fo_26_0 rfl .none rfl ?_
                  refine JL.loadOwn 1 az_22 rfl rfl rfl .none rfl ?_
                  refine JL.move .none rfl ?_
                  obtain ⟨y153, hy153, hF⟩ := bind_some hF
                  refine JL.indexSL (R := R_Section) sl_22 (SL.mono R_Section_mono hs139 ha_0) rfl hy153 .none rfl ?_
                  rintro b154 o155 cs156 hc157 - rfl
                  refine JL.loadH 0 az_61 rfl hc157 rfl .none rfl ?_
                  refine JL.fieldAddr fo_26_0 rfl .none rfl ?_
                  refine JL.loadOwn 0 az_22 rfl rfl rfl .none rfl ?_
                  refine JL.move .none rfl ?_
                  obtain ⟨y158, hy158, hF⟩ := bind_some hF
                  refine JL.indexSL (R := R_Section) sl_22 (SL.mono R_Section_mono hs139 hb_0) rfl hy158 .none rfl ?_
                  rintro b159 o160 cs161 hc162 - rfl
                  refine JL.loadH 0 az_61 rfl hc162 rfl .none rfl ?_
                  refine JL.neAgg eqg_61 rfl rfl (fun w => eqa_61 y153.Arm.Low y153.Arm.High y153.Stretch.Low y153.Stretch.High y153.Base y153.Gear.Num y153.Gear.Den y158.Arm.Low y158.Arm.High y158.Stretch.Low y158.Stretch.High y158.Base y158.Gear.Num y158.Gear.Den w) .none rfl ?_
                  refine JL.doneQ hQ ?_
                  refine JQ.go ?_
                  refine JC.fresh (fun f => f 2 = .pointer (some ⟨b1, 0, none⟩) ∧ f 3 = .pointer (some ⟨b2, 0, none⟩) ∧ f 5 = .int .i64 i_138 ∧ f 65 = .bool (!((y153.Arm.Low == y158.Arm.Low) && ((y153.Arm.High == y158.Arm.High) && ((y153.Stretch.Low == y158.Stretch.Low) && ((y153.Stretch.High == y158.Stretch.High) && ((y153.Base == y158.Base) && ((y153.Gear.Num == y158.Gear.Num) && (y153.Gear.Den == y158.Gear.Den))))))))) ⟨rfl, rfl, rfl, rfl⟩ ?_
                  rintro f ⟨hf2, hf3, hf5, hf65⟩
                  refine (JC.norm (i := 2) hf2 (JC.norm (i := 3) hf3 (JC.norm (i := 5) hf5 (JC.norm (i := 65) hf65 ?_))))
                  rcases ite_some hF with ⟨hc163, hF⟩ | ⟨hc163, hF⟩
                  · refine JC.cond_t (b := (!((y153.Arm.Low == y158.Arm.Low) && ((y153.Arm.High == y158.Arm.High) && ((y153.Stretch.Low == y158.Stretch.Low) && ((y153.Stretch.High == y158.Stretch.High) && ((y153.Base == y158.Base) && ((y153.Gear.Num == y158.Gear.Num) && (y153.Gear.Den == y158.Gear.Den))))))))) rfl hc163 ?_
                    refine JC.seq ?_
                    refine JC.region (by rfl) ?_
                    intro hQ
                    refine JL.assign .none rfl ?_
                    refine JL.done hQ ?_
                    refine JQ.go ?_
                    refine JC.ret ?_
                    refine JQ.ret_block ?_
                    refine JQ.ret_then ?_
                    refine JQ.ret_then ?_
                    refine JQ.ret_block ?_
                    refine JQ.ret_join ?_
                    refine JQ.ret_then ?_
                    obtain rfl := Option.some.inj hF
                    have ehr140 := hr140 _ rfl
                    subst ehr140
                    have hF := hKr89
                    try dsimp only at hF
                    obtain rfl := Option.some.inj hF
                    exact JQ.outS rfl (.tmp .nil) rfl
                  · refine JC.cond_f (b := (!((y153.Arm.Low == y158.Arm.Low) && ((y153.Arm.High == y158.Arm.High) && ((y153.Stretch.Low == y158.Stretch.Low) && ((y153.Stretch.High == y158.Stretch.High) && ((y153.Base == y158.Base) && ((y153.Gear.Num == y158.Gear.Num) && (y153.Gear.Den == y158.Gear.Den))))))))) rfl hc163 ?_
                    refine JC.skip ?_
                    refine JQ.normal_block ?_
                    refine JQ.go ?_
                    refine JC.region (by rfl) ?_
                    intro hQ
                    refine JL.move .none rfl ?_
                    refine JL.bin rfl rfl rfl .none rfl ?_
                    refine JL.assign .none rfl ?_
                    refine JL.done hQ ?_
                    obtain rfl := Option.some.inj hF
                    exact JQ.next rfl ⟨rfl, rfl, rfl, rfl, rfl, hs139⟩
                · refine JC.cond_f (b := decide (i_138 < (a.Sections.length : Int))) rfl hc142 ?_
                  refine JC.exit ?_
                  refine JQ.exit_then ?_
                  refine JQ.exit_then ?_
                  refine JQ.exit_block ?_
                  obtain rfl := Option.some.inj hF
                  have ehr140 := hr140 _ rfl
                  subst ehr140
                  refine JQ.mask [false, false] [] ?_
                  exact JQ.join () ⟨rfl, rfl, hs139, rfl⟩
              · rintro _ H88 f bs gs ⟨rfl, rfl, hs88, rfl⟩
                have hF := hKr89
                try dsimp only at hF
                refine JQ.go ?_
                refine JC.seq ?_
                refine JC.region (by rfl) ?_
                intro hQ
                refine JL.assign .none rfl ?_
                refine JL.done hQ ?_
                refine JQ.go ?_
                refine JC.ret ?_
                obtain rfl := Option.some.inj hF
                exact JQ.outS rfl (.tmp .nil) rfl

end Go.Proofs.Ytmgnhaibbeinbaa
