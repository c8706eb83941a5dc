/-
  Printed by a program: functions of the translation as plain functions, and their contracts.
-/
import Derived.Test.YtmgnhaibbeinbaaGenK14
namespace Go.Proofs.Ytmgnhaibbeinbaa
open Go Go.RowKit Go.Dec
set_option linter.unusedVariables false
-- 41 ferrule/ferruleref01.First
def F_ref01_First_s2 (n : Nat) (f_ : Frame) (p_203 : Int) : Int → Option (Int ⊕ ((Int ⊕ ((Int × Int × Int) ⊕ Unit)) ⊕ Unit))
  | i_237 => if decide (i_237 < (f_.Sections.length : Int)) = true then ((F_ref01_binds n f_ i_237 p_203).bind fun y242 => if decide (0 < y242.1) = true then (some (Sum.inr (Sum.inl (Sum.inr (Sum.inl (i_237, p_203, 0)))))) else (some (Sum.inl (w64 (i_237 + 1))))) else (some (Sum.inr (Sum.inr ())))
def F_ref01_First_s1 (n : Nat) (f_ : Frame) : Int → Option (Int ⊕ ((Int × Int × Int) ⊕ Unit))
  | p_203 => if decide (f_.Low ≤ p_203) = true then ((loopO n (F_ref01_First_s2 n f_ p_203) 0).bind fun r226 => match r226 with | .inl o => some o | .inr _ => some (Sum.inl (w64 (p_203 - 1)))) else (some (Sum.inr (Sum.inr ())))
def F_ref01_First (n : Nat) (f_ : Frame) : Option (Int × Int × Int) :=
  (F_ref01_Check n f_).bind fun y2 => if (y2 != 0) = true then (some (0, 0, y2)) else ((loopO n (F_ref01_First_s1 n f_) f_.High).bind fun r124 => match r124 with | .inl o => some o | .inr _ => some (0, 0, 3))
set_option maxRecDepth 100000 in
set_option maxHeartbeats 40000000 in
theorem c_ref01_First (n : Nat) (H : Hp) (f_ : Frame) (f__v0 : Value) (hf__0 : SL H 7 R_Section f__v0 f_.Sections) (y : Int × Int × Int) (hF : F_ref01_First n f_ = some y) : SC Try.prog 41 [.agg [f__v0, .int .i64 f_.Low, .int .i64 f_.High, .int .i64 f_.Ease.Num, .int .i64 f_.Ease.Den, .int .i64 f_.Rod, .int .i64 f_.Case].toArray] (.tuple [.int .i64 y.1, .int .i64 y.2.1, .int .i64 y.2.2].toArray) H := by
  rw [F_ref01_First] at hF
  refine SC.of (N := 41) Try.func41 rfl rfl rfl fun w => ?_
  refine JC.seq ?_
  refine JC.region (by rfl) ?_
  intro hQ
  refine JL.box (cs := [f__v0, .int .i64 f_.Low, .int .i64 f_.High, .int .i64 f_.Ease.Num, .int .i64 f_.Ease.Den, .int .i64 f_.Rod, .int .i64 f_.Case]) rfl .none rfl ?_
  intro b1
  refine JL.assign .none rfl ?_
  refine JL.assign .none rfl ?_
  refine JL.assign .none rfl ?_
  refine JL.done hQ ?_
  refine JQ.go ?_
  refine JC.seq ?_
  refine JC.seq ?_
  refine JC.region (by rfl) ?_
  intro hQ
  refine JL.loadOwn 0 az_26 rfl rfl rfl .none rfl ?_
  obtain ⟨y2, hy2, hF⟩ := bind_some hF
  refine JL.callS (c_ref01_Check n H f_ f__v0 hf__0 y2 hy2) rfl en_15 .none rfl ?_
  refine JL.assign .none rfl ?_
  refine JL.done hQ ?_
  refine JQ.go ?_
  refine JC.seq ?_
  refine JC.region (by rfl) ?_
  intro hQ
  refine JL.move .none rfl ?_
  refine JL.bin rfl rfl rfl .none rfl ?_
  refine JL.done hQ ?_
  refine JQ.go ?_
  rcases ite_some hF with ⟨hc3, hF⟩ | ⟨hc3, hF⟩
  · refine JC.cond_t (b := (y2 != 0)) rfl hc3 ?_
    refine JC.seq ?_
    refine JC.region (by rfl) ?_
    intro hQ
    refine JL.move .none rfl ?_
    refine JL.assign .none rfl ?_
    refine JL.assign .none rfl ?_
    refine JL.assign .none rfl ?_
    refine JL.done hQ ?_
    refine JQ.go ?_
    refine JC.ret ?_
    refine JQ.ret_then ?_
    obtain rfl := Option.some.inj hF
    exact JQ.outS rfl (.tmp (.tmp (.tmp .nil))) rfl
  · refine JC.cond_f (b := (y2 != 0)) rfl hc3 ?_
    refine JC.skip ?_
    refine JQ.go ?_
    refine JC.seq ?_
    refine JC.seq ?_
    refine JC.region (by rfl) ?_
    intro hQ
    refine JL.fieldAddr fo_26_2 rfl .none rfl ?_
    refine JL.loadOwn 0 az_3 rfl rfl rfl .none rfl ?_
    refine JL.assign .none rfl ?_
    refine JL.done hQ ?_
    refine JQ.go ?_
    obtain ⟨r124, hlr124, hKr124⟩ := bind_some hF
    refine JC.join (fun (_ : Unit) H123 f bs gs => bs = [] ∧ gs = [] ∧ HSub H H123 ∧ Sum.inr () = r124) ?_ ?_
    · skip
      refine JC.block ?_
      refine JC.loop hlr124 (fun (p_203 : Int) H204 f bs gs => f 1 = .pointer (some ⟨b1, 0, none⟩) ∧ f 6 = .int .i64 p_203 ∧ bs = [(b1, .cells [f__v0, .int .i64 f_.Low, .int .i64 f_.High, .int .i64 f_.Ease.Num, .int .i64 f_.Ease.Den, .int .i64 f_.Rod, .int .i64 f_.Case].toArray 26)] ∧ gs = [] ∧ HSub H H204) ⟨rfl, rfl, rfl, rfl, (HSub.refl _)⟩ ?_
      rintro p_203 x206 H204 f bs gs ⟨hf1, hf6, rfl, rfl, hs204⟩ hF hr205
      rw [F_ref01_First_s1] at hF
      refine (JC.norm (i := 1) hf1 (JC.norm (i := 6) hf6 ?_))
      refine JC.seq ?_
      refine JC.seq ?_
      refine JC.region (by rfl) ?_
      intro hQ
      refine JL.move .none rfl ?_
      refine JL.fieldAddr fo_26_1 rfl .none rfl ?_
      refine JL.loadOwn 0 az_3 rfl rfl rfl .none rfl ?_
      refine JL.bin rfl rfl rfl .none rfl ?_
      refine JL.done hQ ?_
      refine JQ.go ?_
      rcases ite_some hF with ⟨hc207, hF⟩ | ⟨hc207, hF⟩
      · refine JC.cond_t (b := decide (f_.Low ≤ p_203)) rfl hc207 ?_
        refine JC.skip ?_
        refine JQ.go ?_
        refine JC.seq ?_
        refine JC.block ?_
        refine JC.seq ?_
        refine JC.region (by rfl) ?_
        intro hQ
        refine JL.assign .none rfl ?_
        refine JL.done hQ ?_
        refine JQ.go ?_
        obtain ⟨r226, hlr226, hKr226⟩ := bind_some hF
        refine JC.join (fun (_ : Unit) H225 f bs gs => f 1 = .pointer (some ⟨b1, 0, none⟩) ∧ f 6 = .int .i64 p_203 ∧ bs = [(b1, .cells [f__v0, .int .i64 f_.Low, .int .i64 f_.High, .int .i64 f_.Ease.Num, .int .i64 f_.Ease.Den, .int .i64 f_.Rod, .int .i64 f_.Case].toArray 26)] ∧ gs = [] ∧ HSub H204 H225 ∧ Sum.inr () = r226) ?_ ?_
        · skip
          refine JC.block ?_
          refine JC.loop hlr226 (fun (i_237 : Int) H238 f bs gs => f 1 = .pointer (some ⟨b1, 0, none⟩) ∧ f 6 = .int .i64 p_203 ∧ f 7 = .int .i64 i_237 ∧ bs = [(b1, .cells [f__v0, .int .i64 f_.Low, .int .i64 f_.High, .int .i64 f_.Ease.Num, .int .i64 f_.Ease.Den, .int .i64 f_.Rod, .int .i64 f_.Case].toArray 26)] ∧ gs = [] ∧ HSub H204 H238) ⟨rfl, rfl, rfl, rfl, rfl, (HSub.refl _)⟩ ?_
          rintro i_237 x240 H238 f bs gs ⟨hf1, hf6, hf7, rfl, rfl, hs238⟩ hF hr239
          rw [F_ref01_First_s2] at hF
          refine (JC.norm (i := 1) hf1 (JC.norm (i := 6) hf6 (JC.norm (i := 7) hf7 ?_)))
          refine JC.seq ?_
          refine JC.seq ?_
          refine JC.region (by rfl) ?_
          intro hQ
          refine JL.move .none rfl ?_
          refine JL.fieldAddr fo_26_0 rfl .none rfl ?_
          refine JL.loadOwn 0 az_22 rfl rfl rfl .none rfl ?_
          refine JL.lenSL (R := R_Section) ul_22 (SL.mono R_Section_mono (HSub.trans hs204 hs238) hf__0) .none rfl ?_
          refine JL.bin rfl rfl rfl .none rfl ?_
          refine JL.done hQ ?_
          refine JQ.go ?_
          rcases ite_some hF with ⟨hc241, hF⟩ | ⟨hc241, hF⟩
          · refine JC.cond_t (b := decide (i_237 < (f_.Sections.length : Int))) rfl hc241 ?_
            refine JC.skip ?_
            refine JQ.go ?_
            refine JC.seq ?_
            refine JC.block ?_
            refine JC.seq ?_
            refine JC.region (by rfl) ?_
            intro hQ
            refine JL.loadOwn 0 az_26 rfl rfl rfl .none rfl ?_
            refine JL.move .none rfl ?_
            refine JL.move .none rfl ?_
            obtain ⟨y242, hy242, hF⟩ := bind_some hF
            refine JL.callS (c_ref01_binds n H238 f_ f__v0 (SL.mono R_Section_mono (HSub.trans hs204 hs238) hf__0) i_237 p_203 y242 hy242) rfl en_66 .none rfl ?_
            refine JL.move .none rfl ?_
            refine JL.extract rfl rfl .none rfl ?_
            refine JL.extract rfl rfl .none rfl ?_
            refine JL.assign .none rfl ?_
            refine JL.assign .none rfl ?_
            refine JL.done hQ ?_
            refine JQ.go ?_
            refine JC.fresh (fun f => f 1 = .pointer (some ⟨b1, 0, none⟩) ∧ f 6 = .int .i64 p_203 ∧ f 7 = .int .i64 i_237 ∧ f 8 = .int .i64 y242.1) ⟨rfl, rfl, rfl, rfl⟩ ?_
            rintro f ⟨hf1, hf6, hf7, hf8⟩
            refine (JC.norm (i := 1) hf1 (JC.norm (i := 6) hf6 (JC.norm (i := 7) hf7 (JC.norm (i := 8) hf8 ?_))))
            refine JC.seq ?_
            refine JC.region (by rfl) ?_
            intro hQ
            refine JL.move .none rfl ?_
            refine JL.bin rfl rfl rfl .none rfl ?_
            refine JL.done hQ ?_
            refine JQ.go ?_
            rcases ite_some hF with ⟨hc243, hF⟩ | ⟨hc243, hF⟩
            · refine JC.cond_t (b := decide (0 < y242.1)) rfl hc243 ?_
              refine JC.seq ?_
              refine JC.region (by rfl) ?_
              intro hQ
              refine JL.move .none rfl ?_
              refine JL.move .none rfl ?_
              refine JL.assign .none rfl ?_
              refine JL.assign .none rfl ?_
              refine JL.assign .none rfl ?_
              refine JL.done hQ ?_
              refine JQ.go ?_
              refine JC.ret ?_
              refine JQ.ret_block ?_
              refine JQ.ret_then ?_
              refine JQ.ret_then ?_
              refine JQ.ret_block ?_
              refine JQ.ret_join ?_
              refine JQ.ret_block ?_
              refine JQ.ret_then ?_
              refine JQ.ret_then ?_
              refine JQ.ret_block ?_
              refine JQ.ret_join ?_
              refine JQ.ret_then ?_
              obtain rfl := Option.some.inj hF
              have ehr239 := hr239 _ rfl
              subst ehr239
              have hF := hKr226
              try dsimp only at hF
              obtain rfl := Option.some.inj hF
              have ehr205 := hr205 _ rfl
              subst ehr205
              have hF := hKr124
              try dsimp only at hF
              obtain rfl := Option.some.inj hF
              exact JQ.outS rfl (.tmp (.tmp (.tmp .nil))) rfl
            · refine JC.cond_f (b := decide (0 < y242.1)) rfl hc243 ?_
              refine JC.skip ?_
              refine JQ.normal_block ?_
              refine JQ.go ?_
              refine JC.region (by rfl) ?_
              intro hQ
              refine JL.move .none rfl ?_
              refine JL.bin rfl rfl rfl .none rfl ?_
              refine JL.assign .none rfl ?_
              refine JL.done hQ ?_
              obtain rfl := Option.some.inj hF
              exact JQ.next rfl ⟨rfl, rfl, rfl, rfl, rfl, hs238⟩
          · refine JC.cond_f (b := decide (i_237 < (f_.Sections.length : Int))) rfl hc241 ?_
            refine JC.exit ?_
            refine JQ.exit_then ?_
            refine JQ.exit_then ?_
            refine JQ.exit_block ?_
            obtain rfl := Option.some.inj hF
            have ehr239 := hr239 _ rfl
            subst ehr239
            exact JQ.join () ⟨rfl, rfl, rfl, rfl, hs238, rfl⟩
        · rintro _ H225 f bs gs ⟨hf1, hf6, rfl, rfl, hs225, rfl⟩
          have hF := hKr226
          try dsimp only at hF
          refine (JQ.norm (i := 1) hf1 (JQ.norm (i := 6) hf6 ?_))
          refine JQ.normal_block ?_
          refine JQ.go ?_
          refine JC.region (by rfl) ?_
          intro hQ
          refine JL.move .none rfl ?_
          refine JL.bin rfl rfl rfl .none rfl ?_
          refine JL.assign .none rfl ?_
          refine JL.done hQ ?_
          obtain rfl := Option.some.inj hF
          exact JQ.next rfl ⟨rfl, rfl, rfl, rfl, (HSub.trans hs204 hs225)⟩
      · refine JC.cond_f (b := decide (f_.Low ≤ p_203)) rfl hc207 ?_
        refine JC.exit ?_
        refine JQ.exit_then ?_
        refine JQ.exit_then ?_
        refine JQ.exit_block ?_
        obtain rfl := Option.some.inj hF
        have ehr205 := hr205 _ rfl
        subst ehr205
        refine JQ.mask [false] [] ?_
        exact JQ.join () ⟨rfl, rfl, hs204, rfl⟩
    · rintro _ H123 f bs gs ⟨rfl, rfl, hs123, rfl⟩
      have hF := hKr124
      try dsimp only at hF
      refine JQ.go ?_
      refine JC.seq ?_
      refine JC.region (by rfl) ?_
      intro hQ
      refine JL.assign .none rfl ?_
      refine JL.assign .none rfl ?_
      refine JL.assign .none rfl ?_
      refine JL.done hQ ?_
      refine JQ.go ?_
      refine JC.ret ?_
      obtain rfl := Option.some.inj hF
      exact JQ.outS rfl (.tmp (.tmp (.tmp .nil))) rfl

-- 73 ferrule/ferruleref01.free
def F_ref01_free_s1 (n : Nat) (f_ : Frame) (section_ : Int) (y2 : (List ref01_Pair)) : Int × Int → Option ((Int × Int) ⊕ Int)
  | (some_114, i_115) => if decide (i_115 < (y2.length : Int)) = true then ((geti y2 i_115).bind fun y126 => (F_ref01_Free n f_ section_ y126).bind fun y131 => (if y131 = true then (some (w64 (some_114 + 1))) else (some some_114)).bind fun some_133 => some (Sum.inl (some_133, (w64 (i_115 + 1))))) else (some (Sum.inr some_114))
def F_ref01_free (n : Nat) (f_ : Frame) (section_ : Int) : Option (Int × Int) :=
  (F_ref01_Pairs n f_ section_).bind fun y2 => (loopO n (F_ref01_free_s1 n f_ section_ y2) (0, 0)).bind fun some_69 => some (some_69, (y2.length : Int))
set_option maxRecDepth 100000 in
set_option maxHeartbeats 40000000 in
theorem c_ref01_free (n : Nat) (H : Hp) (f_ : Frame) (f__v0 : Value) (hf__0 : SL H 7 R_Section f__v0 f_.Sections) (section_ : Int) (y : Int × Int) (hF : F_ref01_free n f_ section_ = some y) : SC Try.prog 73 [.agg [f__v0, .int .i64 f_.Low, .int .i64 f_.High, .int .i64 f_.Ease.Num, .int .i64 f_.Ease.Den, .int .i64 f_.Rod, .int .i64 f_.Case].toArray, .int .i64 section_] (.tuple [.int .i64 y.1, .int .i64 y.2].toArray) H := by
  rw [F_ref01_free] at hF
  refine SC.of (N := 29) Try.func73 rfl rfl rfl fun w => ?_
  refine JC.seq ?_
  refine JC.region (by rfl) ?_
  intro hQ
  refine JL.box (cs := [f__v0, .int .i64 f_.Low, .int .i64 f_.High, .int .i64 f_.Ease.Num, .int .i64 f_.Ease.Den, .int .i64 f_.Rod, .int .i64 f_.Case]) rfl .none rfl ?_
  intro b1
  refine JL.assign .none rfl ?_
  refine JL.assign .none rfl ?_
  refine JL.done hQ ?_
  refine JQ.go ?_
  refine JC.seq ?_
  refine JC.region (by rfl) ?_
  intro hQ
  refine JL.loadOwn 0 az_26 rfl rfl rfl .none rfl ?_
  refine JL.move .none rfl ?_
  obtain ⟨y2, hy2, hF⟩ := bind_some hF
  refine JL.callH (c_ref01_Pairs n H f_ f__v0 hf__0 section_ y2 hy2) rfl en_25 .none rfl ?_
  intro H3 y2a_v0 hs3 hy2a_0
  refine JL.assign .none rfl ?_
  refine JL.done hQ ?_
  refine JQ.go ?_
  refine JC.seq ?_
  refine JC.seq ?_
  refine JC.region (by rfl) ?_
  intro hQ
  refine JL.assign .none rfl ?_
  refine JL.done hQ ?_
  refine JQ.go ?_
  obtain ⟨r71, hlr71, hKr71⟩ := bind_some hF
  refine JC.join (fun (some_69 : Int) H70 f bs gs => f 4 = .int .i64 some_69 ∧ f 6 = y2a_v0 ∧ bs = [] ∧ gs = [] ∧ HSub H3 H70 ∧ some_69 = r71) ?_ ?_
  · skip
    refine JC.block ?_
    refine JC.loop hlr71 (fun (x : Int × Int) H116 f bs gs => match x with | (some_114, i_115) => f 1 = .int .i64 section_ ∧ f 2 = .pointer (some ⟨b1, 0, none⟩) ∧ f 4 = .int .i64 some_114 ∧ f 6 = y2a_v0 ∧ f 7 = .int .i64 i_115 ∧ bs = [(b1, .cells [f__v0, .int .i64 f_.Low, .int .i64 f_.High, .int .i64 f_.Ease.Num, .int .i64 f_.Ease.Den, .int .i64 f_.Rod, .int .i64 f_.Case].toArray 26)] ∧ gs = [] ∧ HSub H3 H116) ⟨rfl, rfl, rfl, rfl, rfl, rfl, rfl, (HSub.refl _)⟩ ?_
    rintro ⟨some_114, i_115⟩ x118 H116 f bs gs ⟨hf1, hf2, hf4, hf6, hf7, rfl, rfl, hs116⟩ hF hr117
    rw [F_ref01_free_s1] at hF
    refine (JC.norm (i := 1) hf1 (JC.norm (i := 2) hf2 (JC.norm (i := 4) hf4 (JC.norm (i := 6) hf6 (JC.norm (i := 7) hf7 ?_)))))
    refine JC.seq ?_
    refine JC.seq ?_
    refine JC.region (by rfl) ?_
    intro hQ
    refine JL.move .none rfl ?_
    refine JL.move .none rfl ?_
    refine JL.lenSL (R := R_ref01_Pair) ul_40 (SL.mono R_ref01_Pair_mono hs116 hy2a_0) .none rfl ?_
    refine JL.bin rfl rfl rfl .none rfl ?_
    refine JL.done hQ ?_
    refine JQ.go ?_
    rcases ite_some hF with ⟨hc119, hF⟩ | ⟨hc119, hF⟩
    · refine JC.cond_t (b := decide (i_115 < (y2.length : Int))) rfl hc119 ?_
      refine JC.skip ?_
      refine JQ.go ?_
      refine JC.seq ?_
      refine JC.block ?_
      refine JC.seq ?_
      refine JC.draw (by rfl) mo_ (by kernel_rfl) ?_
      intro hQ
      refine JL.loadOwn 0 az_26 rfl rfl rfl .none rfl ?_
      refine JL.move .none rfl ?_
      refine JL.move .none rfl ?_
      refine JL.move .none rfl ?_
      obtain ⟨y126, hy126, hF⟩ := bind_some hF
      refine JL.indexSL (R := R_ref01_Pair) sl_40 (SL.mono R_ref01_Pair_mono hs116 hy2a_0) rfl hy126 .none rfl ?_
      rintro b127 o128 cs129 hc130 - rfl
      refine JL.loadH 0 az_45 rfl hc130 rfl .none rfl ?_
      obtain ⟨y131, hy131, hF⟩ := bind_some hF
      refine JL.callS (c_ref01_Free n H116 f_ f__v0 (SL.mono R_Section_mono (HSub.trans hs3 hs116) hf__0) section_ y126 y131 hy131) rfl en_35 .none rfl ?_
      refine JL.doneQ hQ ?_
      refine JQ.go ?_
      refine JC.fresh (fun f => f 1 = .int .i64 section_ ∧ f 2 = .pointer (some ⟨b1, 0, none⟩) ∧ f 4 = .int .i64 some_114 ∧ f 6 = y2a_v0 ∧ f 7 = .int .i64 i_115 ∧ f 23 = .bool y131) ⟨rfl, rfl, rfl, rfl, rfl, rfl⟩ ?_
      rintro f ⟨hf1, hf2, hf4, hf6, hf7, hf23⟩
      refine (JC.norm (i := 1) hf1 (JC.norm (i := 2) hf2 (JC.norm (i := 4) hf4 (JC.norm (i := 6) hf6 (JC.norm (i := 7) hf7 (JC.norm (i := 23) hf23 ?_))))))
      obtain ⟨r135, hlr135, hKr135⟩ := bind_some hF
      refine JC.join (fun (some_133 : Int) H134 f bs gs => f 1 = .int .i64 section_ ∧ f 2 = .pointer (some ⟨b1, 0, none⟩) ∧ f 4 = .int .i64 some_133 ∧ f 6 = y2a_v0 ∧ f 7 = .int .i64 i_115 ∧ bs = [(b1, .cells [f__v0, .int .i64 f_.Low, .int .i64 f_.High, .int .i64 f_.Ease.Num, .int .i64 f_.Ease.Den, .int .i64 f_.Rod, .int .i64 f_.Case].toArray 26)] ∧ gs = [] ∧ HSub H116 H134 ∧ some_133 = r135) ?_ ?_
      · have hF := hlr135
        rcases ite_some hF with ⟨hc136, hF⟩ | ⟨hc136, hF⟩
        · refine JC.cond_t (b := y131) rfl hc136 ?_
          refine JC.region (by rfl) ?_
          intro hQ
          refine JL.move .none rfl ?_
          refine JL.bin rfl rfl rfl .none rfl ?_
          refine JL.assign .none rfl ?_
          refine JL.done hQ ?_
          obtain rfl := Option.some.inj hF
          exact JQ.join (w64 (some_114 + 1)) ⟨rfl, rfl, rfl, rfl, rfl, rfl, rfl, (HSub.refl _), rfl⟩
        · refine JC.cond_f (b := y131) rfl hc136 ?_
          refine JC.skip ?_
          obtain rfl := Option.some.inj hF
          exact JQ.join some_114 ⟨rfl, rfl, rfl, rfl, rfl, rfl, rfl, (HSub.refl _), rfl⟩
      · rintro some_133 H134 f bs gs ⟨hf1, hf2, hf4, hf6, hf7, rfl, rfl, hs134, rfl⟩
        have hF := hKr135
        try dsimp only at hF
        refine (JQ.norm (i := 1) hf1 (JQ.norm (i := 2) hf2 (JQ.norm (i := 4) hf4 (JQ.norm (i := 6) hf6 (JQ.norm (i := 7) hf7 ?_)))))
        refine JQ.normal_block ?_
        refine JQ.go ?_
        refine JC.region (by rfl) ?_
        intro hQ
        refine JL.move .none rfl ?_
        refine JL.bin rfl rfl rfl .none rfl ?_
        refine JL.assign .none rfl ?_
        refine JL.done hQ ?_
        obtain rfl := Option.some.inj hF
        exact JQ.next rfl ⟨rfl, rfl, rfl, rfl, rfl, rfl, rfl, (HSub.trans hs116 hs134)⟩
    · refine JC.cond_f (b := decide (i_115 < (y2.length : Int))) rfl hc119 ?_
      refine JC.exit ?_
      refine JQ.exit_then ?_
      refine JQ.exit_then ?_
      refine JQ.exit_block ?_
      obtain rfl := Option.some.inj hF
      have ehr117 := hr117 _ rfl
      subst ehr117
      refine JQ.mask [false] [] ?_
      exact JQ.join some_114 ⟨rfl, rfl, rfl, rfl, hs116, rfl⟩
  · rintro some_69 H70 f bs gs ⟨hf4, hf6, rfl, rfl, hs70, rfl⟩
    have hF := hKr71
    try dsimp only at hF
    refine (JQ.norm (i := 4) hf4 (JQ.norm (i := 6) hf6 ?_))
    refine JQ.go ?_
    refine JC.seq ?_
    refine JC.region (by rfl) ?_
    intro hQ
    refine JL.move .none rfl ?_
    refine JL.move .none rfl ?_
    refine JL.lenSL (R := R_ref01_Pair) ul_40 (SL.mono R_ref01_Pair_mono hs70 hy2a_0) .none rfl ?_
    refine JL.assign .none rfl ?_
    refine JL.assign .none rfl ?_
    refine JL.done hQ ?_
    refine JQ.go ?_
    refine JC.ret ?_
    obtain rfl := Option.some.inj hF
    exact JQ.outS rfl (.tmp (.tmp .nil)) rfl

-- 42 ferrule/ferruleref01.Opens
def F_ref01_Opens_s1 (n : Nat) (f_ : Frame) : Int × Int → Option ((Int × Int) ⊕ ((Int × Int) ⊕ Int))
  | (out_69, i_70) => if decide (i_70 < (f_.Sections.length : Int)) = true then ((F_ref01_free n f_ i_70).bind fun y75 => (F_ref01_is n y75.1 y75.2).bind fun y76 => if (y76 == 2) = true then (some (Sum.inr (Sum.inl (2, 0)))) else ((if (y76 == 3) = true then (some 3) else (some out_69)).bind fun out_79 => some (Sum.inl (out_79, (w64 (i_70 + 1)))))) else (some (Sum.inr (Sum.inr out_69)))
def F_ref01_Opens (n : Nat) (f_ : Frame) : Option (Int × Int) :=
  (F_ref01_Check n f_).bind fun y2 => if (y2 != 0) = true then (some (0, y2)) else ((loopO n (F_ref01_Opens_s1 n f_) (1, 0)).bind fun r44 => match r44 with | .inl o => some o | .inr out_42 => some (out_42, 0))
set_option maxRecDepth 100000 in
set_option maxHeartbeats 40000000 in
theorem c_ref01_Opens (n : Nat) (H : Hp) (f_ : Frame) (f__v0 : Value) (hf__0 : SL H 7 R_Section f__v0 f_.Sections) (y : Int × Int) (hF : F_ref01_Opens n f_ = some y) : SC Try.prog 42 [.agg [f__v0, .int .i64 f_.Low, .int .i64 f_.High, .int .i64 f_.Ease.Num, .int .i64 f_.Ease.Den, .int .i64 f_.Rod, .int .i64 f_.Case].toArray] (.tuple [.int .i64 y.1, .int .i64 y.2].toArray) H := by
  rw [F_ref01_Opens] at hF
  refine SC.of (N := 35) Try.func42 rfl rfl rfl fun w => ?_
  refine JC.seq ?_
  refine JC.region (by rfl) ?_
  intro hQ
  refine JL.box (cs := [f__v0, .int .i64 f_.Low, .int .i64 f_.High, .int .i64 f_.Ease.Num, .int .i64 f_.Ease.Den, .int .i64 f_.Rod, .int .i64 f_.Case]) rfl .none rfl ?_
  intro b1
  refine JL.assign .none rfl ?_
  refine JL.assign .none rfl ?_
  refine JL.done hQ ?_
  refine JQ.go ?_
  refine JC.seq ?_
  refine JC.seq ?_
  refine JC.region (by rfl) ?_
  intro hQ
  refine JL.loadOwn 0 az_26 rfl rfl rfl .none rfl ?_
  obtain ⟨y2, hy2, hF⟩ := bind_some hF
  refine JL.callS (c_ref01_Check n H f_ f__v0 hf__0 y2 hy2) rfl en_15 .none rfl ?_
  refine JL.assign .none rfl ?_
  refine JL.done hQ ?_
  refine JQ.go ?_
  refine JC.seq ?_
  refine JC.region (by rfl) ?_
  intro hQ
  refine JL.move .none rfl ?_
  refine JL.bin rfl rfl rfl .none rfl ?_
  refine JL.done hQ ?_
  refine JQ.go ?_
  rcases ite_some hF with ⟨hc3, hF⟩ | ⟨hc3, hF⟩
  · refine JC.cond_t (b := (y2 != 0)) rfl hc3 ?_
    refine JC.seq ?_
    refine JC.region (by rfl) ?_
    intro hQ
    refine JL.move .none rfl ?_
    refine JL.assign .none rfl ?_
    refine JL.assign .none rfl ?_
    refine JL.done hQ ?_
    refine JQ.go ?_
    refine JC.ret ?_
    refine JQ.ret_then ?_
    obtain rfl := Option.some.inj hF
    exact JQ.outS rfl (.tmp (.tmp .nil)) rfl
  · refine JC.cond_f (b := (y2 != 0)) rfl hc3 ?_
    refine JC.skip ?_
    refine JQ.go ?_
    refine JC.seq ?_
    refine JC.region (by rfl) ?_
    intro hQ
    refine JL.assign .none rfl ?_
    refine JL.done hQ ?_
    refine JQ.go ?_
    refine JC.seq ?_
    refine JC.seq ?_
    refine JC.region (by rfl) ?_
    intro hQ
    refine JL.assign .none rfl ?_
    refine JL.done hQ ?_
    refine JQ.go ?_
    obtain ⟨r44, hlr44, hKr44⟩ := bind_some hF
    refine JC.join (fun (out_42 : Int) H43 f bs gs => f 5 = .int .i64 out_42 ∧ bs = [] ∧ gs = [] ∧ HSub H H43 ∧ Sum.inr out_42 = r44) ?_ ?_
    · skip
      refine JC.block ?_
      refine JC.loop hlr44 (fun (x : Int × Int) H71 f bs gs => match x with | (out_69, i_70) => f 1 = .pointer (some ⟨b1, 0, none⟩) ∧ f 5 = .int .i64 out_69 ∧ f 6 = .int .i64 i_70 ∧ bs = [(b1, .cells [f__v0, .int .i64 f_.Low, .int .i64 f_.High, .int .i64 f_.Ease.Num, .int .i64 f_.Ease.Den, .int .i64 f_.Rod, .int .i64 f_.Case].toArray 26)] ∧ gs = [] ∧ HSub H H71) ⟨rfl, rfl, rfl, rfl, rfl, (HSub.refl _)⟩ ?_
      rintro ⟨out_69, i_70⟩ x73 H71 f bs gs ⟨hf1, hf5, hf6, rfl, rfl, hs71⟩ hF hr72
      rw [F_ref01_Opens_s1] at hF
      refine (JC.norm (i := 1) hf1 (JC.norm (i := 5) hf5 (JC.norm (i := 6) hf6 ?_)))
      refine JC.seq ?_
      refine JC.seq ?_
      refine JC.region (by rfl) ?_
      intro hQ
      refine JL.move .none rfl ?_
      refine JL.fieldAddr fo_26_0 rfl .none rfl ?_
      refine JL.loadOwn 0 az_22 rfl rfl rfl .none rfl ?_
      refine JL.lenSL (R := R_Section) ul_22 (SL.mono R_Section_mono hs71 hf__0) .none rfl ?_
      refine JL.bin rfl rfl rfl .none rfl ?_
      refine JL.done hQ ?_
      refine JQ.go ?_
      rcases ite_some hF with ⟨hc74, hF⟩ | ⟨hc74, hF⟩
      · refine JC.cond_t (b := decide (i_70 < (f_.Sections.length : Int))) rfl hc74 ?_
        refine JC.skip ?_
        refine JQ.go ?_
        refine JC.seq ?_
        refine JC.block ?_
        refine JC.seq ?_
        refine JC.region (by rfl) ?_
        intro hQ
        refine JL.loadOwn 0 az_26 rfl rfl rfl .none rfl ?_
        refine JL.move .none rfl ?_
        obtain ⟨y75, hy75, hF⟩ := bind_some hF
        refine JL.callS (c_ref01_free n H71 f_ f__v0 (SL.mono R_Section_mono hs71 hf__0) i_70 y75 hy75) rfl en_73 .none rfl ?_
        refine JL.move .none rfl ?_
        refine JL.extract rfl rfl .none rfl ?_
        refine JL.extract rfl rfl .none rfl ?_
        refine JL.assign .none rfl ?_
        refine JL.assign .none rfl ?_
        refine JL.done hQ ?_
        refine JQ.go ?_
        refine JC.fresh (fun f => f 1 = .pointer (some ⟨b1, 0, none⟩) ∧ f 5 = .int .i64 out_69 ∧ f 6 = .int .i64 i_70 ∧ f 7 = .int .i64 y75.1 ∧ f 8 = .int .i64 y75.2) ⟨rfl, rfl, rfl, rfl, rfl⟩ ?_
        rintro f ⟨hf1, hf5, hf6, hf7, hf8⟩
        refine (JC.norm (i := 1) hf1 (JC.norm (i := 5) hf5 (JC.norm (i := 6) hf6 (JC.norm (i := 7) hf7 (JC.norm (i := 8) hf8 ?_)))))
        refine JC.seq ?_
        refine JC.region (by rfl) ?_
        intro hQ
        refine JL.move .none rfl ?_
        refine JL.move .none rfl ?_
        obtain ⟨y76, hy76, hF⟩ := bind_some hF
        refine JL.callS (c_ref01_is n H71 y75.1 y75.2 y76 hy76) rfl en_67 .none rfl ?_
        refine JL.done hQ ?_
        refine JQ.go ?_
        refine JC.block ?_
        refine JC.seq ?_
        refine JC.region (by rfl) ?_
        intro hQ
        refine JL.bin rfl rfl rfl .none rfl ?_
        refine JL.assign .none rfl ?_
        refine JL.done hQ ?_
        refine JQ.go ?_
        rcases ite_some hF with ⟨hc77, hF⟩ | ⟨hc77, hF⟩
        · refine JC.cond_t (b := (y76 == 2)) rfl hc77 ?_
          refine JC.seq ?_
          refine JC.region (by rfl) ?_
          intro hQ
          refine JL.assign .none rfl ?_
          refine JL.assign .none rfl ?_
          refine JL.done hQ ?_
          refine JQ.go ?_
          refine JC.ret ?_
          refine JQ.ret_block ?_
          refine JQ.ret_block ?_
          refine JQ.ret_then ?_
          refine JQ.ret_then ?_
          refine JQ.ret_block ?_
          refine JQ.ret_join ?_
          refine JQ.ret_then ?_
          obtain rfl := Option.some.inj hF
          have ehr72 := hr72 _ rfl
          subst ehr72
          have hF := hKr44
          try dsimp only at hF
          obtain rfl := Option.some.inj hF
          exact JQ.outS rfl (.tmp (.tmp .nil)) rfl
        · refine JC.cond_f (b := (y76 == 2)) rfl hc77 ?_
          refine JC.seq ?_
          refine JC.region (by rfl) ?_
          intro hQ
          refine JL.bin rfl rfl rfl .none rfl ?_
          refine JL.assign .none rfl ?_
          refine JL.done hQ ?_
          refine JQ.go ?_
          obtain ⟨r81, hlr81, hKr81⟩ := bind_some hF
          refine JC.join (fun (out_79 : Int) H80 f bs gs => f 1 = .pointer (some ⟨b1, 0, none⟩) ∧ f 5 = .int .i64 out_79 ∧ f 6 = .int .i64 i_70 ∧ bs = [(b1, .cells [f__v0, .int .i64 f_.Low, .int .i64 f_.High, .int .i64 f_.Ease.Num, .int .i64 f_.Ease.Den, .int .i64 f_.Rod, .int .i64 f_.Case].toArray 26)] ∧ gs = [] ∧ HSub H71 H80 ∧ out_79 = r81) ?_ ?_
          · have hF := hlr81
            rcases ite_some hF with ⟨hc82, hF⟩ | ⟨hc82, hF⟩
            · refine JC.cond_t (b := (y76 == 3)) rfl hc82 ?_
              refine JC.region (by rfl) ?_
              intro hQ
              refine JL.assign .none rfl ?_
              refine JL.done hQ ?_
              obtain rfl := Option.some.inj hF
              exact JQ.join 3 ⟨rfl, rfl, rfl, rfl, rfl, (HSub.refl _), rfl⟩
            · refine JC.cond_f (b := (y76 == 3)) rfl hc82 ?_
              refine JC.skip ?_
              obtain rfl := Option.some.inj hF
              exact JQ.join out_69 ⟨rfl, rfl, rfl, rfl, rfl, (HSub.refl _), rfl⟩
          · rintro out_79 H80 f bs gs ⟨hf1, hf5, hf6, rfl, rfl, hs80, rfl⟩
            have hF := hKr81
            try dsimp only at hF
            refine (JQ.norm (i := 1) hf1 (JQ.norm (i := 5) hf5 (JQ.norm (i := 6) hf6 ?_)))
            refine JQ.normal_block ?_
            refine JQ.normal_block ?_
            refine JQ.go ?_
            refine JC.region (by rfl) ?_
            intro hQ
            refine JL.move .none rfl ?_
            refine JL.bin rfl rfl rfl .none rfl ?_
            refine JL.assign .none rfl ?_
            refine JL.done hQ ?_
            obtain rfl := Option.some.inj hF
            exact JQ.next rfl ⟨rfl, rfl, rfl, rfl, rfl, (HSub.trans hs71 hs80)⟩
      · refine JC.cond_f (b := decide (i_70 < (f_.Sections.length : Int))) rfl hc74 ?_
        refine JC.exit ?_
        refine JQ.exit_then ?_
        refine JQ.exit_then ?_
        refine JQ.exit_block ?_
        obtain rfl := Option.some.inj hF
        have ehr72 := hr72 _ rfl
        subst ehr72
        refine JQ.mask [false] [] ?_
        exact JQ.join out_69 ⟨rfl, rfl, rfl, hs71, rfl⟩
    · rintro out_42 H43 f bs gs ⟨hf5, rfl, rfl, hs43, rfl⟩
      have hF := hKr44
      try dsimp only at hF
      refine (JQ.norm (i := 5) hf5 ?_)
      refine JQ.go ?_
      refine JC.seq ?_
      refine JC.region (by rfl) ?_
      intro hQ
      refine JL.move .none rfl ?_
      refine JL.assign .none rfl ?_
      refine JL.assign .none rfl ?_
      refine JL.done hQ ?_
      refine JQ.go ?_
      refine JC.ret ?_
      obtain rfl := Option.some.inj hF
      exact JQ.outS rfl (.tmp (.tmp .nil)) rfl

-- 43 ferrule/ferruleref01.Turns
def F_ref01_Turns_s1 (n : Nat) (f_ : Frame) (section_ : Int) (y7 : (List ref01_Pair)) : Int × Int → Option ((Int × Int) ⊕ Int)
  | (some_119, i_120) => if decide (i_120 < (y7.length : Int)) = true then ((geti y7 i_120).bind fun y131 => (F_ref01_TurnsWith n f_ section_ y131).bind fun y136 => (if y136 = true then (some (w64 (some_119 + 1))) else (some some_119)).bind fun some_138 => some (Sum.inl (some_138, (w64 (i_120 + 1))))) else (some (Sum.inr some_119))
def F_ref01_Turns (n : Nat) (f_ : Frame) (section_ : Int) : Option (Int × Int) :=
  (F_ref01_IsSection n f_ section_).bind fun y4 => (F_ref01_check n f_ y4).bind fun y5 => if (y5 != 0) = true then (some (0, y5)) else ((F_ref01_Pairs n f_ section_).bind fun y7 => (loopO n (F_ref01_Turns_s1 n f_ section_ y7) (0, 0)).bind fun some_74 => (F_ref01_is n some_74 (y7.length : Int)).bind fun y142 => some (y142, 0))
set_option maxRecDepth 100000 in
set_option maxHeartbeats 40000000 in
theorem c_ref01_Turns (n : Nat) (H : Hp) (f_ : Frame) (f__v0 : Value) (hf__0 : SL H 7 R_Section f__v0 f_.Sections) (section_ : Int) (y : Int × Int) (hF : F_ref01_Turns n f_ section_ = some y) : SC Try.prog 43 [.agg [f__v0, .int .i64 f_.Low, .int .i64 f_.High, .int .i64 f_.Ease.Num, .int .i64 f_.Ease.Den, .int .i64 f_.Rod, .int .i64 f_.Case].toArray, .int .i64 section_] (.tuple [.int .i64 y.1, .int .i64 y.2].toArray) H := by
  rw [F_ref01_Turns] at hF
  refine SC.of (N := 40) Try.func43 rfl rfl rfl fun w => ?_
  refine JC.seq ?_
  refine JC.region (by rfl) ?_
  intro hQ
  refine JL.box (cs := [f__v0, .int .i64 f_.Low, .int .i64 f_.High, .int .i64 f_.Ease.Num, .int .i64 f_.Ease.Den, .int .i64 f_.Rod, .int .i64 f_.Case]) rfl .none rfl ?_
  intro b1
  refine JL.assign .none rfl ?_
  refine JL.assign .none rfl ?_
  refine JL.done hQ ?_
  refine JQ.go ?_
  refine JC.seq ?_
  refine JC.seq ?_
  refine JC.draw (by rfl) mo_ (by kernel_rfl) ?_
  intro hQ
  refine JL.loadOwn 0 az_26 rfl rfl rfl .none rfl ?_
  refine JL.loadOwn 0 az_26 rfl rfl rfl .none rfl ?_
  refine JL.move .none rfl ?_
  obtain ⟨y4, hy4, hF⟩ := bind_some hF
  refine JL.callS (c_ref01_IsSection n H f_ f__v0 hf__0 section_ y4 hy4) rfl en_40 .none rfl ?_
  obtain ⟨y5, hy5, hF⟩ := bind_some hF
  refine JL.callS (c_ref01_check n H f_ f__v0 hf__0 y4 y5 hy5) rfl en_58 .none rfl ?_
  refine JL.assign .none rfl ?_
  refine JL.doneQ hQ ?_
  refine JQ.go ?_
  refine JC.seq ?_
  refine JC.region (by rfl) ?_
  intro hQ
  refine JL.move .none rfl ?_
  refine JL.bin rfl rfl rfl .none rfl ?_
  refine JL.done hQ ?_
  refine JQ.go ?_
  rcases ite_some hF with ⟨hc6, hF⟩ | ⟨hc6, hF⟩
  · refine JC.cond_t (b := (y5 != 0)) rfl hc6 ?_
    refine JC.seq ?_
    refine JC.region (by rfl) ?_
    intro hQ
    refine JL.move .none rfl ?_
    refine JL.assign .none rfl ?_
    refine JL.assign .none rfl ?_
    refine JL.done hQ ?_
    refine JQ.go ?_
    refine JC.fresh (fun f => f 4 = .int .i64 0 ∧ f 5 = .int .i64 y5) ⟨rfl, rfl⟩ ?_
    rintro f ⟨hf4, hf5⟩
    refine (JC.norm (i := 4) hf4 (JC.norm (i := 5) hf5 ?_))
    refine JC.ret ?_
    refine JQ.ret_then ?_
    obtain rfl := Option.some.inj hF
    exact JQ.outS rfl (.tmp (.tmp .nil)) rfl
  · refine JC.cond_f (b := (y5 != 0)) rfl hc6 ?_
    refine JC.skip ?_
    refine JQ.go ?_
    refine JC.seq ?_
    refine JC.region (by rfl) ?_
    intro hQ
    refine JL.loadOwn 0 az_26 rfl rfl rfl .none rfl ?_
    refine JL.move .none rfl ?_
    obtain ⟨y7, hy7, hF⟩ := bind_some hF
    refine JL.callH (c_ref01_Pairs n H f_ f__v0 hf__0 section_ y7 hy7) rfl en_25 .none rfl ?_
    intro H8 y7a_v0 hs8 hy7a_0
    refine JL.assign .none rfl ?_
    refine JL.done hQ ?_
    refine JQ.go ?_
    refine JC.fresh (fun f => f 1 = .int .i64 section_ ∧ f 2 = .pointer (some ⟨b1, 0, none⟩) ∧ f 4 = .int .i64 0 ∧ f 5 = .int .i64 0 ∧ f 7 = y7a_v0) ⟨rfl, rfl, rfl, rfl, rfl⟩ ?_
    rintro f ⟨hf1, hf2, hf4, hf5, hf7⟩
    refine (JC.norm (i := 1) hf1 (JC.norm (i := 2) hf2 (JC.norm (i := 4) hf4 (JC.norm (i := 5) hf5 (JC.norm (i := 7) hf7 ?_)))))
    refine JC.seq ?_
    refine JC.region (by rfl) ?_
    intro hQ
    refine JL.assign .none rfl ?_
    refine JL.done hQ ?_
    refine JQ.go ?_
    refine JC.seq ?_
    refine JC.seq ?_
    refine JC.region (by rfl) ?_
    intro hQ
    refine JL.assign .none rfl ?_
    refine JL.done hQ ?_
    refine JQ.go ?_
    obtain ⟨r76, hlr76, hKr76⟩ := bind_some hF
    refine JC.join (fun (some_74 : Int) H75 f bs gs => f 7 = y7a_v0 ∧ f 8 = .int .i64 some_74 ∧ bs = [] ∧ gs = [] ∧ HSub H8 H75 ∧ some_74 = r76) ?_ ?_
    · skip
      refine JC.block ?_
      refine JC.loop hlr76 (fun (x : Int × Int) H121 f bs gs => match x with | (some_119, i_120) => f 1 = .int .i64 section_ ∧ f 2 = .pointer (some ⟨b1, 0, none⟩) ∧ f 7 = y7a_v0 ∧ f 8 = .int .i64 some_119 ∧ f 9 = .int .i64 i_120 ∧ bs = [(b1, .cells [f__v0, .int .i64 f_.Low, .int .i64 f_.High, .int .i64 f_.Ease.Num, .int .i64 f_.Ease.Den, .int .i64 f_.Rod, .int .i64 f_.Case].toArray 26)] ∧ gs = [] ∧ HSub H8 H121) ⟨rfl, rfl, rfl, rfl, rfl, rfl, rfl, (HSub.refl _)⟩ ?_
      rintro ⟨some_119, i_120⟩ x123 H121 f bs gs ⟨hf1, hf2, hf7, hf8, hf9, rfl, rfl, hs121⟩ hF hr122
      rw [F_ref01_Turns_s1] at hF
      refine (JC.norm (i := 1) hf1 (JC.norm (i := 2) hf2 (JC.norm (i := 7) hf7 (JC.norm (i := 8) hf8 (JC.norm (i := 9) hf9 ?_)))))
      refine JC.seq ?_
      refine JC.seq ?_
      refine JC.region (by rfl) ?_
      intro hQ
      refine JL.move .none rfl ?_
      refine JL.move .none rfl ?_
      refine JL.lenSL (R := R_ref01_Pair) ul_40 (SL.mono R_ref01_Pair_mono hs121 hy7a_0) .none rfl ?_
      refine JL.bin rfl rfl rfl .none rfl ?_
      refine JL.done hQ ?_
      refine JQ.go ?_
      rcases ite_some hF with ⟨hc124, hF⟩ | ⟨hc124, hF⟩
      · refine JC.cond_t (b := decide (i_120 < (y7.length : Int))) rfl hc124 ?_
        refine JC.skip ?_
        refine JQ.go ?_
        refine JC.seq ?_
        refine JC.block ?_
        refine JC.seq ?_
        refine JC.draw (by rfl) mo_ (by kernel_rfl) ?_
        intro hQ
        refine JL.loadOwn 0 az_26 rfl rfl rfl .none rfl ?_
        refine JL.move .none rfl ?_
        refine JL.move .none rfl ?_
        refine JL.move .none rfl ?_
        obtain ⟨y131, hy131, hF⟩ := bind_some hF
        refine JL.indexSL (R := R_ref01_Pair) sl_40 (SL.mono R_ref01_Pair_mono hs121 hy7a_0) rfl hy131 .none rfl ?_
        rintro b132 o133 cs134 hc135 - rfl
        refine JL.loadH 0 az_45 rfl hc135 rfl .none rfl ?_
        obtain ⟨y136, hy136, hF⟩ := bind_some hF
        refine JL.callS (c_ref01_TurnsWith n H121 f_ f__v0 (SL.mono R_Section_mono (HSub.trans hs8 hs121) hf__0) section_ y131 y136 hy136) rfl en_39 .none rfl ?_
        refine JL.doneQ hQ ?_
        refine JQ.go ?_
        refine JC.fresh (fun f => f 1 = .int .i64 section_ ∧ f 2 = .pointer (some ⟨b1, 0, none⟩) ∧ f 7 = y7a_v0 ∧ f 8 = .int .i64 some_119 ∧ f 9 = .int .i64 i_120 ∧ f 33 = .bool y136) ⟨rfl, rfl, rfl, rfl, rfl, rfl⟩ ?_
        rintro f ⟨hf1, hf2, hf7, hf8, hf9, hf33⟩
        refine (JC.norm (i := 1) hf1 (JC.norm (i := 2) hf2 (JC.norm (i := 7) hf7 (JC.norm (i := 8) hf8 (JC.norm (i := 9) hf9 (JC.norm (i := 33) hf33 ?_))))))
        obtain ⟨r140, hlr140, hKr140⟩ := bind_some hF
        refine JC.join (fun (some_138 : Int) H139 f bs gs => f 1 = .int .i64 section_ ∧ f 2 = .pointer (some ⟨b1, 0, none⟩) ∧ f 7 = y7a_v0 ∧ f 8 = .int .i64 some_138 ∧ f 9 = .int .i64 i_120 ∧ bs = [(b1, .cells [f__v0, .int .i64 f_.Low, .int .i64 f_.High, .int .i64 f_.Ease.Num, .int .i64 f_.Ease.Den, .int .i64 f_.Rod, .int .i64 f_.Case].toArray 26)] ∧ gs = [] ∧ HSub H121 H139 ∧ some_138 = r140) ?_ ?_
        · have hF := hlr140
          rcases ite_some hF with ⟨hc141, hF⟩ | ⟨hc141, hF⟩
          · refine JC.cond_t (b := y136) rfl hc141 ?_
            refine JC.region (by rfl) ?_
            intro hQ
            refine JL.move .none rfl ?_
            refine JL.bin rfl rfl rfl .none rfl ?_
            refine JL.assign .none rfl ?_
            refine JL.done hQ ?_
            obtain rfl := Option.some.inj hF
            exact JQ.join (w64 (some_119 + 1)) ⟨rfl, rfl, rfl, rfl, rfl, rfl, rfl, (HSub.refl _), rfl⟩
          · refine JC.cond_f (b := y136) rfl hc141 ?_
            refine JC.skip ?_
            obtain rfl := Option.some.inj hF
            exact JQ.join some_119 ⟨rfl, rfl, rfl, rfl, rfl, rfl, rfl, (HSub.refl _), rfl⟩
        · rintro some_138 H139 f bs gs ⟨hf1, hf2, hf7, hf8, hf9, rfl, rfl, hs139, rfl⟩
          have hF := hKr140
          try dsimp only at hF
          refine (JQ.norm (i := 1) hf1 (JQ.norm (i := 2) hf2 (JQ.norm (i := 7) hf7 (JQ.norm (i := 8) hf8 (JQ.norm (i := 9) hf9 ?_)))))
          refine JQ.normal_block ?_
          refine JQ.go ?_
          refine JC.region (by rfl) ?_
          intro hQ
          refine JL.move .none rfl ?_
          refine JL.bin rfl rfl rfl .none rfl ?_
          refine JL.assign .none rfl ?_
          refine JL.done hQ ?_
          obtain rfl := Option.some.inj hF
          exact JQ.next rfl ⟨rfl, rfl, rfl, rfl, rfl, rfl, rfl, (HSub.trans hs121 hs139)⟩
      · refine JC.cond_f (b := decide (i_120 < (y7.length : Int))) rfl hc124 ?_
        refine JC.exit ?_
        refine JQ.exit_then ?_
        refine JQ.exit_then ?_
        refine JQ.exit_block ?_
        obtain rfl := Option.some.inj hF
        have ehr122 := hr122 _ rfl
        subst ehr122
        refine JQ.mask [false] [] ?_
        exact JQ.join some_119 ⟨rfl, rfl, rfl, rfl, hs121, rfl⟩
    · rintro some_74 H75 f bs gs ⟨hf7, hf8, rfl, rfl, hs75, rfl⟩
      have hF := hKr76
      try dsimp only at hF
      refine (JQ.norm (i := 7) hf7 (JQ.norm (i := 8) hf8 ?_))
      refine JQ.go ?_
      refine JC.seq ?_
      refine JC.region (by rfl) ?_
      intro hQ
      refine JL.move .none rfl ?_
      refine JL.move .none rfl ?_
      refine JL.lenSL (R := R_ref01_Pair) ul_40 (SL.mono R_ref01_Pair_mono hs75 hy7a_0) .none rfl ?_
      obtain ⟨y142, hy142, hF⟩ := bind_some hF
      refine JL.callS (c_ref01_is n H75 some_74 (y7.length : Int) y142 hy142) rfl en_67 .none rfl ?_
      refine JL.assign .none rfl ?_
      refine JL.assign .none rfl ?_
      refine JL.done hQ ?_
      refine JQ.go ?_
      refine JC.ret ?_
      obtain rfl := Option.some.inj hF
      exact JQ.outS rfl (.tmp (.tmp .nil)) rfl

-- 44 ferrule/ferruleref01.Blame
def F_ref01_Blame_s1 (n : Nat) (f_ : Frame) : Int × List Int → Option ((Int × List Int) ⊕ (List Int))
  | (i_136, out_137) => if decide (i_136 < (f_.Sections.length : Int)) = true then ((F_ref01_free n f_ i_136).bind fun y142 => (if (y142.1 == 0) = true then ((lim (out_137 ++ [i_136])).bind fun l154 => some l154) else (some out_137)).bind fun out_149 => some (Sum.inl ((w64 (i_136 + 1)), out_149))) else (some (Sum.inr out_137))
def F_ref01_Blame (n : Nat) (f_ : Frame) : Option ((List Int) × Int) :=
  (F_ref01_Check n f_).bind fun y2 => if (y2 != 0) = true then (some (([] : List Int), y2)) else ((loopO n (F_ref01_Blame_s1 n f_) (0, ([] : List Int))).bind fun out_93 => some (out_93, 0))
set_option maxRecDepth 100000 in
set_option maxHeartbeats 40000000 in
theorem c_ref01_Blame (n : Nat) (H : Hp) (f_ : Frame) (f__v0 : Value) (hf__0 : SL H 7 R_Section f__v0 f_.Sections) (y : (List Int) × Int) (hF : F_ref01_Blame n f_ = some y) : HC Try.prog 44 [.agg [f__v0, .int .i64 f_.Low, .int .i64 f_.High, .int .i64 f_.Ease.Num, .int .i64 f_.Ease.Den, .int .i64 f_.Rod, .int .i64 f_.Case].toArray] H (fun H' v => ∃ ra_v0 : Value, v = .tuple [ra_v0, .int .i64 y.2].toArray ∧ SL H' 1 RInt ra_v0 y.1) := by
  rw [F_ref01_Blame] at hF
  refine HC.of (N := 34) Try.func44 rfl rfl rfl fun w => ?_
  refine JC.seq ?_
  refine JC.region (by rfl) ?_
  intro hQ
  refine JL.box (cs := [f__v0, .int .i64 f_.Low, .int .i64 f_.High, .int .i64 f_.Ease.Num, .int .i64 f_.Ease.Den, .int .i64 f_.Rod, .int .i64 f_.Case]) rfl .none rfl ?_
  intro b1
  refine JL.assign .none rfl ?_
  refine JL.assign .none rfl ?_
  refine JL.done hQ ?_
  refine JQ.go ?_
  refine JC.seq ?_
  refine JC.seq ?_
  refine JC.region (by rfl) ?_
  intro hQ
  refine JL.loadOwn 0 az_26 rfl rfl rfl .none rfl ?_
  obtain ⟨y2, hy2, hF⟩ := bind_some hF
  refine JL.callS (c_ref01_Check n H f_ f__v0 hf__0 y2 hy2) rfl en_15 .none rfl ?_
  refine JL.assign .none rfl ?_
  refine JL.done hQ ?_
  refine JQ.go ?_
  refine JC.seq ?_
  refine JC.region (by rfl) ?_
  intro hQ
  refine JL.move .none rfl ?_
  refine JL.bin rfl rfl rfl .none rfl ?_
  refine JL.done hQ ?_
  refine JQ.go ?_
  rcases ite_some hF with ⟨hc3, hF⟩ | ⟨hc3, hF⟩
  · refine JC.cond_t (b := (y2 != 0)) rfl hc3 ?_
    refine JC.seq ?_
    refine JC.region (by rfl) ?_
    intro hQ
    refine JL.move .none rfl ?_
    refine JL.assign .none rfl ?_
    refine JL.assign .none rfl ?_
    refine JL.done hQ ?_
    refine JQ.go ?_
    refine JC.ret ?_
    refine JQ.ret_then ?_
    obtain rfl := Option.some.inj hF
    exact JQ.outH rfl (.tmp (.tmp .nil)) ⟨(.slice none 0 0), rfl, SL.nil⟩
  · refine JC.cond_f (b := (y2 != 0)) rfl hc3 ?_
    refine JC.skip ?_
    refine JQ.go ?_
    refine JC.seq ?_
    refine JC.region (by rfl) ?_
    intro hQ
    refine JL.assign .none rfl ?_
    refine JL.done hQ ?_
    refine JQ.go ?_
    refine JC.seq ?_
    refine JC.seq ?_
    refine JC.region (by rfl) ?_
    intro hQ
    refine JL.assign .none rfl ?_
    refine JL.done hQ ?_
    refine JQ.go ?_
    refine JC.newNil (e := 3) (sz := 1) ?_
    obtain ⟨r95, hlr95, hKr95⟩ := bind_some hF
    refine JC.join (fun (out_93 : List Int) H94 f bs gs => ∃ (vout_93 : Value) (xsout_93 : List Value), f 5 = vout_93 ∧ bs = [] ∧ gs = [⟨vout_93, 3, 1, out_93.length, xsout_93⟩] ∧ CH H94 1 RInt xsout_93 out_93 ∧ HSub H H94 ∧ out_93 = r95) ?_ ?_
    · skip
      refine JC.block ?_
      refine JC.loop hlr95 (fun (x : Int × List Int) H138 f bs gs => match x with | (i_136, out_137) => ∃ (vout_137 : Value) (xsout_137 : List Value), f 1 = .pointer (some ⟨b1, 0, none⟩) ∧ f 5 = vout_137 ∧ f 6 = .int .i64 i_136 ∧ bs = [(b1, .cells [f__v0, .int .i64 f_.Low, .int .i64 f_.High, .int .i64 f_.Ease.Num, .int .i64 f_.Ease.Den, .int .i64 f_.Rod, .int .i64 f_.Case].toArray 26)] ∧ gs = [⟨vout_137, 3, 1, out_137.length, xsout_137⟩] ∧ CH H138 1 RInt xsout_137 out_137 ∧ HSub H H138) ⟨(.slice none 0 0), [], rfl, rfl, rfl, rfl, rfl, CH.nil, (HSub.refl _)⟩ ?_
      rintro ⟨i_136, out_137⟩ x140 H138 f bs gs ⟨vout_137, xsout_137, hf1, hf5, hf6, rfl, rfl, hout_137, hs138⟩ hF hr139
      rw [F_ref01_Blame_s1] at hF
      refine (JC.norm (i := 1) hf1 (JC.norm (i := 5) hf5 (JC.norm (i := 6) hf6 ?_)))
      refine JC.seq ?_
      refine JC.seq ?_
      refine JC.region (by rfl) ?_
      intro hQ
      refine JL.move .none rfl ?_
      refine JL.fieldAddr fo_26_0 rfl .none rfl ?_
      refine JL.loadOwn 0 az_22 rfl rfl rfl .none rfl ?_
      refine JL.lenSL (R := R_Section) ul_22 (SL.mono R_Section_mono hs138 hf__0) .none rfl ?_
      refine JL.bin rfl rfl rfl .none rfl ?_
      refine JL.done hQ ?_
      refine JQ.go ?_
      rcases ite_some hF with ⟨hc141, hF⟩ | ⟨hc141, hF⟩
      · refine JC.cond_t (b := decide (i_136 < (f_.Sections.length : Int))) rfl hc141 ?_
        refine JC.skip ?_
        refine JQ.go ?_
        refine JC.seq ?_
        refine JC.block ?_
        refine JC.seq ?_
        refine JC.region (by rfl) ?_
        intro hQ
        refine JL.loadOwn 0 az_26 rfl rfl rfl .none rfl ?_
        refine JL.move .none rfl ?_
        obtain ⟨y142, hy142, hF⟩ := bind_some hF
        refine JL.callS (c_ref01_free n H138 f_ f__v0 (SL.mono R_Section_mono hs138 hf__0) i_136 y142 hy142) rfl en_73 .none rfl ?_
        refine JL.move .none rfl ?_
        refine JL.extract rfl rfl .none rfl ?_
        refine JL.extract rfl rfl .none rfl ?_
        refine JL.assign .none rfl ?_
        refine JL.assign .none rfl ?_
        refine JL.done hQ ?_
        refine JQ.go ?_
        refine JC.fresh (fun f => f 1 = .pointer (some ⟨b1, 0, none⟩) ∧ f 5 = vout_137 ∧ f 6 = .int .i64 i_136 ∧ f 7 = .int .i64 y142.1) ⟨rfl, rfl, rfl, rfl⟩ ?_
        rintro f ⟨hf1, hf5, hf6, hf7⟩
        refine (JC.norm (i := 1) hf1 (JC.norm (i := 5) hf5 (JC.norm (i := 6) hf6 (JC.norm (i := 7) hf7 ?_))))
        refine JC.seq ?_
        refine JC.region (by rfl) ?_
        intro hQ
        refine JL.move .none rfl ?_
        refine JL.bin rfl rfl rfl .none rfl ?_
        refine JL.done hQ ?_
        refine JQ.go ?_
        obtain ⟨r151, hlr151, hKr151⟩ := bind_some hF
        refine JC.join (fun (out_149 : List Int) H150 f bs gs => ∃ (vout_149 : Value) (xsout_149 : List Value), f 1 = .pointer (some ⟨b1, 0, none⟩) ∧ f 5 = vout_149 ∧ f 6 = .int .i64 i_136 ∧ bs = [(b1, .cells [f__v0, .int .i64 f_.Low, .int .i64 f_.High, .int .i64 f_.Ease.Num, .int .i64 f_.Ease.Den, .int .i64 f_.Rod, .int .i64 f_.Case].toArray 26)] ∧ gs = [⟨vout_149, 3, 1, out_149.length, xsout_149⟩] ∧ CH H150 1 RInt xsout_149 out_149 ∧ HSub H138 H150 ∧ out_149 = r151) ?_ ?_
        · have hF := hlr151
          rcases ite_some hF with ⟨hc152, hF⟩ | ⟨hc152, hF⟩
          · refine JC.cond_t (b := (y142.1 == 0)) rfl hc152 ?_
            refine JC.region (by rfl) ?_
            intro hQ
            refine JL.move .none rfl ?_
            refine JL.move .none rfl ?_
            refine JL.buildSlice (e := 3) (l := [.int .i64 i_136]) (by kernel_rfl) .none rfl ?_
            intro b153
            obtain ⟨l154, hl154, hF⟩ := bind_some hF
            refine JL.appO (R := RInt) 0 0 (l := out_137) (m := [i_136]) ap_54 rfl ⟨rfl, rfl⟩ rfl hout_137 rfl rfl rfl (CH.cons (cs := [.int .i64 i_136]) rfl rfl CH.nil) rfl (one_cons rfl one_nil) hl154 .none rfl ?_
            intro v155 xs156 hch157
            refine JL.assign .none rfl ?_
            refine JL.done hQ ?_
            obtain rfl := Option.some.inj hF
            refine JQ.mask [false, true] [true] ?_
            exact JQ.join l154 ⟨v155, xs156, rfl, rfl, rfl, rfl, rfl, hch157, (HSub.refl _), rfl⟩
          · refine JC.cond_f (b := (y142.1 == 0)) rfl hc152 ?_
            refine JC.skip ?_
            obtain rfl := Option.some.inj hF
            exact JQ.join out_137 ⟨vout_137, xsout_137, rfl, rfl, rfl, rfl, rfl, hout_137, (HSub.refl _), rfl⟩
        · rintro out_149 H150 f bs gs ⟨vout_149, xsout_149, hf1, hf5, hf6, rfl, rfl, hout_149, hs150, rfl⟩
          have hF := hKr151
          try dsimp only at hF
          refine (JQ.norm (i := 1) hf1 (JQ.norm (i := 5) hf5 (JQ.norm (i := 6) hf6 ?_)))
          refine JQ.normal_block ?_
          refine JQ.go ?_
          refine JC.region (by rfl) ?_
          intro hQ
          refine JL.move .none rfl ?_
          refine JL.bin rfl rfl rfl .none rfl ?_
          refine JL.assign .none rfl ?_
          refine JL.done hQ ?_
          obtain rfl := Option.some.inj hF
          exact JQ.next rfl ⟨vout_149, xsout_149, rfl, rfl, rfl, rfl, rfl, hout_149, (HSub.trans hs138 hs150)⟩
      · refine JC.cond_f (b := decide (i_136 < (f_.Sections.length : Int))) rfl hc141 ?_
        refine JC.exit ?_
        refine JQ.exit_then ?_
        refine JQ.exit_then ?_
        refine JQ.exit_block ?_
        obtain rfl := Option.some.inj hF
        have ehr139 := hr139 _ rfl
        subst ehr139
        refine JQ.mask [false] [true] ?_
        exact JQ.join out_137 ⟨vout_137, xsout_137, rfl, rfl, rfl, hout_137, hs138, rfl⟩
    · rintro out_93 H94 f bs gs ⟨vout_93, xsout_93, hf5, rfl, rfl, hout_93, hs94, rfl⟩
      have hF := hKr95
      try dsimp only at hF
      refine (JQ.norm (i := 5) hf5 ?_)
      refine JQ.go ?_
      refine JC.seq ?_
      refine JC.region (by rfl) ?_
      intro hQ
      refine JL.move .none rfl ?_
      refine JL.assign .none rfl ?_
      refine JL.assign .none rfl ?_
      refine JL.done hQ ?_
      refine JQ.go ?_
      refine JC.ret ?_
      refine JQ.freezeG 0 (R := RInt) rfl RInt.mono hout_93 rfl ?_
      intro H158 hs158 hg159
      obtain rfl := Option.some.inj hF
      exact JQ.outH rfl (.tmp (.tmp .nil)) ⟨vout_93, rfl, hg159⟩

-- 45 ferrule/ferruleref01.Closes
def F_ref01_Closes_s1 (n : Nat) (f_ : Frame) : Int × Int × Int → Option ((Int × Int × Int) ⊕ (Int × Int))
  | (low_135, high_136, i_137) => if decide (i_137 < (f_.Sections.length : Int)) = true then ((geti f_.Sections i_137).bind fun y152 => (geti f_.Sections i_137).bind fun y157 => some (Sum.inl ((max low_135 y152.Arm.Low), (max high_136 y157.Arm.High), (w64 (i_137 + 1))))) else (some (Sum.inr (low_135, high_136)))
def F_ref01_Closes (n : Nat) (f_ : Frame) : Option (Int × Int) :=
  (F_ref01_Check n f_).bind fun y2 => if (y2 != 0) = true then (some (0, y2)) else ((loopO n (F_ref01_Closes_s1 n f_) (0, 0, 0)).bind fun r84 => match r84 with | (low_81, high_82) => if decide ((w64 (f_.Rod + high_82)) ≤ f_.Case) = true then (some (1, 0)) else (if decide (f_.Case < (w64 (f_.Rod + low_81))) = true then (some (2, 0)) else (some (3, 0))))
set_option maxRecDepth 100000 in
set_option maxHeartbeats 40000000 in
theorem c_ref01_Closes (n : Nat) (H : Hp) (f_ : Frame) (f__v0 : Value) (hf__0 : SL H 7 R_Section f__v0 f_.Sections) (y : Int × Int) (hF : F_ref01_Closes n f_ = some y) : SC Try.prog 45 [.agg [f__v0, .int .i64 f_.Low, .int .i64 f_.High, .int .i64 f_.Ease.Num, .int .i64 f_.Ease.Den, .int .i64 f_.Rod, .int .i64 f_.Case].toArray] (.tuple [.int .i64 y.1, .int .i64 y.2].toArray) H := by
  rw [F_ref01_Closes] at hF
  refine SC.of (N := 54) Try.func45 rfl rfl rfl fun w => ?_
  refine JC.seq ?_
  refine JC.region (by rfl) ?_
  intro hQ
  refine JL.box (cs := [f__v0, .int .i64 f_.Low, .int .i64 f_.High, .int .i64 f_.Ease.Num, .int .i64 f_.Ease.Den, .int .i64 f_.Rod, .int .i64 f_.Case]) rfl .none rfl ?_
  intro b1
  refine JL.assign .none rfl ?_
  refine JL.assign .none rfl ?_
  refine JL.done hQ ?_
  refine JQ.go ?_
  refine JC.seq ?_
  refine JC.seq ?_
  refine JC.region (by rfl) ?_
  intro hQ
  refine JL.loadOwn 0 az_26 rfl rfl rfl .none rfl ?_
  obtain ⟨y2, hy2, hF⟩ := bind_some hF
  refine JL.callS (c_ref01_Check n H f_ f__v0 hf__0 y2 hy2) rfl en_15 .none rfl ?_
  refine JL.assign .none rfl ?_
  refine JL.done hQ ?_
  refine JQ.go ?_
  refine JC.seq ?_
  refine JC.region (by rfl) ?_
  intro hQ
  refine JL.move .none rfl ?_
  refine JL.bin rfl rfl rfl .none rfl ?_
  refine JL.done hQ ?_
  refine JQ.go ?_
  rcases ite_some hF with ⟨hc3, hF⟩ | ⟨hc3, hF⟩
  · refine JC.cond_t (b := (y2 != 0)) rfl hc3 ?_
    refine JC.seq ?_
    refine JC.region (by rfl) ?_
    intro hQ
    refine JL.move .none rfl ?_
    refine JL.assign .none rfl ?_
    refine JL.assign .none rfl ?_
    refine JL.done hQ ?_
    refine JQ.go ?_
    refine JC.ret ?_
    refine JQ.ret_then ?_
    obtain rfl := Option.some.inj hF
    exact JQ.outS rfl (.tmp (.tmp .nil)) rfl
  · refine JC.cond_f (b := (y2 != 0)) rfl hc3 ?_
    refine JC.skip ?_
    refine JQ.go ?_
    refine JC.seq ?_
    refine JC.region (by rfl) ?_
    intro hQ
    refine JL.assign .none rfl ?_
    refine JL.assign .none rfl ?_
    refine JL.done hQ ?_
    refine JQ.go ?_
    refine JC.seq ?_
    refine JC.seq ?_
    refine JC.region (by rfl) ?_
    intro hQ
    refine JL.assign .none rfl ?_
    refine JL.done hQ ?_
    refine JQ.go ?_
    obtain ⟨r84, hlr84, hKr84⟩ := bind_some hF
    refine JC.join (fun (x : Int × Int) H83 f bs gs => match x with | (low_81, high_82) => f 1 = .pointer (some ⟨b1, 0, none⟩) ∧ f 5 = .int .i64 low_81 ∧ f 6 = .int .i64 high_82 ∧ bs = [(b1, .cells [f__v0, .int .i64 f_.Low, .int .i64 f_.High, .int .i64 f_.Ease.Num, .int .i64 f_.Ease.Den, .int .i64 f_.Rod, .int .i64 f_.Case].toArray 26)] ∧ gs = [] ∧ HSub H H83 ∧ (low_81, high_82) = r84) ?_ ?_
    · skip
      refine JC.block ?_
      refine JC.loop hlr84 (fun (x : Int × Int × Int) H138 f bs gs => match x with | (low_135, high_136, i_137) => f 1 = .pointer (some ⟨b1, 0, none⟩) ∧ f 5 = .int .i64 low_135 ∧ f 6 = .int .i64 high_136 ∧ f 7 = .int .i64 i_137 ∧ bs = [(b1, .cells [f__v0, .int .i64 f_.Low, .int .i64 f_.High, .int .i64 f_.Ease.Num, .int .i64 f_.Ease.Den, .int .i64 f_.Rod, .int .i64 f_.Case].toArray 26)] ∧ gs = [] ∧ HSub H H138) ⟨rfl, rfl, rfl, rfl, rfl, rfl, (HSub.refl _)⟩ ?_
      rintro ⟨low_135, high_136, i_137⟩ x140 H138 f bs gs ⟨hf1, hf5, hf6, hf7, rfl, rfl, hs138⟩ hF hr139
      rw [F_ref01_Closes_s1] at hF
      refine (JC.norm (i := 1) hf1 (JC.norm (i := 5) hf5 (JC.norm (i := 6) hf6 (JC.norm (i := 7) hf7 ?_))))
      refine JC.seq ?_
      refine JC.seq ?_
      refine JC.region (by rfl) ?_
      intro hQ
      refine JL.move .none rfl ?_
      refine JL.fieldAddr fo_26_0 rfl .none rfl ?_
      refine JL.loadOwn 0 az_22 rfl rfl rfl .none rfl ?_
      refine JL.lenSL (R := R_Section) ul_22 (SL.mono R_Section_mono hs138 hf__0) .none rfl ?_
      refine JL.bin rfl rfl rfl .none rfl ?_
      refine JL.done hQ ?_
      refine JQ.go ?_
      rcases ite_some hF with ⟨hc141, hF⟩ | ⟨hc141, hF⟩
      · refine JC.cond_t (b := decide (i_137 < (f_.Sections.length : Int))) rfl hc141 ?_
        refine JC.skip ?_
        refine JQ.go ?_
        refine JC.seq ?_
        refine JC.block ?_
        refine JC.draw (by rfl) mo_ (by kernel_rfl) ?_
        intro hQ
        refine JL.move .none rfl ?_
        refine JL.fieldAddr fo_26_0 rfl .none rfl ?_
        refine JL.loadOwn 0 az_22 rfl rfl rfl .none rfl ?_
        refine JL.move .none rfl ?_
        obtain ⟨y152, hy152, hF⟩ := bind_some hF
        refine JL.indexSL (R := R_Section) sl_22 (SL.mono R_Section_mono hs138 hf__0) rfl hy152 .none rfl ?_
        rintro b153 o154 cs155 hc156 - rfl
        refine JL.fieldAddr fo_61_0 rfl .none rfl ?_
        refine JL.fieldAddr fo_59_0 rfl .none rfl ?_
        refine JL.loadH 0 az_3 rfl hc156 rfl .none rfl ?_
        refine JL.max rfl rfl .none rfl ?_
        refine JL.move .none rfl ?_
        refine JL.fieldAddr fo_26_0 rfl .none rfl ?_
        refine JL.loadOwn 0 az_22 rfl rfl rfl .none rfl ?_
        refine JL.move .none rfl ?_
        obtain ⟨y157, hy157, hF⟩ := bind_some hF
        refine JL.indexSL (R := R_Section) sl_22 (SL.mono R_Section_mono hs138 hf__0) rfl hy157 .none rfl ?_
        rintro b158 o159 cs160 hc161 - rfl
        refine JL.fieldAddr fo_61_0 rfl .none rfl ?_
        refine JL.fieldAddr fo_59_1 rfl .none rfl ?_
        refine JL.loadH 1 az_3 rfl hc161 rfl .none rfl ?_
        refine JL.max rfl rfl .none rfl ?_
        refine JL.assign .none rfl ?_
        refine JL.assign .none rfl ?_
        refine JL.doneQ hQ ?_
        refine JQ.normal_block ?_
        refine JQ.go ?_
        refine JC.fresh (fun f => f 1 = .pointer (some ⟨b1, 0, none⟩) ∧ f 5 = .int .i64 (max low_135 y152.Arm.Low) ∧ f 6 = .int .i64 (max high_136 y157.Arm.High) ∧ f 7 = .int .i64 i_137) ⟨rfl, rfl, rfl, rfl⟩ ?_
        rintro f ⟨hf1, hf5, hf6, hf7⟩
        refine (JC.norm (i := 1) hf1 (JC.norm (i := 5) hf5 (JC.norm (i := 6) hf6 (JC.norm (i := 7) hf7 ?_))))
        refine JC.region (by rfl) ?_
        intro hQ
        refine JL.move .none rfl ?_
        refine JL.bin rfl rfl rfl .none rfl ?_
        refine JL.assign .none rfl ?_
        refine JL.done hQ ?_
        obtain rfl := Option.some.inj hF
        exact JQ.next rfl ⟨rfl, rfl, rfl, rfl, rfl, rfl, hs138⟩
      · refine JC.cond_f (b := decide (i_137 < (f_.Sections.length : Int))) rfl hc141 ?_
        refine JC.exit ?_
        refine JQ.exit_then ?_
        refine JQ.exit_then ?_
        refine JQ.exit_block ?_
        obtain rfl := Option.some.inj hF
        have ehr139 := hr139 _ rfl
        subst ehr139
        exact JQ.join (low_135, high_136) ⟨rfl, rfl, rfl, rfl, rfl, hs138, rfl⟩
    · rintro ⟨low_81, high_82⟩ H83 f bs gs ⟨hf1, hf5, hf6, rfl, rfl, hs83, rfl⟩
      have hF := hKr84
      try dsimp only at hF
      refine (JQ.norm (i := 1) hf1 (JQ.norm (i := 5) hf5 (JQ.norm (i := 6) hf6 ?_)))
      refine JQ.go ?_
      refine JC.seq ?_
      refine JC.block ?_
      refine JC.seq ?_
      refine JC.region (by rfl) ?_
      intro hQ
      refine JL.fieldAddr fo_26_4 rfl .none rfl ?_
      refine JL.loadOwn 0 az_3 rfl rfl rfl .none rfl ?_
      refine JL.move .none rfl ?_
      refine JL.bin rfl rfl rfl .none rfl ?_
      refine JL.fieldAddr fo_26_5 rfl .none rfl ?_
      refine JL.loadOwn 0 az_3 rfl rfl rfl .none rfl ?_
      refine JL.bin rfl rfl rfl .none rfl ?_
      refine JL.assign .none rfl ?_
      refine JL.done hQ ?_
      refine JQ.go ?_
      rcases ite_some hF with ⟨hc162, hF⟩ | ⟨hc162, hF⟩
      · refine JC.cond_t (b := decide ((w64 (f_.Rod + high_82)) ≤ f_.Case)) rfl hc162 ?_
        refine JC.seq ?_
        refine JC.region (by rfl) ?_
        intro hQ
        refine JL.assign .none rfl ?_
        refine JL.assign .none rfl ?_
        refine JL.done hQ ?_
        refine JQ.go ?_
        refine JC.ret ?_
        refine JQ.ret_block ?_
        refine JQ.ret_then ?_
        obtain rfl := Option.some.inj hF
        exact JQ.outS rfl (.tmp (.tmp .nil)) rfl
      · refine JC.cond_f (b := decide ((w64 (f_.Rod + high_82)) ≤ f_.Case)) rfl hc162 ?_
        refine JC.seq ?_
        refine JC.region (by rfl) ?_
        intro hQ
        refine JL.fieldAddr fo_26_4 rfl .none rfl ?_
        refine JL.loadOwn 0 az_3 rfl rfl rfl .none rfl ?_
        refine JL.move .none rfl ?_
        refine JL.bin rfl rfl rfl .none rfl ?_
        refine JL.fieldAddr fo_26_5 rfl .none rfl ?_
        refine JL.loadOwn 0 az_3 rfl rfl rfl .none rfl ?_
        refine JL.bin rfl rfl rfl .none rfl ?_
        refine JL.assign .none rfl ?_
        refine JL.done hQ ?_
        refine JQ.go ?_
        refine JC.fresh (fun f => f 46 = .bool (decide (f_.Case < (w64 (f_.Rod + low_81))))) rfl ?_
        rintro f hf46
        refine (JC.norm (i := 46) hf46 ?_)
        rcases ite_some hF with ⟨hc163, hF⟩ | ⟨hc163, hF⟩
        · refine JC.cond_t (b := decide (f_.Case < (w64 (f_.Rod + low_81)))) rfl hc163 ?_
          refine JC.seq ?_
          refine JC.region (by rfl) ?_
          intro hQ
          refine JL.assign .none rfl ?_
          refine JL.assign .none rfl ?_
          refine JL.done hQ ?_
          refine JQ.go ?_
          refine JC.ret ?_
          refine JQ.ret_block ?_
          refine JQ.ret_then ?_
          obtain rfl := Option.some.inj hF
          exact JQ.outS rfl (.tmp (.tmp .nil)) rfl
        · refine JC.cond_f (b := decide (f_.Case < (w64 (f_.Rod + low_81)))) rfl hc163 ?_
          refine JC.skip ?_
          refine JQ.normal_block ?_
          refine JQ.go ?_
          refine JC.seq ?_
          refine JC.region (by rfl) ?_
          intro hQ
          refine JL.assign .none rfl ?_
          refine JL.assign .none rfl ?_
          refine JL.done hQ ?_
          refine JQ.go ?_
          refine JC.ret ?_
          obtain rfl := Option.some.inj hF
          exact JQ.outS rfl (.tmp (.tmp .nil)) rfl

end Go.Proofs.Ytmgnhaibbeinbaa
