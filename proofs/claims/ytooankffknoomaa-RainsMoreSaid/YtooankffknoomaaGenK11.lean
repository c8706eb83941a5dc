/-
  Printed by a program: functions of the translation as plain functions, and their contracts.
-/
import Derived.Test.YtooankffknoomaaGenK10
namespace Go.Proofs.Ytooankffknoomaa
open Go Go.RowKit Go.Dec
set_option linter.unusedVariables false
-- 56 ferrule/ferruleref11.Routes
def F_ref11_Routes (n : Nat) (t : Tour) : Option (List (List Int)) :=
  (F_ref11_rows n ([] : List Int) t.Days (w64 ((t.Fairs.length : Int) - 1)) t.Reach).bind fun y2 => some y2
set_option maxRecDepth 100000 in
set_option maxHeartbeats 40000000 in
theorem c_ref11_Routes (n : Nat) (H : Hp) (t : Tour) (t_v2 : Value) (ht_2 : SL H 3 R_Rain t_v2 t.Rains) (t_v4 : Value) (ht_4 : SL H 2 R_Fair t_v4 t.Fairs) (y : (List (List Int))) (hF : F_ref11_Routes n t = some y) : HC Try.prog 56 [.agg [.int .i64 t.Days, .int .i64 t.Step, t_v2, .int .i64 t.Wrong, t_v4, .int .i64 t.Reach, .int .i64 t.Stock].toArray] H (fun H' ra_v0 => SL H' 1 (RSl 1 RInt) ra_v0 y) := by
  rw [F_ref11_Routes] at hF
  refine HC.of (N := 12) Try.func56 rfl rfl rfl fun w => ?_
  refine JC.seq ?_
  refine JC.region (by rfl) ?_
  intro hQ
  refine JL.box (cs := [.int .i64 t.Days, .int .i64 t.Step, t_v2, .int .i64 t.Wrong, t_v4, .int .i64 t.Reach, .int .i64 t.Stock]) rfl .none rfl ?_
  intro b1
  refine JL.assign .none rfl ?_
  refine JL.done hQ ?_
  refine JQ.go ?_
  refine JC.seq ?_
  refine JC.region (by rfl) ?_
  intro hQ
  refine JL.fieldAddr fo_25_0 rfl .none rfl ?_
  refine JL.loadOwn 0 az_3 rfl rfl rfl .none rfl ?_
  refine JL.fieldAddr fo_25_4 rfl .none rfl ?_
  refine JL.loadOwn 0 az_23 rfl rfl rfl .none rfl ?_
  refine JL.lenSL (R := R_Fair) ul_23 ht_4 .none rfl ?_
  refine JL.bin rfl rfl rfl .none rfl ?_
  refine JL.fieldAddr fo_25_5 rfl .none rfl ?_
  refine JL.loadOwn 0 az_3 rfl rfl rfl .none rfl ?_
  obtain ⟨y2, hy2, hF⟩ := bind_some hF
  refine JL.callH (c_ref11_rows n H ([] : List Int) (.slice none 0 0) SL.nil t.Days (w64 ((t.Fairs.length : Int) - 1)) t.Reach y2 hy2) rfl en_68 .none rfl ?_
  intro H3 y2a_v0 hs3 hy2a_0
  refine JL.assign .none rfl ?_
  refine JL.done hQ ?_
  refine JQ.go ?_
  refine JC.ret ?_
  obtain rfl := Option.some.inj hF
  exact JQ.outH rfl (.tmp .nil) hy2a_0

-- 25 ferrule/ferruleref11.Best
def F_ref11_Best_s1 (n : Nat) (t : Tour) (y2 : (List (List Int)) × Int) (y6 : (List (List Int))) : Int × Int → Option ((Int × Int) ⊕ Int)
  | (n_93, i_94) => if decide (i_94 < (y6.length : Int)) = true then ((geti y6 i_94).bind fun y105 => (F_ref11_takes n t y2.1 y105).bind fun y110 => some (Sum.inl ((max n_93 y110.Low), (w64 (i_94 + 1))))) else (some (Sum.inr n_93))
def F_ref11_Best (n : Nat) (t : Tour) : Option (Int × Int) :=
  (F_ref11_known n t true).bind fun y2 => if (y2.2 != 0) = true then (some (0, y2.2)) else ((F_ref11_Routes n t).bind fun y6 => (loopO n (F_ref11_Best_s1 n t y2 y6) (0, 0)).bind fun n_58 => some (n_58, 0))
set_option maxRecDepth 100000 in
set_option maxHeartbeats 40000000 in
theorem c_ref11_Best (n : Nat) (H : Hp) (t : Tour) (t_v2 : Value) (ht_2 : SL H 3 R_Rain t_v2 t.Rains) (t_v4 : Value) (ht_4 : SL H 2 R_Fair t_v4 t.Fairs) (y : Int × Int) (hF : F_ref11_Best n t = some y) : SC Try.prog 25 [.agg [.int .i64 t.Days, .int .i64 t.Step, t_v2, .int .i64 t.Wrong, t_v4, .int .i64 t.Reach, .int .i64 t.Stock].toArray] (.tuple [.int .i64 y.1, .int .i64 y.2].toArray) H := by
  rw [F_ref11_Best] at hF
  refine SC.of (N := 36) Try.func25 rfl rfl rfl fun w => ?_
  refine JC.seq ?_
  refine JC.region (by rfl) ?_
  intro hQ
  refine JL.box (cs := [.int .i64 t.Days, .int .i64 t.Step, t_v2, .int .i64 t.Wrong, t_v4, .int .i64 t.Reach, .int .i64 t.Stock]) rfl .none rfl ?_
  intro b1
  refine JL.assign .none rfl ?_
  refine JL.assign .none rfl ?_
  refine JL.done hQ ?_
  refine JQ.go ?_
  refine JC.seq ?_
  refine JC.region (by rfl) ?_
  intro hQ
  refine JL.loadOwn 0 az_25 rfl rfl rfl .none rfl ?_
  obtain ⟨y2, hy2, hF⟩ := bind_some hF
  refine JL.callH (c_ref11_known n H t t_v2 ht_2 t_v4 ht_4 true y2 hy2) rfl en_48 .none rfl ?_
  rintro H3 vv4 hs3 ⟨y2a_v0, rfl, hy2a_0⟩
  refine JL.move .none rfl ?_
  refine JL.extract rfl rfl .none rfl ?_
  refine JL.extract rfl rfl .none rfl ?_
  refine JL.assign .none rfl ?_
  refine JL.assign .none rfl ?_
  refine JL.done hQ ?_
  refine JQ.go ?_
  refine JC.seq ?_
  refine JC.seq ?_
  refine JC.region (by rfl) ?_
  intro hQ
  refine JL.move .none rfl ?_
  refine JL.bin rfl rfl rfl .none rfl ?_
  refine JL.done hQ ?_
  refine JQ.go ?_
  rcases ite_some hF with ⟨hc5, hF⟩ | ⟨hc5, hF⟩
  · refine JC.cond_t (b := (y2.2 != 0)) rfl hc5 ?_
    refine JC.seq ?_
    refine JC.region (by rfl) ?_
    intro hQ
    refine JL.move .none rfl ?_
    refine JL.assign .none rfl ?_
    refine JL.assign .none rfl ?_
    refine JL.done hQ ?_
    refine JQ.go ?_
    refine JC.fresh (fun f => f 2 = .int .i64 0 ∧ f 3 = .int .i64 y2.2) ⟨rfl, rfl⟩ ?_
    rintro f ⟨hf2, hf3⟩
    refine (JC.norm (i := 2) hf2 (JC.norm (i := 3) hf3 ?_))
    refine JC.ret ?_
    refine JQ.ret_then ?_
    obtain rfl := Option.some.inj hF
    exact JQ.outS rfl (.tmp (.tmp .nil)) rfl
  · refine JC.cond_f (b := (y2.2 != 0)) rfl hc5 ?_
    refine JC.skip ?_
    refine JQ.go ?_
    refine JC.seq ?_
    refine JC.region (by rfl) ?_
    intro hQ
    refine JL.assign .none rfl ?_
    refine JL.done hQ ?_
    refine JQ.go ?_
    refine JC.fresh (fun f => f 1 = .pointer (some ⟨b1, 0, none⟩) ∧ f 2 = .int .i64 0 ∧ f 3 = .int .i64 0 ∧ f 4 = y2a_v0 ∧ f 6 = .int .i64 0) ⟨rfl, rfl, rfl, rfl, rfl⟩ ?_
    rintro f ⟨hf1, hf2, hf3, hf4, hf6⟩
    refine (JC.norm (i := 1) hf1 (JC.norm (i := 2) hf2 (JC.norm (i := 3) hf3 (JC.norm (i := 4) hf4 (JC.norm (i := 6) hf6 ?_)))))
    refine JC.seq ?_
    refine JC.region (by rfl) ?_
    intro hQ
    refine JL.loadOwn 0 az_25 rfl rfl rfl .none rfl ?_
    obtain ⟨y6, hy6, hF⟩ := bind_some hF
    refine JL.callH (c_ref11_Routes n H3 t t_v2 (SL.mono R_Rain_mono hs3 ht_2) t_v4 (SL.mono R_Fair_mono hs3 ht_4) y6 hy6) rfl en_56 .none rfl ?_
    intro H7 y6a_v0 hs7 hy6a_0
    refine JL.assign .none rfl ?_
    refine JL.done hQ ?_
    refine JQ.go ?_
    refine JC.seq ?_
    refine JC.seq ?_
    refine JC.region (by rfl) ?_
    intro hQ
    refine JL.assign .none rfl ?_
    refine JL.done hQ ?_
    refine JQ.go ?_
    obtain ⟨r60, hlr60, hKr60⟩ := bind_some hF
    refine JC.join (fun (n_58 : Int) H59 f bs gs => f 6 = .int .i64 n_58 ∧ bs = [] ∧ gs = [] ∧ HSub H7 H59 ∧ n_58 = r60) ?_ ?_
    · skip
      refine JC.block ?_
      refine JC.loop hlr60 (fun (x : Int × Int) H95 f bs gs => match x with | (n_93, i_94) => f 1 = .pointer (some ⟨b1, 0, none⟩) ∧ f 4 = y2a_v0 ∧ f 6 = .int .i64 n_93 ∧ f 7 = y6a_v0 ∧ f 8 = .int .i64 i_94 ∧ bs = [(b1, .cells [.int .i64 t.Days, .int .i64 t.Step, t_v2, .int .i64 t.Wrong, t_v4, .int .i64 t.Reach, .int .i64 t.Stock].toArray 25)] ∧ gs = [] ∧ HSub H7 H95) ⟨rfl, rfl, rfl, rfl, rfl, rfl, rfl, (HSub.refl _)⟩ ?_
      rintro ⟨n_93, i_94⟩ x97 H95 f bs gs ⟨hf1, hf4, hf6, hf7, hf8, rfl, rfl, hs95⟩ hF hr96
      rw [F_ref11_Best_s1] at hF
      refine (JC.norm (i := 1) hf1 (JC.norm (i := 4) hf4 (JC.norm (i := 6) hf6 (JC.norm (i := 7) hf7 (JC.norm (i := 8) hf8 ?_)))))
      refine JC.seq ?_
      refine JC.seq ?_
      refine JC.region (by rfl) ?_
      intro hQ
      refine JL.move .none rfl ?_
      refine JL.move .none rfl ?_
      refine JL.lenSL (R := (RSl 1 RInt)) ul_72 (SL.mono (RSl.mono RInt.mono) hs95 hy6a_0) .none rfl ?_
      refine JL.bin rfl rfl rfl .none rfl ?_
      refine JL.done hQ ?_
      refine JQ.go ?_
      rcases ite_some hF with ⟨hc98, hF⟩ | ⟨hc98, hF⟩
      · refine JC.cond_t (b := decide (i_94 < (y6.length : Int))) rfl hc98 ?_
        refine JC.skip ?_
        refine JQ.go ?_
        refine JC.seq ?_
        refine JC.block ?_
        refine JC.draw (by rfl) mo_ (by kernel_rfl) ?_
        intro hQ
        refine JL.move .none rfl ?_
        refine JL.loadOwn 0 az_25 rfl rfl rfl .none rfl ?_
        refine JL.move .none rfl ?_
        refine JL.move .none rfl ?_
        refine JL.move .none rfl ?_
        obtain ⟨y105, hy105, hF⟩ := bind_some hF
        refine JL.indexSL (R := (RSl 1 RInt)) sl_72 (SL.mono (RSl.mono RInt.mono) hs95 hy6a_0) rfl hy105 .none rfl ?_
        rintro b106 o107 cs108 hc109 - ⟨y105_v0, rfl, hy105_0⟩
        refine JL.loadH 0 az_26 rfl hc109 rfl .none rfl ?_
        obtain ⟨y110, hy110, hF⟩ := bind_some hF
        refine JL.callS (c_ref11_takes n H95 t t_v2 (SL.mono R_Rain_mono (HSub.trans hs3 (HSub.trans hs7 hs95)) ht_2) t_v4 (SL.mono R_Fair_mono (HSub.trans hs3 (HSub.trans hs7 hs95)) ht_4) y2.1 y2a_v0 (SL.mono (RSl.mono RInt.mono) (HSub.trans hs7 hs95) hy2a_0) y105 y105_v0 hy105_0 y110 hy110) rfl en_49 .none rfl ?_
        refine JL.field ft_31_0 az_3 rfl rfl .none rfl ?_
        refine JL.max rfl rfl .none rfl ?_
        refine JL.assign .none rfl ?_
        refine JL.doneQ hQ ?_
        refine JQ.normal_block ?_
        refine JQ.go ?_
        refine JC.fresh (fun f => f 1 = .pointer (some ⟨b1, 0, none⟩) ∧ f 4 = y2a_v0 ∧ f 6 = .int .i64 (max n_93 y110.Low) ∧ f 7 = y6a_v0 ∧ f 8 = .int .i64 i_94) ⟨rfl, rfl, rfl, rfl, rfl⟩ ?_
        rintro f ⟨hf1, hf4, hf6, hf7, hf8⟩
        refine (JC.norm (i := 1) hf1 (JC.norm (i := 4) hf4 (JC.norm (i := 6) hf6 (JC.norm (i := 7) hf7 (JC.norm (i := 8) hf8 ?_)))))
        refine JC.region (by rfl) ?_
        intro hQ
        refine JL.move .none rfl ?_
        refine JL.bin rfl rfl rfl .none rfl ?_
        refine JL.assign .none rfl ?_
        refine JL.done hQ ?_
        obtain rfl := Option.some.inj hF
        exact JQ.next rfl ⟨rfl, rfl, rfl, rfl, rfl, rfl, rfl, hs95⟩
      · refine JC.cond_f (b := decide (i_94 < (y6.length : Int))) rfl hc98 ?_
        refine JC.exit ?_
        refine JQ.exit_then ?_
        refine JQ.exit_then ?_
        refine JQ.exit_block ?_
        obtain rfl := Option.some.inj hF
        have ehr96 := hr96 _ rfl
        subst ehr96
        refine JQ.mask [false] [] ?_
        exact JQ.join n_93 ⟨rfl, rfl, rfl, hs95, rfl⟩
    · rintro n_58 H59 f bs gs ⟨hf6, rfl, rfl, hs59, rfl⟩
      have hF := hKr60
      try dsimp only at hF
      refine (JQ.norm (i := 6) hf6 ?_)
      refine JQ.go ?_
      refine JC.seq ?_
      refine JC.region (by rfl) ?_
      intro hQ
      refine JL.move .none rfl ?_
      refine JL.assign .none rfl ?_
      refine JL.assign .none rfl ?_
      refine JL.done hQ ?_
      refine JQ.go ?_
      refine JC.ret ?_
      obtain rfl := Option.some.inj hF
      exact JQ.outS rfl (.tmp (.tmp .nil)) rfl

-- 26 ferrule/ferruleref11.Hopes
def F_ref11_Hopes_s1 (n : Nat) (t : Tour) (y2 : (List (List Int)) × Int) (y6 : (List (List Int))) : Int × Int → Option ((Int × Int) ⊕ Int)
  | (n_93, i_94) => if decide (i_94 < (y6.length : Int)) = true then ((geti y6 i_94).bind fun y105 => (F_ref11_takes n t y2.1 y105).bind fun y110 => some (Sum.inl ((max n_93 y110.High), (w64 (i_94 + 1))))) else (some (Sum.inr n_93))
def F_ref11_Hopes (n : Nat) (t : Tour) : Option (Int × Int) :=
  (F_ref11_known n t true).bind fun y2 => if (y2.2 != 0) = true then (some (0, y2.2)) else ((F_ref11_Routes n t).bind fun y6 => (loopO n (F_ref11_Hopes_s1 n t y2 y6) (0, 0)).bind fun n_58 => some (n_58, 0))
set_option maxRecDepth 100000 in
set_option maxHeartbeats 40000000 in
theorem c_ref11_Hopes (n : Nat) (H : Hp) (t : Tour) (t_v2 : Value) (ht_2 : SL H 3 R_Rain t_v2 t.Rains) (t_v4 : Value) (ht_4 : SL H 2 R_Fair t_v4 t.Fairs) (y : Int × Int) (hF : F_ref11_Hopes n t = some y) : SC Try.prog 26 [.agg [.int .i64 t.Days, .int .i64 t.Step, t_v2, .int .i64 t.Wrong, t_v4, .int .i64 t.Reach, .int .i64 t.Stock].toArray] (.tuple [.int .i64 y.1, .int .i64 y.2].toArray) H := by
  rw [F_ref11_Hopes] at hF
  refine SC.of (N := 36) Try.func26 rfl rfl rfl fun w => ?_
  refine JC.seq ?_
  refine JC.region (by rfl) ?_
  intro hQ
  refine JL.box (cs := [.int .i64 t.Days, .int .i64 t.Step, t_v2, .int .i64 t.Wrong, t_v4, .int .i64 t.Reach, .int .i64 t.Stock]) rfl .none rfl ?_
  intro b1
  refine JL.assign .none rfl ?_
  refine JL.assign .none rfl ?_
  refine JL.done hQ ?_
  refine JQ.go ?_
  refine JC.seq ?_
  refine JC.region (by rfl) ?_
  intro hQ
  refine JL.loadOwn 0 az_25 rfl rfl rfl .none rfl ?_
  obtain ⟨y2, hy2, hF⟩ := bind_some hF
  refine JL.callH (c_ref11_known n H t t_v2 ht_2 t_v4 ht_4 true y2 hy2) rfl en_48 .none rfl ?_
  rintro H3 vv4 hs3 ⟨y2a_v0, rfl, hy2a_0⟩
  refine JL.move .none rfl ?_
  refine JL.extract rfl rfl .none rfl ?_
  refine JL.extract rfl rfl .none rfl ?_
  refine JL.assign .none rfl ?_
  refine JL.assign .none rfl ?_
  refine JL.done hQ ?_
  refine JQ.go ?_
  refine JC.seq ?_
  refine JC.seq ?_
  refine JC.region (by rfl) ?_
  intro hQ
  refine JL.move .none rfl ?_
  refine JL.bin rfl rfl rfl .none rfl ?_
  refine JL.done hQ ?_
  refine JQ.go ?_
  rcases ite_some hF with ⟨hc5, hF⟩ | ⟨hc5, hF⟩
  · refine JC.cond_t (b := (y2.2 != 0)) rfl hc5 ?_
    refine JC.seq ?_
    refine JC.region (by rfl) ?_
    intro hQ
    refine JL.move .none rfl ?_
    refine JL.assign .none rfl ?_
    refine JL.assign .none rfl ?_
    refine JL.done hQ ?_
    refine JQ.go ?_
    refine JC.fresh (fun f => f 2 = .int .i64 0 ∧ f 3 = .int .i64 y2.2) ⟨rfl, rfl⟩ ?_
    rintro f ⟨hf2, hf3⟩
    refine (JC.norm (i := 2) hf2 (JC.norm (i := 3) hf3 ?_))
    refine JC.ret ?_
    refine JQ.ret_then ?_
    obtain rfl := Option.some.inj hF
    exact JQ.outS rfl (.tmp (.tmp .nil)) rfl
  · refine JC.cond_f (b := (y2.2 != 0)) rfl hc5 ?_
    refine JC.skip ?_
    refine JQ.go ?_
    refine JC.seq ?_
    refine JC.region (by rfl) ?_
    intro hQ
    refine JL.assign .none rfl ?_
    refine JL.done hQ ?_
    refine JQ.go ?_
    refine JC.fresh (fun f => f 1 = .pointer (some ⟨b1, 0, none⟩) ∧ f 2 = .int .i64 0 ∧ f 3 = .int .i64 0 ∧ f 4 = y2a_v0 ∧ f 6 = .int .i64 0) ⟨rfl, rfl, rfl, rfl, rfl⟩ ?_
    rintro f ⟨hf1, hf2, hf3, hf4, hf6⟩
    refine (JC.norm (i := 1) hf1 (JC.norm (i := 2) hf2 (JC.norm (i := 3) hf3 (JC.norm (i := 4) hf4 (JC.norm (i := 6) hf6 ?_)))))
    refine JC.seq ?_
    refine JC.region (by rfl) ?_
    intro hQ
    refine JL.loadOwn 0 az_25 rfl rfl rfl .none rfl ?_
    obtain ⟨y6, hy6, hF⟩ := bind_some hF
    refine JL.callH (c_ref11_Routes n H3 t t_v2 (SL.mono R_Rain_mono hs3 ht_2) t_v4 (SL.mono R_Fair_mono hs3 ht_4) y6 hy6) rfl en_56 .none rfl ?_
    intro H7 y6a_v0 hs7 hy6a_0
    refine JL.assign .none rfl ?_
    refine JL.done hQ ?_
    refine JQ.go ?_
    refine JC.seq ?_
    refine JC.seq ?_
    refine JC.region (by rfl) ?_
    intro hQ
    refine JL.assign .none rfl ?_
    refine JL.done hQ ?_
    refine JQ.go ?_
    obtain ⟨r60, hlr60, hKr60⟩ := bind_some hF
    refine JC.join (fun (n_58 : Int) H59 f bs gs => f 6 = .int .i64 n_58 ∧ bs = [] ∧ gs = [] ∧ HSub H7 H59 ∧ n_58 = r60) ?_ ?_
    · skip
      refine JC.block ?_
      refine JC.loop hlr60 (fun (x : Int × Int) H95 f bs gs => match x with | (n_93, i_94) => f 1 = .pointer (some ⟨b1, 0, none⟩) ∧ f 4 = y2a_v0 ∧ f 6 = .int .i64 n_93 ∧ f 7 = y6a_v0 ∧ f 8 = .int .i64 i_94 ∧ bs = [(b1, .cells [.int .i64 t.Days, .int .i64 t.Step, t_v2, .int .i64 t.Wrong, t_v4, .int .i64 t.Reach, .int .i64 t.Stock].toArray 25)] ∧ gs = [] ∧ HSub H7 H95) ⟨rfl, rfl, rfl, rfl, rfl, rfl, rfl, (HSub.refl _)⟩ ?_
      rintro ⟨n_93, i_94⟩ x97 H95 f bs gs ⟨hf1, hf4, hf6, hf7, hf8, rfl, rfl, hs95⟩ hF hr96
      rw [F_ref11_Hopes_s1] at hF
      refine (JC.norm (i := 1) hf1 (JC.norm (i := 4) hf4 (JC.norm (i := 6) hf6 (JC.norm (i := 7) hf7 (JC.norm (i := 8) hf8 ?_)))))
      refine JC.seq ?_
      refine JC.seq ?_
      refine JC.region (by rfl) ?_
      intro hQ
      refine JL.move .none rfl ?_
      refine JL.move .none rfl ?_
      refine JL.lenSL (R := (RSl 1 RInt)) ul_72 (SL.mono (RSl.mono RInt.mono) hs95 hy6a_0) .none rfl ?_
      refine JL.bin rfl rfl rfl .none rfl ?_
      refine JL.done hQ ?_
      refine JQ.go ?_
      rcases ite_some hF with ⟨hc98, hF⟩ | ⟨hc98, hF⟩
      · refine JC.cond_t (b := decide (i_94 < (y6.length : Int))) rfl hc98 ?_
        refine JC.skip ?_
        refine JQ.go ?_
        refine JC.seq ?_
        refine JC.block ?_
        refine JC.draw (by rfl) mo_ (by kernel_rfl) ?_
        intro hQ
        refine JL.move .none rfl ?_
        refine JL.loadOwn 0 az_25 rfl rfl rfl .none rfl ?_
        refine JL.move .none rfl ?_
        refine JL.move .none rfl ?_
        refine JL.move .none rfl ?_
        obtain ⟨y105, hy105, hF⟩ := bind_some hF
        refine JL.indexSL (R := (RSl 1 RInt)) sl_72 (SL.mono (RSl.mono RInt.mono) hs95 hy6a_0) rfl hy105 .none rfl ?_
        rintro b106 o107 cs108 hc109 - ⟨y105_v0, rfl, hy105_0⟩
        refine JL.loadH 0 az_26 rfl hc109 rfl .none rfl ?_
        obtain ⟨y110, hy110, hF⟩ := bind_some hF
        refine JL.callS (c_ref11_takes n H95 t t_v2 (SL.mono R_Rain_mono (HSub.trans hs3 (HSub.trans hs7 hs95)) ht_2) t_v4 (SL.mono R_Fair_mono (HSub.trans hs3 (HSub.trans hs7 hs95)) ht_4) y2.1 y2a_v0 (SL.mono (RSl.mono RInt.mono) (HSub.trans hs7 hs95) hy2a_0) y105 y105_v0 hy105_0 y110 hy110) rfl en_49 .none rfl ?_
        refine JL.field ft_31_1 az_3 rfl rfl .none rfl ?_
        refine JL.max rfl rfl .none rfl ?_
        refine JL.assign .none rfl ?_
        refine JL.doneQ hQ ?_
        refine JQ.normal_block ?_
        refine JQ.go ?_
        refine JC.fresh (fun f => f 1 = .pointer (some ⟨b1, 0, none⟩) ∧ f 4 = y2a_v0 ∧ f 6 = .int .i64 (max n_93 y110.High) ∧ f 7 = y6a_v0 ∧ f 8 = .int .i64 i_94) ⟨rfl, rfl, rfl, rfl, rfl⟩ ?_
        rintro f ⟨hf1, hf4, hf6, hf7, hf8⟩
        refine (JC.norm (i := 1) hf1 (JC.norm (i := 4) hf4 (JC.norm (i := 6) hf6 (JC.norm (i := 7) hf7 (JC.norm (i := 8) hf8 ?_)))))
        refine JC.region (by rfl) ?_
        intro hQ
        refine JL.move .none rfl ?_
        refine JL.bin rfl rfl rfl .none rfl ?_
        refine JL.assign .none rfl ?_
        refine JL.done hQ ?_
        obtain rfl := Option.some.inj hF
        exact JQ.next rfl ⟨rfl, rfl, rfl, rfl, rfl, rfl, rfl, hs95⟩
      · refine JC.cond_f (b := decide (i_94 < (y6.length : Int))) rfl hc98 ?_
        refine JC.exit ?_
        refine JQ.exit_then ?_
        refine JQ.exit_then ?_
        refine JQ.exit_block ?_
        obtain rfl := Option.some.inj hF
        have ehr96 := hr96 _ rfl
        subst ehr96
        refine JQ.mask [false] [] ?_
        exact JQ.join n_93 ⟨rfl, rfl, rfl, hs95, rfl⟩
    · rintro n_58 H59 f bs gs ⟨hf6, rfl, rfl, hs59, rfl⟩
      have hF := hKr60
      try dsimp only at hF
      refine (JQ.norm (i := 6) hf6 ?_)
      refine JQ.go ?_
      refine JC.seq ?_
      refine JC.region (by rfl) ?_
      intro hQ
      refine JL.move .none rfl ?_
      refine JL.assign .none rfl ?_
      refine JL.assign .none rfl ?_
      refine JL.done hQ ?_
      refine JQ.go ?_
      refine JC.ret ?_
      obtain rfl := Option.some.inj hF
      exact JQ.outS rfl (.tmp (.tmp .nil)) rfl

-- 27 ferrule/rains.Route
def F_rains_Route (n : Nat) (t : Tour) : Option ((List Int) × Int) :=
  (F_rains_best n t (fun a0_ => F_rains_low n a0_)).bind fun y2 => some (y2.2.1, y2.2.2)
set_option maxRecDepth 100000 in
set_option maxHeartbeats 40000000 in
theorem c_rains_Route (n : Nat) (H : Hp) (t : Tour) (t_v2 : Value) (ht_2 : SL H 3 R_Rain t_v2 t.Rains) (t_v4 : Value) (ht_4 : SL H 2 R_Fair t_v4 t.Fairs) (y : (List Int) × Int) (hF : F_rains_Route n t = some y) : HC Try.prog 27 [.agg [.int .i64 t.Days, .int .i64 t.Step, t_v2, .int .i64 t.Wrong, t_v4, .int .i64 t.Reach, .int .i64 t.Stock].toArray] H (fun H' v => ∃ ra_v0 : Value, v = .tuple [ra_v0, .int .i64 y.2].toArray ∧ SL H' 1 RInt ra_v0 y.1) := by
  rw [F_rains_Route] at hF
  refine HC.of (N := 15) Try.func27 rfl rfl rfl fun w => ?_
  refine JC.seq ?_
  refine JC.region (by rfl) ?_
  intro hQ
  refine JL.box (cs := [.int .i64 t.Days, .int .i64 t.Step, t_v2, .int .i64 t.Wrong, t_v4, .int .i64 t.Reach, .int .i64 t.Stock]) rfl .none rfl ?_
  intro b1
  refine JL.assign .none rfl ?_
  refine JL.assign .none rfl ?_
  refine JL.done hQ ?_
  refine JQ.go ?_
  refine JC.seq ?_
  refine JC.region (by rfl) ?_
  intro hQ
  refine JL.loadOwn 0 az_25 rfl rfl rfl .none rfl ?_
  obtain ⟨y2, hy2, hF⟩ := bind_some hF
  refine JL.callH (c_rains_best n H t t_v2 ht_2 t_v4 ht_4 (fun a0_ => F_rains_low n a0_) 54 [] en_54 (fun H' hs' a0_ y' hy' => c_rains_low n H' a0_ y' hy') y2 hy2) rfl en_53 .none rfl ?_
  rintro H3 vv4 hs3 ⟨y2b_v0, rfl, hy2b_0⟩
  refine JL.move .none rfl ?_
  refine JL.extract rfl rfl .none rfl ?_
  refine JL.extract rfl rfl .none rfl ?_
  refine JL.extract rfl rfl .none rfl ?_
  refine JL.assign .none rfl ?_
  refine JL.assign .none rfl ?_
  refine JL.assign .none rfl ?_
  refine JL.done hQ ?_
  refine JQ.go ?_
  refine JC.seq ?_
  refine JC.region (by rfl) ?_
  intro hQ
  refine JL.move .none rfl ?_
  refine JL.move .none rfl ?_
  refine JL.assign .none rfl ?_
  refine JL.assign .none rfl ?_
  refine JL.done hQ ?_
  refine JQ.go ?_
  refine JC.fresh (fun f => f 2 = y2b_v0 ∧ f 3 = .int .i64 y2.2.2) ⟨rfl, rfl⟩ ?_
  rintro f ⟨hf2, hf3⟩
  refine (JC.norm (i := 2) hf2 (JC.norm (i := 3) hf3 ?_))
  refine JC.ret ?_
  obtain rfl := Option.some.inj hF
  exact JQ.outH rfl (.tmp (.tmp .nil)) ⟨y2b_v0, rfl, hy2b_0⟩

-- 7 ferrule/ferrulelaw11.RainsBest
def F_law11_RainsBest (n : Nat) (t : Tour) : Option Bool :=
  (F_law11_Far n t).bind fun y2 => if y2 = true then ((F_law11_works n).bind fun y4 => some y4) else ((F_ref11_Copy n t).bind fun y5 => (F_rains_Best n y5).bind fun y9 => (F_ref11_Best n t).bind fun y10 => (F_rains_Hopes n y5).bind fun y11 => (F_ref11_Hopes n t).bind fun y12 => (F_rains_Route n y5).bind fun y13 => if ((((((y9.1 != y10.1) || (y9.2 != y10.2)) || (y11.1 != y12.1)) || (y11.2 != y12.2)) || (y13.2 != y10.2)) || (decide (20 < (y13.1.length : Int)))) = true then (some false) else (if (y10.2 != 0) = true then ((if ((y13.1.length : Int) == 0) = true then ((F_law11_works n).bind fun y32 => some y32) else (some false) : Option Bool).bind fun p29 => some p29) else ((F_ref11_Takes n t y13.1).bind fun y33 => (if ((y33.2 == 0) && (y33.1.Low == y10.1)) = true then ((F_law11_works n).bind fun y41 => some y41) else (some false) : Option Bool).bind fun p38 => some p38)))
set_option maxRecDepth 100000 in
set_option maxHeartbeats 40000000 in
theorem c_law11_RainsBest (n : Nat) (H : Hp) (t : Tour) (t_v2 : Value) (ht_2 : SL H 3 R_Rain t_v2 t.Rains) (t_v4 : Value) (ht_4 : SL H 2 R_Fair t_v4 t.Fairs) (y : Bool) (hF : F_law11_RainsBest n t = some y) : SC Try.prog 7 [.agg [.int .i64 t.Days, .int .i64 t.Step, t_v2, .int .i64 t.Wrong, t_v4, .int .i64 t.Reach, .int .i64 t.Stock].toArray] (.bool y) H := by
  rw [F_law11_RainsBest] at hF
  refine SC.of (N := 99) Try.func7 rfl rfl rfl fun w => ?_
  refine JC.seq ?_
  refine JC.region (by rfl) ?_
  intro hQ
  refine JL.box (cs := [.int .i64 t.Days, .int .i64 t.Step, t_v2, .int .i64 t.Wrong, t_v4, .int .i64 t.Reach, .int .i64 t.Stock]) rfl .none rfl ?_
  intro b1
  refine JL.assign .none rfl ?_
  refine JL.done hQ ?_
  refine JQ.go ?_
  refine JC.seq ?_
  refine JC.seq ?_
  refine JC.region (by rfl) ?_
  intro hQ
  refine JL.loadOwn 0 az_25 rfl rfl rfl .none rfl ?_
  obtain ⟨y2, hy2, hF⟩ := bind_some hF
  refine JL.callS (c_law11_Far n H t t_v2 ht_2 t_v4 ht_4 y2 hy2) rfl en_12 .none rfl ?_
  refine JL.done hQ ?_
  refine JQ.go ?_
  rcases ite_some hF with ⟨hc3, hF⟩ | ⟨hc3, hF⟩
  · refine JC.cond_t (b := y2) rfl hc3 ?_
    refine JC.seq ?_
    refine JC.region (by rfl) ?_
    intro hQ
    obtain ⟨y4, hy4, hF⟩ := bind_some hF
    refine JL.callS (c_law11_works n H y4 hy4) rfl en_13 .none rfl ?_
    refine JL.assign .none rfl ?_
    refine JL.done hQ ?_
    refine JQ.go ?_
    refine JC.ret ?_
    refine JQ.ret_then ?_
    obtain rfl := Option.some.inj hF
    exact JQ.outS rfl (.tmp .nil) rfl
  · refine JC.cond_f (b := y2) rfl hc3 ?_
    refine JC.skip ?_
    refine JQ.go ?_
    refine JC.seq ?_
    refine JC.region (by rfl) ?_
    intro hQ
    refine JL.loadOwn 0 az_25 rfl rfl rfl .none rfl ?_
    obtain ⟨y5, hy5, hF⟩ := bind_some hF
    refine JL.callH (c_ref11_Copy n H t t_v2 ht_2 t_v4 ht_4 y5 hy5) rfl en_14 .none rfl ?_
    rintro H6 vv7 hs6 ⟨y5a_v2, y5a_v4, rfl, hy5a_2, hy5a_4⟩
    refine JL.alloc ze_25 .none rfl ?_
    intro b8
    refine JL.storeOwn 0 (cs := [.int .i64 y5.Days, .int .i64 y5.Step, y5a_v2, .int .i64 y5.Wrong, y5a_v4, .int .i64 y5.Reach, .int .i64 y5.Stock]) az_25 rfl rfl rfl (one_cons rfl (one_cons rfl (one_cons (SL.one hy5a_2) (one_cons rfl (one_cons (SL.one hy5a_4) (one_cons rfl (one_cons rfl one_nil))))))) rfl rfl .none ?_
    refine JL.done hQ ?_
    refine JQ.go ?_
    refine JC.seq ?_
    refine JC.region (by rfl) ?_
    intro hQ
    refine JL.loadOwn 0 az_25 rfl rfl rfl .none rfl ?_
    obtain ⟨y9, hy9, hF⟩ := bind_some hF
    refine JL.callS (c_rains_Best n H6 y5 y5a_v2 hy5a_2 y5a_v4 hy5a_4 y9 hy9) rfl en_23 .none rfl ?_
    refine JL.move .none rfl ?_
    refine JL.extract rfl rfl .none rfl ?_
    refine JL.extract rfl rfl .none rfl ?_
    refine JL.assign .none rfl ?_
    refine JL.assign .none rfl ?_
    refine JL.done hQ ?_
    refine JQ.go ?_
    refine JC.fresh (fun f => f 1 = .pointer (some ⟨b1, 0, none⟩) ∧ f 2 = .bool false ∧ f 3 = .pointer (some ⟨b8, 0, none⟩) ∧ f 4 = .int .i64 y9.1 ∧ f 5 = .int .i64 y9.2) ⟨rfl, rfl, rfl, rfl, rfl⟩ ?_
    rintro f ⟨hf1, hf2, hf3, hf4, hf5⟩
    refine (JC.norm (i := 1) hf1 (JC.norm (i := 2) hf2 (JC.norm (i := 3) hf3 (JC.norm (i := 4) hf4 (JC.norm (i := 5) hf5 ?_)))))
    refine JC.seq ?_
    refine JC.region (by rfl) ?_
    intro hQ
    refine JL.loadOwn 1 az_25 rfl rfl rfl .none rfl ?_
    obtain ⟨y10, hy10, hF⟩ := bind_some hF
    refine JL.callS (c_ref11_Best n H6 t t_v2 (SL.mono R_Rain_mono hs6 ht_2) t_v4 (SL.mono R_Fair_mono hs6 ht_4) y10 hy10) rfl en_25 .none rfl ?_
    refine JL.move .none rfl ?_
    refine JL.extract rfl rfl .none rfl ?_
    refine JL.extract rfl rfl .none rfl ?_
    refine JL.assign .none rfl ?_
    refine JL.assign .none rfl ?_
    refine JL.done hQ ?_
    refine JQ.go ?_
    refine JC.seq ?_
    refine JC.region (by rfl) ?_
    intro hQ
    refine JL.loadOwn 0 az_25 rfl rfl rfl .none rfl ?_
    obtain ⟨y11, hy11, hF⟩ := bind_some hF
    refine JL.callS (c_rains_Hopes n H6 y5 y5a_v2 hy5a_2 y5a_v4 hy5a_4 y11 hy11) rfl en_24 .none rfl ?_
    refine JL.move .none rfl ?_
    refine JL.extract rfl rfl .none rfl ?_
    refine JL.extract rfl rfl .none rfl ?_
    refine JL.assign .none rfl ?_
    refine JL.assign .none rfl ?_
    refine JL.done hQ ?_
    refine JQ.go ?_
    refine JC.fresh (fun f => f 1 = .pointer (some ⟨b1, 0, none⟩) ∧ f 2 = .bool false ∧ f 3 = .pointer (some ⟨b8, 0, none⟩) ∧ f 4 = .int .i64 y9.1 ∧ f 5 = .int .i64 y9.2 ∧ f 6 = .int .i64 y10.1 ∧ f 7 = .int .i64 y10.2 ∧ f 8 = .int .i64 y11.1 ∧ f 9 = .int .i64 y11.2) ⟨rfl, rfl, rfl, rfl, rfl, rfl, rfl, rfl, rfl⟩ ?_
    rintro f ⟨hf1, hf2, hf3, hf4, hf5, hf6, hf7, hf8, hf9⟩
    refine (JC.norm (i := 1) hf1 (JC.norm (i := 2) hf2 (JC.norm (i := 3) hf3 (JC.norm (i := 4) hf4 (JC.norm (i := 5) hf5 (JC.norm (i := 6) hf6 (JC.norm (i := 7) hf7 (JC.norm (i := 8) hf8 (JC.norm (i := 9) hf9 ?_)))))))))
    refine JC.seq ?_
    refine JC.region (by rfl) ?_
    intro hQ
    refine JL.loadOwn 1 az_25 rfl rfl rfl .none rfl ?_
    obtain ⟨y12, hy12, hF⟩ := bind_some hF
    refine JL.callS (c_ref11_Hopes n H6 t t_v2 (SL.mono R_Rain_mono hs6 ht_2) t_v4 (SL.mono R_Fair_mono hs6 ht_4) y12 hy12) rfl en_26 .none rfl ?_
    refine JL.move .none rfl ?_
    refine JL.extract rfl rfl .none rfl ?_
    refine JL.extract rfl rfl .none rfl ?_
    refine JL.assign .none rfl ?_
    refine JL.assign .none rfl ?_
    refine JL.done hQ ?_
    refine JQ.go ?_
    refine JC.seq ?_
    refine JC.region (by rfl) ?_
    intro hQ
    refine JL.loadOwn 0 az_25 rfl rfl rfl .none rfl ?_
    obtain ⟨y13, hy13, hF⟩ := bind_some hF
    refine JL.callH (c_rains_Route n H6 y5 y5a_v2 hy5a_2 y5a_v4 hy5a_4 y13 hy13) rfl en_27 .none rfl ?_
    rintro H14 vv15 hs14 ⟨y13a_v0, rfl, hy13a_0⟩
    refine JL.move .none rfl ?_
    refine JL.extract rfl rfl .none rfl ?_
    refine JL.extract rfl rfl .none rfl ?_
    refine JL.assign .none rfl ?_
    refine JL.assign .none rfl ?_
    refine JL.done hQ ?_
    refine JQ.go ?_
    refine JC.fresh (fun f => f 1 = .pointer (some ⟨b1, 0, none⟩) ∧ f 2 = .bool false ∧ f 4 = .int .i64 y9.1 ∧ f 5 = .int .i64 y9.2 ∧ f 6 = .int .i64 y10.1 ∧ f 7 = .int .i64 y10.2 ∧ f 8 = .int .i64 y11.1 ∧ f 9 = .int .i64 y11.2 ∧ f 10 = .int .i64 y12.1 ∧ f 11 = .int .i64 y12.2 ∧ f 12 = y13a_v0 ∧ f 13 = .int .i64 y13.2) ⟨rfl, rfl, rfl, rfl, rfl, rfl, rfl, rfl, rfl, rfl, rfl, rfl⟩ ?_
    rintro f ⟨hf1, hf2, hf4, hf5, hf6, hf7, hf8, hf9, hf10, hf11, hf12, hf13⟩
    refine (JC.norm (i := 1) hf1 (JC.norm (i := 2) hf2 (JC.norm (i := 4) hf4 (JC.norm (i := 5) hf5 (JC.norm (i := 6) hf6 (JC.norm (i := 7) hf7 (JC.norm (i := 8) hf8 (JC.norm (i := 9) hf9 (JC.norm (i := 10) hf10 (JC.norm (i := 11) hf11 (JC.norm (i := 12) hf12 (JC.norm (i := 13) hf13 ?_))))))))))))
    refine JC.seq ?_
    refine JC.seq ?_
    refine JC.region (by rfl) ?_
    intro hQ
    refine JL.move .none rfl ?_
    refine JL.move .none rfl ?_
    refine JL.bin rfl rfl rfl .none rfl ?_
    refine JL.move .none rfl ?_
    refine JL.cut 4 (fun f => f 1 = .pointer (some ⟨b1, 0, none⟩) ∧ f 6 = .int .i64 y10.1 ∧ f 7 = .int .i64 y10.2 ∧ f 8 = .int .i64 y11.1 ∧ f 9 = .int .i64 y11.2 ∧ f 10 = .int .i64 y12.1 ∧ f 11 = .int .i64 y12.2 ∧ f 12 = y13a_v0 ∧ f 13 = .int .i64 y13.2 ∧ f 53 = .bool ((y9.1 != y10.1) || (y9.2 != y10.2))) ?_ ?_
    · intro hJ16
      rcases bcases (y9.1 != y10.1) with hc17 | hc17
      · skip
        refine JL.skip (.bool rfl rfl rfl hc17) rfl ?_
        refine JL.skip (.bool rfl rfl rfl hc17) rfl ?_
        refine JL.skip (.bool rfl rfl rfl hc17) rfl ?_
        refine JL.pick_t (b := (y9.1 != y10.1)) rfl hc17 .none rfl ?_
        exact hJ16 _ ⟨rfl, rfl, rfl, rfl, rfl, rfl, rfl, rfl, rfl, or_t hc17 rfl⟩
      · skip
        refine JL.move (.some rfl rfl rfl hc17) rfl ?_
        refine JL.move (.some rfl rfl rfl hc17) rfl ?_
        refine JL.bin rfl rfl rfl (.some rfl rfl rfl hc17) rfl ?_
        refine JL.pick_f (b := (y9.1 != y10.1)) rfl hc17 .none rfl ?_
        exact hJ16 _ ⟨rfl, rfl, rfl, rfl, rfl, rfl, rfl, rfl, rfl, or_f hc17 rfl⟩
    · rintro f ⟨hf1, hf6, hf7, hf8, hf9, hf10, hf11, hf12, hf13, hf53⟩
      refine (JL.norm (i := 1) hf1 (JL.norm (i := 6) hf6 (JL.norm (i := 7) hf7 (JL.norm (i := 8) hf8 (JL.norm (i := 9) hf9 (JL.norm (i := 10) hf10 (JL.norm (i := 11) hf11 (JL.norm (i := 12) hf12 (JL.norm (i := 13) hf13 (JL.norm (i := 53) hf53 ?_))))))))))
      refine JL.move .none rfl ?_
      refine JL.cut 4 (fun f => f 1 = .pointer (some ⟨b1, 0, none⟩) ∧ f 6 = .int .i64 y10.1 ∧ f 7 = .int .i64 y10.2 ∧ f 9 = .int .i64 y11.2 ∧ f 11 = .int .i64 y12.2 ∧ f 12 = y13a_v0 ∧ f 13 = .int .i64 y13.2 ∧ f 58 = .bool (((y9.1 != y10.1) || (y9.2 != y10.2)) || (y11.1 != y12.1))) ?_ ?_
      · intro hJ18
        rcases bcases ((y9.1 != y10.1) || (y9.2 != y10.2)) with hc19 | hc19
        · skip
          refine JL.skip (.bool rfl rfl rfl hc19) rfl ?_
          refine JL.skip (.bool rfl rfl rfl hc19) rfl ?_
          refine JL.skip (.bool rfl rfl rfl hc19) rfl ?_
          refine JL.pick_t (b := ((y9.1 != y10.1) || (y9.2 != y10.2))) rfl hc19 .none rfl ?_
          exact hJ18 _ ⟨rfl, rfl, rfl, rfl, rfl, rfl, rfl, or_t hc19 rfl⟩
        · skip
          refine JL.move (.some rfl rfl rfl hc19) rfl ?_
          refine JL.move (.some rfl rfl rfl hc19) rfl ?_
          refine JL.bin rfl rfl rfl (.some rfl rfl rfl hc19) rfl ?_
          refine JL.pick_f (b := ((y9.1 != y10.1) || (y9.2 != y10.2))) rfl hc19 .none rfl ?_
          exact hJ18 _ ⟨rfl, rfl, rfl, rfl, rfl, rfl, rfl, or_f hc19 rfl⟩
      · rintro f ⟨hf1, hf6, hf7, hf9, hf11, hf12, hf13, hf58⟩
        refine (JL.norm (i := 1) hf1 (JL.norm (i := 6) hf6 (JL.norm (i := 7) hf7 (JL.norm (i := 9) hf9 (JL.norm (i := 11) hf11 (JL.norm (i := 12) hf12 (JL.norm (i := 13) hf13 (JL.norm (i := 58) hf58 ?_))))))))
        refine JL.move .none rfl ?_
        refine JL.cut 4 (fun f => f 1 = .pointer (some ⟨b1, 0, none⟩) ∧ f 6 = .int .i64 y10.1 ∧ f 7 = .int .i64 y10.2 ∧ f 12 = y13a_v0 ∧ f 13 = .int .i64 y13.2 ∧ f 63 = .bool ((((y9.1 != y10.1) || (y9.2 != y10.2)) || (y11.1 != y12.1)) || (y11.2 != y12.2))) ?_ ?_
        · intro hJ20
          rcases bcases (((y9.1 != y10.1) || (y9.2 != y10.2)) || (y11.1 != y12.1)) with hc21 | hc21
          · skip
            refine JL.skip (.bool rfl rfl rfl hc21) rfl ?_
            refine JL.skip (.bool rfl rfl rfl hc21) rfl ?_
            refine JL.skip (.bool rfl rfl rfl hc21) rfl ?_
            refine JL.pick_t (b := (((y9.1 != y10.1) || (y9.2 != y10.2)) || (y11.1 != y12.1))) rfl hc21 .none rfl ?_
            exact hJ20 _ ⟨rfl, rfl, rfl, rfl, rfl, or_t hc21 rfl⟩
          · skip
            refine JL.move (.some rfl rfl rfl hc21) rfl ?_
            refine JL.move (.some rfl rfl rfl hc21) rfl ?_
            refine JL.bin rfl rfl rfl (.some rfl rfl rfl hc21) rfl ?_
            refine JL.pick_f (b := (((y9.1 != y10.1) || (y9.2 != y10.2)) || (y11.1 != y12.1))) rfl hc21 .none rfl ?_
            exact hJ20 _ ⟨rfl, rfl, rfl, rfl, rfl, or_f hc21 rfl⟩
        · rintro f ⟨hf1, hf6, hf7, hf12, hf13, hf63⟩
          refine (JL.norm (i := 1) hf1 (JL.norm (i := 6) hf6 (JL.norm (i := 7) hf7 (JL.norm (i := 12) hf12 (JL.norm (i := 13) hf13 (JL.norm (i := 63) hf63 ?_))))))
          refine JL.move .none rfl ?_
          refine JL.cut 4 (fun f => f 1 = .pointer (some ⟨b1, 0, none⟩) ∧ f 6 = .int .i64 y10.1 ∧ f 7 = .int .i64 y10.2 ∧ f 12 = y13a_v0 ∧ f 68 = .bool (((((y9.1 != y10.1) || (y9.2 != y10.2)) || (y11.1 != y12.1)) || (y11.2 != y12.2)) || (y13.2 != y10.2))) ?_ ?_
          · intro hJ22
            rcases bcases ((((y9.1 != y10.1) || (y9.2 != y10.2)) || (y11.1 != y12.1)) || (y11.2 != y12.2)) with hc23 | hc23
            · skip
              refine JL.skip (.bool rfl rfl rfl hc23) rfl ?_
              refine JL.skip (.bool rfl rfl rfl hc23) rfl ?_
              refine JL.skip (.bool rfl rfl rfl hc23) rfl ?_
              refine JL.pick_t (b := ((((y9.1 != y10.1) || (y9.2 != y10.2)) || (y11.1 != y12.1)) || (y11.2 != y12.2))) rfl hc23 .none rfl ?_
              exact hJ22 _ ⟨rfl, rfl, rfl, rfl, or_t hc23 rfl⟩
            · skip
              refine JL.move (.some rfl rfl rfl hc23) rfl ?_
              refine JL.move (.some rfl rfl rfl hc23) rfl ?_
              refine JL.bin rfl rfl rfl (.some rfl rfl rfl hc23) rfl ?_
              refine JL.pick_f (b := ((((y9.1 != y10.1) || (y9.2 != y10.2)) || (y11.1 != y12.1)) || (y11.2 != y12.2))) rfl hc23 .none rfl ?_
              exact hJ22 _ ⟨rfl, rfl, rfl, rfl, or_f hc23 rfl⟩
          · rintro f ⟨hf1, hf6, hf7, hf12, hf68⟩
            refine (JL.norm (i := 1) hf1 (JL.norm (i := 6) hf6 (JL.norm (i := 7) hf7 (JL.norm (i := 12) hf12 (JL.norm (i := 68) hf68 ?_)))))
            refine JL.move .none rfl ?_
            refine JL.cut 4 (fun f => f 1 = .pointer (some ⟨b1, 0, none⟩) ∧ f 6 = .int .i64 y10.1 ∧ f 7 = .int .i64 y10.2 ∧ f 12 = y13a_v0 ∧ f 73 = .bool ((((((y9.1 != y10.1) || (y9.2 != y10.2)) || (y11.1 != y12.1)) || (y11.2 != y12.2)) || (y13.2 != y10.2)) || (decide (20 < (y13.1.length : Int))))) ?_ ?_
            · intro hJ24
              rcases bcases (((((y9.1 != y10.1) || (y9.2 != y10.2)) || (y11.1 != y12.1)) || (y11.2 != y12.2)) || (y13.2 != y10.2)) with hc25 | hc25
              · skip
                refine JL.skip (.bool rfl rfl rfl hc25) rfl ?_
                refine JL.skip (.bool rfl rfl rfl hc25) rfl ?_
                refine JL.skip (.bool rfl rfl rfl hc25) rfl ?_
                refine JL.pick_t (b := (((((y9.1 != y10.1) || (y9.2 != y10.2)) || (y11.1 != y12.1)) || (y11.2 != y12.2)) || (y13.2 != y10.2))) rfl hc25 .none rfl ?_
                exact hJ24 _ ⟨rfl, rfl, rfl, rfl, or_t hc25 rfl⟩
              · skip
                refine JL.move (.some rfl rfl rfl hc25) rfl ?_
                refine JL.lenSL (R := RInt) ul_26 hy13a_0 (.some rfl rfl rfl hc25) rfl ?_
                refine JL.bin rfl rfl rfl (.some rfl rfl rfl hc25) rfl ?_
                refine JL.pick_f (b := (((((y9.1 != y10.1) || (y9.2 != y10.2)) || (y11.1 != y12.1)) || (y11.2 != y12.2)) || (y13.2 != y10.2))) rfl hc25 .none rfl ?_
                exact hJ24 _ ⟨rfl, rfl, rfl, rfl, or_f hc25 rfl⟩
            · rintro f ⟨hf1, hf6, hf7, hf12, hf73⟩
              refine (JL.norm (i := 1) hf1 (JL.norm (i := 6) hf6 (JL.norm (i := 7) hf7 (JL.norm (i := 12) hf12 (JL.norm (i := 73) hf73 ?_)))))
              refine JL.done hQ ?_
              refine JQ.go ?_
              rcases ite_some hF with ⟨hc26, hF⟩ | ⟨hc26, hF⟩
              · refine JC.cond_t (b := ((((((y9.1 != y10.1) || (y9.2 != y10.2)) || (y11.1 != y12.1)) || (y11.2 != y12.2)) || (y13.2 != y10.2)) || (decide (20 < (y13.1.length : Int))))) rfl hc26 ?_
                refine JC.seq ?_
                refine JC.region (by rfl) ?_
                intro hQ
                refine JL.assign .none rfl ?_
                refine JL.done hQ ?_
                refine JQ.go ?_
                refine JC.ret ?_
                refine JQ.ret_then ?_
                obtain rfl := Option.some.inj hF
                exact JQ.outS rfl (.tmp .nil) rfl
              · refine JC.cond_f (b := ((((((y9.1 != y10.1) || (y9.2 != y10.2)) || (y11.1 != y12.1)) || (y11.2 != y12.2)) || (y13.2 != y10.2)) || (decide (20 < (y13.1.length : Int))))) rfl hc26 ?_
                refine JC.skip ?_
                refine JQ.go ?_
                refine JC.seq ?_
                refine JC.seq ?_
                refine JC.region (by rfl) ?_
                intro hQ
                refine JL.move .none rfl ?_
                refine JL.bin rfl rfl rfl .none rfl ?_
                refine JL.done hQ ?_
                refine JQ.go ?_
                rcases ite_some hF with ⟨hc27, hF⟩ | ⟨hc27, hF⟩
                · refine JC.cond_t (b := (y10.2 != 0)) rfl hc27 ?_
                  refine JC.seq ?_
                  refine JC.region (by rfl) ?_
                  intro hQ
                  refine JL.move .none rfl ?_
                  refine JL.lenSL (R := RInt) ul_26 hy13a_0 .none rfl ?_
                  refine JL.bin rfl rfl rfl .none rfl ?_
                  refine JL.move .none rfl ?_
                  obtain ⟨p29, hp29, hF⟩ := bind_some hF
                  refine JL.cut 2 (fun f => f 81 = .bool p29) ?_ ?_
                  · intro hJ30
                    rcases ite_some hp29 with ⟨hc31, hF⟩ | ⟨hc31, hF⟩
                    · skip
                      obtain ⟨y32, hy32, hF⟩ := bind_some hF
                      refine JL.callS (c_law11_works n H14 y32 hy32) rfl en_13 (.some rfl rfl rfl hc31) rfl ?_
                      refine JL.pick_t (b := ((y13.1.length : Int) == 0)) rfl hc31 .none rfl ?_
                      obtain rfl := Option.some.inj hF
                      exact hJ30 _ (rfl)
                    · skip
                      refine JL.skip (.bool rfl rfl rfl hc31) rfl ?_
                      refine JL.pick_f (b := ((y13.1.length : Int) == 0)) rfl hc31 .none rfl ?_
                      obtain rfl := Option.some.inj hF
                      exact hJ30 _ (rfl)
                  · rintro f hf81
                    refine (JL.norm (i := 81) hf81 ?_)
                    refine JL.assign .none rfl ?_
                    refine JL.done hQ ?_
                    refine JQ.go ?_
                    refine JC.ret ?_
                    refine JQ.ret_then ?_
                    obtain rfl := Option.some.inj hF
                    exact JQ.outS rfl (.tmp .nil) rfl
                · refine JC.cond_f (b := (y10.2 != 0)) rfl hc27 ?_
                  refine JC.skip ?_
                  refine JQ.go ?_
                  refine JC.seq ?_
                  refine JC.region (by rfl) ?_
                  intro hQ
                  refine JL.loadOwn 1 az_25 rfl rfl rfl .none rfl ?_
                  refine JL.move .none rfl ?_
                  obtain ⟨y33, hy33, hF⟩ := bind_some hF
                  refine JL.callS (c_ref11_Takes n H14 t t_v2 (SL.mono R_Rain_mono (HSub.trans hs6 hs14) ht_2) t_v4 (SL.mono R_Fair_mono (HSub.trans hs6 hs14) ht_4) y13.1 y13a_v0 hy13a_0 y33 hy33) rfl en_16 .none rfl ?_
                  refine JL.move .none rfl ?_
                  refine JL.extract rfl rfl .none rfl ?_
                  refine JL.extract rfl rfl .none rfl ?_
                  refine JL.alloc ze_31 .none rfl ?_
                  intro b34
                  refine JL.storeOwn 0 (cs := [.int .i64 y33.1.Low, .int .i64 y33.1.High]) az_31 rfl rfl rfl (one_cons rfl (one_cons rfl one_nil)) rfl rfl .none ?_
                  refine JL.assign .none rfl ?_
                  refine JL.done hQ ?_
                  refine JQ.go ?_
                  refine JC.fresh (fun f => f 6 = .int .i64 y10.1 ∧ f 14 = .pointer (some ⟨b34, 0, none⟩) ∧ f 15 = .int .i64 y33.2) ⟨rfl, rfl, rfl⟩ ?_
                  rintro f ⟨hf6, hf14, hf15⟩
                  refine (JC.norm (i := 6) hf6 (JC.norm (i := 14) hf14 (JC.norm (i := 15) hf15 ?_)))
                  refine JC.seq ?_
                  refine JC.region (by rfl) ?_
                  intro hQ
                  refine JL.move .none rfl ?_
                  refine JL.bin rfl rfl rfl .none rfl ?_
                  refine JL.move .none rfl ?_
                  refine JL.cut 5 (fun f => f 95 = .bool ((y33.2 == 0) && (y33.1.Low == y10.1))) ?_ ?_
                  · intro hJ35
                    rcases bcases (y33.2 == 0) with hc36 | hc36
                    · skip
                      refine JL.fieldAddr fo_31_0 rfl (.some rfl rfl rfl hc36) rfl ?_
                      refine JL.loadOwn 0 az_3 rfl rfl rfl (.some rfl rfl rfl hc36) rfl ?_
                      refine JL.move (.some rfl rfl rfl hc36) rfl ?_
                      refine JL.bin rfl rfl rfl (.some rfl rfl rfl hc36) rfl ?_
                      refine JL.pick_t (b := (y33.2 == 0)) rfl hc36 .none rfl ?_
                      exact hJ35 _ (and_t hc36 rfl)
                    · skip
                      refine JL.skip (.bool rfl rfl rfl hc36) rfl ?_
                      refine JL.skip (.bool rfl rfl rfl hc36) rfl ?_
                      refine JL.skip (.bool rfl rfl rfl hc36) rfl ?_
                      refine JL.skip (.bool rfl rfl rfl hc36) rfl ?_
                      refine JL.pick_f (b := (y33.2 == 0)) rfl hc36 .none rfl ?_
                      exact hJ35 _ (and_f hc36 rfl)
                  · rintro f hf95
                    refine (JL.norm (i := 95) hf95 ?_)
                    refine JL.move .none rfl ?_
                    obtain ⟨p38, hp38, hF⟩ := bind_some hF
                    refine JL.cut 2 (fun f => f 98 = .bool p38) ?_ ?_
                    · intro hJ39
                      rcases ite_some hp38 with ⟨hc40, hF⟩ | ⟨hc40, hF⟩
                      · skip
                        obtain ⟨y41, hy41, hF⟩ := bind_some hF
                        refine JL.callS (c_law11_works n H14 y41 hy41) rfl en_13 (.some rfl rfl rfl hc40) rfl ?_
                        refine JL.pick_t (b := ((y33.2 == 0) && (y33.1.Low == y10.1))) rfl hc40 .none rfl ?_
                        obtain rfl := Option.some.inj hF
                        exact hJ39 _ (rfl)
                      · skip
                        refine JL.skip (.bool rfl rfl rfl hc40) rfl ?_
                        refine JL.pick_f (b := ((y33.2 == 0) && (y33.1.Low == y10.1))) rfl hc40 .none rfl ?_
                        obtain rfl := Option.some.inj hF
                        exact hJ39 _ (rfl)
                    · rintro f hf98
                      refine (JL.norm (i := 98) hf98 ?_)
                      refine JL.assign .none rfl ?_
                      refine JL.done hQ ?_
                      refine JQ.go ?_
                      refine JC.ret ?_
                      obtain rfl := Option.some.inj hF
                      exact JQ.outS rfl (.tmp .nil) rfl

end Go.Proofs.Ytooankffknoomaa
