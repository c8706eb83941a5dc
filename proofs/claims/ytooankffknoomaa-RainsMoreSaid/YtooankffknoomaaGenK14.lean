/-
  Printed by a program: functions of the translation as plain functions, and their contracts.
-/
import Derived.Test.YtooankffknoomaaGenK13
namespace Go.Proofs.Ytooankffknoomaa
open Go Go.RowKit Go.Dec
set_option linter.unusedVariables false
-- 39 ferrule/ferruleref11.Fewest
def F_ref11_Fewest_s1 (n : Nat) (t : Tour) (y4 : (List (List Int))) : Int × Int → Option ((Int × Int) ⊕ Int)
  | (n_91, i_92) => if decide (i_92 < (y4.length : Int)) = true then ((geti y4 i_92).bind fun y103 => (F_ref11_Wrongs n t y103).bind fun y108 => some (Sum.inl ((min n_91 y108), (w64 (i_92 + 1))))) else (some (Sum.inr n_91))
def F_ref11_Fewest (n : Nat) (t : Tour) : Option (Int × Int) :=
  (F_ref11_Check n t).bind fun y2 => if (y2 != 0) = true then (some (0, y2)) else ((F_ref11_rows n ([] : List Int) t.Days 3 t.Step).bind fun y4 => (loopO n (F_ref11_Fewest_s1 n t y4) ((t.Rains.length : Int), 0)).bind fun n_56 => some (n_56, 0))
set_option maxRecDepth 100000 in
set_option maxHeartbeats 40000000 in
theorem c_ref11_Fewest (n : Nat) (H : Hp) (t : Tour) (t_v2 : Value) (ht_2 : SL H 3 R_Rain t_v2 t.Rains) (t_v4 : Value) (ht_4 : SL H 2 R_Fair t_v4 t.Fairs) (y : Int × Int) (hF : F_ref11_Fewest n t = some y) : SC Try.prog 39 [.agg [.int .i64 t.Days, .int .i64 t.Step, t_v2, .int .i64 t.Wrong, t_v4, .int .i64 t.Reach, .int .i64 t.Stock].toArray] (.tuple [.int .i64 y.1, .int .i64 y.2].toArray) H := by
  rw [F_ref11_Fewest] at hF
  refine SC.of (N := 36) Try.func39 rfl rfl rfl fun w => ?_
  refine JC.seq ?_
  refine JC.region (by rfl) ?_
  intro hQ
  refine JL.box (cs := [.int .i64 t.Days, .int .i64 t.Step, t_v2, .int .i64 t.Wrong, t_v4, .int .i64 t.Reach, .int .i64 t.Stock]) rfl .none rfl ?_
  intro b1
  refine JL.assign .none rfl ?_
  refine JL.assign .none rfl ?_
  refine JL.done hQ ?_
  refine JQ.go ?_
  refine JC.seq ?_
  refine JC.seq ?_
  refine JC.region (by rfl) ?_
  intro hQ
  refine JL.loadOwn 0 az_25 rfl rfl rfl .none rfl ?_
  obtain ⟨y2, hy2, hF⟩ := bind_some hF
  refine JL.callS (c_ref11_Check n H t t_v2 ht_2 t_v4 ht_4 y2 hy2) rfl en_38 .none rfl ?_
  refine JL.assign .none rfl ?_
  refine JL.done hQ ?_
  refine JQ.go ?_
  refine JC.seq ?_
  refine JC.region (by rfl) ?_
  intro hQ
  refine JL.move .none rfl ?_
  refine JL.bin rfl rfl rfl .none rfl ?_
  refine JL.done hQ ?_
  refine JQ.go ?_
  rcases ite_some hF with ⟨hc3, hF⟩ | ⟨hc3, hF⟩
  · refine JC.cond_t (b := (y2 != 0)) rfl hc3 ?_
    refine JC.seq ?_
    refine JC.region (by rfl) ?_
    intro hQ
    refine JL.move .none rfl ?_
    refine JL.assign .none rfl ?_
    refine JL.assign .none rfl ?_
    refine JL.done hQ ?_
    refine JQ.go ?_
    refine JC.ret ?_
    refine JQ.ret_then ?_
    obtain rfl := Option.some.inj hF
    exact JQ.outS rfl (.tmp (.tmp .nil)) rfl
  · refine JC.cond_f (b := (y2 != 0)) rfl hc3 ?_
    refine JC.skip ?_
    refine JQ.go ?_
    refine JC.seq ?_
    refine JC.region (by rfl) ?_
    intro hQ
    refine JL.fieldAddr fo_25_2 rfl .none rfl ?_
    refine JL.loadOwn 0 az_22 rfl rfl rfl .none rfl ?_
    refine JL.lenSL (R := R_Rain) ul_22 ht_2 .none rfl ?_
    refine JL.assign .none rfl ?_
    refine JL.done hQ ?_
    refine JQ.go ?_
    refine JC.seq ?_
    refine JC.region (by rfl) ?_
    intro hQ
    refine JL.fieldAddr fo_25_0 rfl .none rfl ?_
    refine JL.loadOwn 0 az_3 rfl rfl rfl .none rfl ?_
    refine JL.fieldAddr fo_25_1 rfl .none rfl ?_
    refine JL.loadOwn 0 az_3 rfl rfl rfl .none rfl ?_
    obtain ⟨y4, hy4, hF⟩ := bind_some hF
    refine JL.callH (c_ref11_rows n H ([] : List Int) (.slice none 0 0) SL.nil t.Days 3 t.Step y4 hy4) rfl en_68 .none rfl ?_
    intro H5 y4a_v0 hs5 hy4a_0
    refine JL.assign .none rfl ?_
    refine JL.done hQ ?_
    refine JQ.go ?_
    refine JC.fresh (fun f => f 1 = .pointer (some ⟨b1, 0, none⟩) ∧ f 2 = .int .i64 0 ∧ f 3 = .int .i64 0 ∧ f 5 = .int .i64 (t.Rains.length : Int) ∧ f 6 = y4a_v0) ⟨rfl, rfl, rfl, rfl, rfl⟩ ?_
    rintro f ⟨hf1, hf2, hf3, hf5, hf6⟩
    refine (JC.norm (i := 1) hf1 (JC.norm (i := 2) hf2 (JC.norm (i := 3) hf3 (JC.norm (i := 5) hf5 (JC.norm (i := 6) hf6 ?_)))))
    refine JC.seq ?_
    refine JC.seq ?_
    refine JC.region (by rfl) ?_
    intro hQ
    refine JL.assign .none rfl ?_
    refine JL.done hQ ?_
    refine JQ.go ?_
    obtain ⟨r58, hlr58, hKr58⟩ := bind_some hF
    refine JC.join (fun (n_56 : Int) H57 f bs gs => f 5 = .int .i64 n_56 ∧ bs = [] ∧ gs = [] ∧ HSub H5 H57 ∧ n_56 = r58) ?_ ?_
    · skip
      refine JC.block ?_
      refine JC.loop hlr58 (fun (x : Int × Int) H93 f bs gs => match x with | (n_91, i_92) => f 1 = .pointer (some ⟨b1, 0, none⟩) ∧ f 5 = .int .i64 n_91 ∧ f 6 = y4a_v0 ∧ f 7 = .int .i64 i_92 ∧ bs = [(b1, .cells [.int .i64 t.Days, .int .i64 t.Step, t_v2, .int .i64 t.Wrong, t_v4, .int .i64 t.Reach, .int .i64 t.Stock].toArray 25)] ∧ gs = [] ∧ HSub H5 H93) ⟨rfl, rfl, rfl, rfl, rfl, rfl, (HSub.refl _)⟩ ?_
      rintro ⟨n_91, i_92⟩ x95 H93 f bs gs ⟨hf1, hf5, hf6, hf7, rfl, rfl, hs93⟩ hF hr94
      rw [F_ref11_Fewest_s1] at hF
      refine (JC.norm (i := 1) hf1 (JC.norm (i := 5) hf5 (JC.norm (i := 6) hf6 (JC.norm (i := 7) hf7 ?_))))
      refine JC.seq ?_
      refine JC.seq ?_
      refine JC.region (by rfl) ?_
      intro hQ
      refine JL.move .none rfl ?_
      refine JL.move .none rfl ?_
      refine JL.lenSL (R := (RSl 1 RInt)) ul_72 (SL.mono (RSl.mono RInt.mono) hs93 hy4a_0) .none rfl ?_
      refine JL.bin rfl rfl rfl .none rfl ?_
      refine JL.done hQ ?_
      refine JQ.go ?_
      rcases ite_some hF with ⟨hc96, hF⟩ | ⟨hc96, hF⟩
      · refine JC.cond_t (b := decide (i_92 < (y4.length : Int))) rfl hc96 ?_
        refine JC.skip ?_
        refine JQ.go ?_
        refine JC.seq ?_
        refine JC.block ?_
        refine JC.draw (by rfl) mo_ (by kernel_rfl) ?_
        intro hQ
        refine JL.move .none rfl ?_
        refine JL.loadOwn 0 az_25 rfl rfl rfl .none rfl ?_
        refine JL.move .none rfl ?_
        refine JL.move .none rfl ?_
        obtain ⟨y103, hy103, hF⟩ := bind_some hF
        refine JL.indexSL (R := (RSl 1 RInt)) sl_72 (SL.mono (RSl.mono RInt.mono) hs93 hy4a_0) rfl hy103 .none rfl ?_
        rintro b104 o105 cs106 hc107 - ⟨y103_v0, rfl, hy103_0⟩
        refine JL.loadH 0 az_26 rfl hc107 rfl .none rfl ?_
        obtain ⟨y108, hy108, hF⟩ := bind_some hF
        refine JL.callS (c_ref11_Wrongs n H93 t t_v2 (SL.mono R_Rain_mono (HSub.trans hs5 hs93) ht_2) t_v4 (SL.mono R_Fair_mono (HSub.trans hs5 hs93) ht_4) y103 y103_v0 hy103_0 y108 hy108) rfl en_69 .none rfl ?_
        refine JL.min rfl rfl .none rfl ?_
        refine JL.assign .none rfl ?_
        refine JL.doneQ hQ ?_
        refine JQ.normal_block ?_
        refine JQ.go ?_
        refine JC.fresh (fun f => f 1 = .pointer (some ⟨b1, 0, none⟩) ∧ f 5 = .int .i64 (min n_91 y108) ∧ f 6 = y4a_v0 ∧ f 7 = .int .i64 i_92) ⟨rfl, rfl, rfl, rfl⟩ ?_
        rintro f ⟨hf1, hf5, hf6, hf7⟩
        refine (JC.norm (i := 1) hf1 (JC.norm (i := 5) hf5 (JC.norm (i := 6) hf6 (JC.norm (i := 7) hf7 ?_))))
        refine JC.region (by rfl) ?_
        intro hQ
        refine JL.move .none rfl ?_
        refine JL.bin rfl rfl rfl .none rfl ?_
        refine JL.assign .none rfl ?_
        refine JL.done hQ ?_
        obtain rfl := Option.some.inj hF
        exact JQ.next rfl ⟨rfl, rfl, rfl, rfl, rfl, rfl, hs93⟩
      · refine JC.cond_f (b := decide (i_92 < (y4.length : Int))) rfl hc96 ?_
        refine JC.exit ?_
        refine JQ.exit_then ?_
        refine JQ.exit_then ?_
        refine JQ.exit_block ?_
        obtain rfl := Option.some.inj hF
        have ehr94 := hr94 _ rfl
        subst ehr94
        refine JQ.mask [false] [] ?_
        exact JQ.join n_91 ⟨rfl, rfl, rfl, hs93, rfl⟩
    · rintro n_56 H57 f bs gs ⟨hf5, rfl, rfl, hs57, rfl⟩
      have hF := hKr58
      try dsimp only at hF
      refine (JQ.norm (i := 5) hf5 ?_)
      refine JQ.go ?_
      refine JC.seq ?_
      refine JC.region (by rfl) ?_
      intro hQ
      refine JL.move .none rfl ?_
      refine JL.assign .none rfl ?_
      refine JL.assign .none rfl ?_
      refine JL.done hQ ?_
      refine JQ.go ?_
      refine JC.ret ?_
      obtain rfl := Option.some.inj hF
      exact JQ.outS rfl (.tmp (.tmp .nil)) rfl

-- 40 ferrule/ferruleref11.Many
def F_ref11_Many (n : Nat) (t : Tour) : Option (Int × Int) :=
  (F_ref11_known n t true).bind fun y2 => some ((y2.1.length : Int), y2.2)
set_option maxRecDepth 100000 in
set_option maxHeartbeats 40000000 in
theorem c_ref11_Many (n : Nat) (H : Hp) (t : Tour) (t_v2 : Value) (ht_2 : SL H 3 R_Rain t_v2 t.Rains) (t_v4 : Value) (ht_4 : SL H 2 R_Fair t_v4 t.Fairs) (y : Int × Int) (hF : F_ref11_Many n t = some y) : SC Try.prog 40 [.agg [.int .i64 t.Days, .int .i64 t.Step, t_v2, .int .i64 t.Wrong, t_v4, .int .i64 t.Reach, .int .i64 t.Stock].toArray] (.tuple [.int .i64 y.1, .int .i64 y.2].toArray) H := by
  rw [F_ref11_Many] at hF
  refine SC.of (N := 14) Try.func40 rfl rfl rfl fun w => ?_
  refine JC.seq ?_
  refine JC.region (by rfl) ?_
  intro hQ
  refine JL.box (cs := [.int .i64 t.Days, .int .i64 t.Step, t_v2, .int .i64 t.Wrong, t_v4, .int .i64 t.Reach, .int .i64 t.Stock]) rfl .none rfl ?_
  intro b1
  refine JL.assign .none rfl ?_
  refine JL.assign .none rfl ?_
  refine JL.done hQ ?_
  refine JQ.go ?_
  refine JC.seq ?_
  refine JC.region (by rfl) ?_
  intro hQ
  refine JL.loadOwn 0 az_25 rfl rfl rfl .none rfl ?_
  obtain ⟨y2, hy2, hF⟩ := bind_some hF
  refine JL.callH (c_ref11_known n H t t_v2 ht_2 t_v4 ht_4 true y2 hy2) rfl en_48 .none rfl ?_
  rintro H3 vv4 hs3 ⟨y2a_v0, rfl, hy2a_0⟩
  refine JL.move .none rfl ?_
  refine JL.extract rfl rfl .none rfl ?_
  refine JL.extract rfl rfl .none rfl ?_
  refine JL.assign .none rfl ?_
  refine JL.assign .none rfl ?_
  refine JL.done hQ ?_
  refine JQ.go ?_
  refine JC.seq ?_
  refine JC.region (by rfl) ?_
  intro hQ
  refine JL.move .none rfl ?_
  refine JL.lenSL (R := (RSl 1 RInt)) ul_72 hy2a_0 .none rfl ?_
  refine JL.move .none rfl ?_
  refine JL.assign .none rfl ?_
  refine JL.assign .none rfl ?_
  refine JL.done hQ ?_
  refine JQ.go ?_
  refine JC.fresh (fun f => f 2 = .int .i64 (y2.1.length : Int) ∧ f 3 = .int .i64 y2.2) ⟨rfl, rfl⟩ ?_
  rintro f ⟨hf2, hf3⟩
  refine (JC.norm (i := 2) hf2 (JC.norm (i := 3) hf3 ?_))
  refine JC.ret ?_
  obtain rfl := Option.some.inj hF
  exact JQ.outS rfl (.tmp (.tmp .nil)) rfl

-- 80 ferrule/ferruleref07.In
def F_ref07_In_s1 (n : Nat) (l : List Int) (n_ : Int) : Int → Option (Int ⊕ (Bool ⊕ Unit))
  | i_50 => if decide (i_50 < (l.length : Int)) = true then ((geti l i_50).bind fun y55 => if (y55 == n_) = true then (some (Sum.inr (Sum.inl true))) else (some (Sum.inl (w64 (i_50 + 1))))) else (some (Sum.inr (Sum.inr ())))
def F_ref07_In (n : Nat) (l : List Int) (n_ : Int) : Option Bool :=
  (loopO n (F_ref07_In_s1 n l n_) 0).bind fun r31 => match r31 with | .inl o => some o | .inr _ => some false
set_option maxRecDepth 100000 in
set_option maxHeartbeats 40000000 in
theorem c_ref07_In (n : Nat) (H : Hp) (l : List Int) (l_v0 : Value) (hl_0 : SL H 1 RInt l_v0 l) (n_ : Int) (y : Bool) (hF : F_ref07_In n l n_ = some y) : SC Try.prog 80 [l_v0, .int .i64 n_] (.bool y) H := by
  rw [F_ref07_In] at hF
  refine SC.of (N := 18) Try.func80 rfl rfl rfl fun w => ?_
  refine JC.seq ?_
  refine JC.region (by rfl) ?_
  intro hQ
  refine JL.assign .none rfl ?_
  refine JL.done hQ ?_
  refine JQ.go ?_
  refine JC.seq ?_
  refine JC.seq ?_
  refine JC.region (by rfl) ?_
  intro hQ
  refine JL.assign .none rfl ?_
  refine JL.done hQ ?_
  refine JQ.go ?_
  obtain ⟨r31, hlr31, hKr31⟩ := bind_some hF
  refine JC.join (fun (_ : Unit) H30 f bs gs => bs = [] ∧ gs = [] ∧ HSub H H30 ∧ Sum.inr () = r31) ?_ ?_
  · skip
    refine JC.block ?_
    refine JC.loop hlr31 (fun (i_50 : Int) H51 f bs gs => f 0 = l_v0 ∧ f 1 = .int .i64 n_ ∧ f 5 = .int .i64 i_50 ∧ bs = [] ∧ gs = [] ∧ HSub H H51) ⟨rfl, rfl, rfl, rfl, rfl, (HSub.refl _)⟩ ?_
    rintro i_50 x53 H51 f bs gs ⟨hf0, hf1, hf5, rfl, rfl, hs51⟩ hF hr52
    rw [F_ref07_In_s1] at hF
    refine (JC.norm (i := 0) hf0 (JC.norm (i := 1) hf1 (JC.norm (i := 5) hf5 ?_)))
    refine JC.seq ?_
    refine JC.seq ?_
    refine JC.region (by rfl) ?_
    intro hQ
    refine JL.move .none rfl ?_
    refine JL.move .none rfl ?_
    refine JL.lenSL (R := RInt) ul_26 (SL.mono RInt.mono hs51 hl_0) .none rfl ?_
    refine JL.bin rfl rfl rfl .none rfl ?_
    refine JL.done hQ ?_
    refine JQ.go ?_
    rcases ite_some hF with ⟨hc54, hF⟩ | ⟨hc54, hF⟩
    · refine JC.cond_t (b := decide (i_50 < (l.length : Int))) rfl hc54 ?_
      refine JC.skip ?_
      refine JQ.go ?_
      refine JC.seq ?_
      refine JC.block ?_
      refine JC.seq ?_
      refine JC.region (by rfl) ?_
      intro hQ
      refine JL.move .none rfl ?_
      refine JL.move .none rfl ?_
      obtain ⟨y55, hy55, hF⟩ := bind_some hF
      refine JL.indexSL (R := RInt) sl_26 (SL.mono RInt.mono hs51 hl_0) rfl hy55 .none rfl ?_
      rintro b56 o57 cs58 hc59 - rfl
      refine JL.loadH 0 az_3 rfl hc59 rfl .none rfl ?_
      refine JL.move .none rfl ?_
      refine JL.bin rfl rfl rfl .none rfl ?_
      refine JL.done hQ ?_
      refine JQ.go ?_
      rcases ite_some hF with ⟨hc60, hF⟩ | ⟨hc60, hF⟩
      · refine JC.cond_t (b := (y55 == n_)) rfl hc60 ?_
        refine JC.seq ?_
        refine JC.region (by rfl) ?_
        intro hQ
        refine JL.assign .none rfl ?_
        refine JL.done hQ ?_
        refine JQ.go ?_
        refine JC.fresh (fun f => f 4 = .bool true) rfl ?_
        rintro f hf4
        refine (JC.norm (i := 4) hf4 ?_)
        refine JC.ret ?_
        refine JQ.ret_block ?_
        refine JQ.ret_then ?_
        refine JQ.ret_then ?_
        refine JQ.ret_block ?_
        refine JQ.ret_join ?_
        refine JQ.ret_then ?_
        obtain rfl := Option.some.inj hF
        have ehr52 := hr52 _ rfl
        subst ehr52
        have hF := hKr31
        try dsimp only at hF
        obtain rfl := Option.some.inj hF
        exact JQ.outS rfl (.tmp .nil) rfl
      · refine JC.cond_f (b := (y55 == n_)) rfl hc60 ?_
        refine JC.skip ?_
        refine JQ.normal_block ?_
        refine JQ.go ?_
        refine JC.region (by rfl) ?_
        intro hQ
        refine JL.move .none rfl ?_
        refine JL.bin rfl rfl rfl .none rfl ?_
        refine JL.assign .none rfl ?_
        refine JL.done hQ ?_
        obtain rfl := Option.some.inj hF
        exact JQ.next rfl ⟨rfl, rfl, rfl, rfl, rfl, hs51⟩
    · refine JC.cond_f (b := decide (i_50 < (l.length : Int))) rfl hc54 ?_
      refine JC.exit ?_
      refine JQ.exit_then ?_
      refine JQ.exit_then ?_
      refine JQ.exit_block ?_
      obtain rfl := Option.some.inj hF
      have ehr52 := hr52 _ rfl
      subst ehr52
      exact JQ.join () ⟨rfl, rfl, hs51, rfl⟩
  · rintro _ H30 f bs gs ⟨rfl, rfl, hs30, rfl⟩
    have hF := hKr31
    try dsimp only at hF
    refine JQ.go ?_
    refine JC.seq ?_
    refine JC.region (by rfl) ?_
    intro hQ
    refine JL.assign .none rfl ?_
    refine JL.done hQ ?_
    refine JQ.go ?_
    refine JC.ret ?_
    obtain rfl := Option.some.inj hF
    exact JQ.outS rfl (.tmp .nil) rfl

-- 70 ferrule/ferruleref11.in
def F_ref11_in (n : Nat) (l : List Int) (n_ : Int) : Option Bool :=
  (F_ref07_In n l n_).bind fun y1 => some y1
set_option maxRecDepth 100000 in
set_option maxHeartbeats 40000000 in
theorem c_ref11_in (n : Nat) (H : Hp) (l : List Int) (l_v0 : Value) (hl_0 : SL H 1 RInt l_v0 l) (n_ : Int) (y : Bool) (hF : F_ref11_in n l n_ = some y) : SC Try.prog 70 [l_v0, .int .i64 n_] (.bool y) H := by
  rw [F_ref11_in] at hF
  refine SC.of (N := 8) Try.func70 rfl rfl rfl fun w => ?_
  refine JC.seq ?_
  refine JC.region (by rfl) ?_
  intro hQ
  refine JL.assign .none rfl ?_
  refine JL.done hQ ?_
  refine JQ.go ?_
  refine JC.seq ?_
  refine JC.region (by rfl) ?_
  intro hQ
  refine JL.move .none rfl ?_
  refine JL.move .none rfl ?_
  obtain ⟨y1, hy1, hF⟩ := bind_some hF
  refine JL.callS (c_ref07_In n H l l_v0 hl_0 n_ y1 hy1) rfl en_80 .none rfl ?_
  refine JL.assign .none rfl ?_
  refine JL.done hQ ?_
  refine JQ.go ?_
  refine JC.ret ?_
  obtain rfl := Option.some.inj hF
  exact JQ.outS rfl (.tmp .nil) rfl

-- 41 ferrule/ferruleref11.Levels
def F_ref11_Levels_s1 (n : Nat) (day : Int) (y5 : (List (List Int)) × Int) : Int × List Int → Option ((Int × List Int) ⊕ (List Int))
  | (i_131, out_132) => if decide (i_131 < (y5.1.length : Int)) = true then ((geti y5.1 i_131).bind fun y137 => (geti y137 day).bind fun y142 => (lim (out_132 ++ [y142])).bind fun l148 => some (Sum.inl ((w64 (i_131 + 1)), l148))) else (some (Sum.inr out_132))
def F_ref11_Levels_s2 (n : Nat) (out_90 : List Int) : Int × List Int → Option ((Int × List Int) ⊕ (List Int))
  | (n_314, out_315) => if decide (n_314 ≤ 3) = true then ((F_ref11_in n out_90 n_314).bind fun y320 => (if y320 = true then ((lim (out_315 ++ [n_314])).bind fun l332 => some l332) else (some out_315)).bind fun out_327 => some (Sum.inl ((w64 (n_314 + 1)), out_327))) else (some (Sum.inr out_315))
def F_ref11_Levels (n : Nat) (t : Tour) (day : Int) : Option ((List Int) × Int) :=
  (F_ref11_within n day 0 (w64 (t.Days - 1))).bind fun y4 => (F_ref11_known n t y4).bind fun y5 => (loopO n (F_ref11_Levels_s1 n day y5) (0, ([] : List Int))).bind fun out_90 => (loopO n (F_ref11_Levels_s2 n out_90) (0, ([] : List Int))).bind fun out_271 => some (out_271, y5.2)
set_option maxRecDepth 100000 in
set_option maxHeartbeats 40000000 in
theorem c_ref11_Levels (n : Nat) (H : Hp) (t : Tour) (t_v2 : Value) (ht_2 : SL H 3 R_Rain t_v2 t.Rains) (t_v4 : Value) (ht_4 : SL H 2 R_Fair t_v4 t.Fairs) (day : Int) (y : (List Int) × Int) (hF : F_ref11_Levels n t day = some y) : HC Try.prog 41 [.agg [.int .i64 t.Days, .int .i64 t.Step, t_v2, .int .i64 t.Wrong, t_v4, .int .i64 t.Reach, .int .i64 t.Stock].toArray, .int .i64 day] H (fun H' v => ∃ ra_v0 : Value, v = .tuple [ra_v0, .int .i64 y.2].toArray ∧ SL H' 1 RInt ra_v0 y.1) := by
  rw [F_ref11_Levels] at hF
  refine HC.of (N := 51) Try.func41 rfl rfl rfl fun w => ?_
  refine JC.seq ?_
  refine JC.region (by rfl) ?_
  intro hQ
  refine JL.box (cs := [.int .i64 t.Days, .int .i64 t.Step, t_v2, .int .i64 t.Wrong, t_v4, .int .i64 t.Reach, .int .i64 t.Stock]) rfl .none rfl ?_
  intro b1
  refine JL.assign .none rfl ?_
  refine JL.assign .none rfl ?_
  refine JL.done hQ ?_
  refine JQ.go ?_
  refine JC.seq ?_
  obtain ⟨y4, hy4, hF⟩ := bind_some hF
  obtain ⟨y5, hy5, hF⟩ := bind_some hF
  refine JC.mixed 12 12 #[false, false, false, false, false, false, false, false, false, false, false, false] [(b1, .cells [.int .i64 t.Days, .int .i64 t.Step, t_v2, .int .i64 t.Wrong, t_v4, .int .i64 t.Reach, .int .i64 t.Stock].toArray 25)] (by rfl) mo_ (by kernel_rfl) (by kernel_rfl) ?_
  intro hQ hE
  refine JA.take 0 (listed' := #[true, false, false, false, false, false, false, false, false, false, false, false]) hQ rfl (by kernel_rfl) (by kernel_rfl) (by kernel_rfl) (by kernel_rfl) (by kernel_rfl) hE (HSub.refl _) (.cons_cons _ (List.nil_sublist _)) ?_
  refine JL.loadOwn 0 az_25 rfl rfl rfl .none rfl ?_
  refine JA.cont ?_
  refine JA.take 1 (listed' := #[true, true, false, false, false, false, false, false, false, false, false, false]) hQ rfl (by kernel_rfl) (by kernel_rfl) (by kernel_rfl) (by kernel_rfl) (by kernel_rfl) hE (HSub.refl _) (.cons_cons _ (List.nil_sublist _)) ?_
  refine JL.move .none rfl ?_
  refine JA.cont ?_
  refine JA.take 2 (listed' := #[true, true, true, false, false, false, false, false, false, false, false, false]) hQ rfl (by kernel_rfl) (by kernel_rfl) (by kernel_rfl) (by kernel_rfl) (by kernel_rfl) hE (HSub.refl _) (.cons_cons _ (List.nil_sublist _)) ?_
  refine JL.fieldAddr fo_25_0 rfl .none rfl ?_
  refine JA.cont ?_
  refine JA.take 3 (listed' := #[true, true, true, true, false, false, false, false, false, false, false, false]) hQ rfl (by kernel_rfl) (by kernel_rfl) (by kernel_rfl) (by kernel_rfl) (by kernel_rfl) hE (HSub.refl _) (.cons_cons _ (List.nil_sublist _)) ?_
  refine JL.loadOwn 0 az_3 rfl rfl rfl .none rfl ?_
  refine JA.cont ?_
  refine JA.take 4 (listed' := #[true, true, true, true, true, false, false, false, false, false, false, false]) hQ rfl (by kernel_rfl) (by kernel_rfl) (by kernel_rfl) (by kernel_rfl) (by kernel_rfl) hE (HSub.refl _) (.cons_cons _ (List.nil_sublist _)) ?_
  refine JL.bin rfl rfl rfl .none rfl ?_
  refine JA.cont ?_
  refine JA.many [5] (by kernel_rfl) (by simp) (all_one ⟨_, #[true, true, true, true, true, true, false, false, false, false, false, false], rfl, (by kernel_rfl), ?_⟩)
  refine JL.callS (c_ref11_within n H day 0 (w64 (t.Days - 1)) y4 hy4) rfl en_65 .none rfl ?_
  refine JA.after hE (HSub.refl _) (.cons_cons _ (List.nil_sublist _)) ?_
  refine JA.many [6] (by kernel_rfl) (by simp) (all_one ⟨_, #[true, true, true, true, true, true, true, false, false, false, false, false], rfl, (by kernel_rfl), ?_⟩)
  refine JL.callH (c_ref11_known n H t t_v2 ht_2 t_v4 ht_4 y4 y5 hy5) rfl en_48 .none rfl ?_
  rintro H10 vv11 hs10 ⟨y5a_v0, rfl, hy5a_0⟩
  refine JA.after hE hs10 (.cons_cons _ (List.nil_sublist _)) ?_
  refine JA.take 7 (listed' := #[true, true, true, true, true, true, true, true, false, false, false, false]) hQ rfl (by kernel_rfl) (by kernel_rfl) (by kernel_rfl) (by kernel_rfl) (by kernel_rfl) hE hs10 (.cons_cons _ (List.nil_sublist _)) ?_
  refine JL.move .none rfl ?_
  refine JA.cont ?_
  refine JA.take 8 (listed' := #[true, true, true, true, true, true, true, true, true, false, false, false]) hQ rfl (by kernel_rfl) (by kernel_rfl) (by kernel_rfl) (by kernel_rfl) (by kernel_rfl) hE hs10 (.cons_cons _ (List.nil_sublist _)) ?_
  refine JL.extract rfl rfl .none rfl ?_
  refine JA.cont ?_
  refine JA.take 9 (listed' := #[true, true, true, true, true, true, true, true, true, true, false, false]) hQ rfl (by kernel_rfl) (by kernel_rfl) (by kernel_rfl) (by kernel_rfl) (by kernel_rfl) hE hs10 (.cons_cons _ (List.nil_sublist _)) ?_
  refine JL.extract rfl rfl .none rfl ?_
  refine JA.cont ?_
  refine JA.take 10 (listed' := #[true, true, true, true, true, true, true, true, true, true, true, false]) hQ rfl (by kernel_rfl) (by kernel_rfl) (by kernel_rfl) (by kernel_rfl) (by kernel_rfl) hE hs10 (.cons_cons _ (List.nil_sublist _)) ?_
  refine JL.assign .none rfl ?_
  refine JA.cont ?_
  refine JA.take 11 (listed' := #[true, true, true, true, true, true, true, true, true, true, true, true]) hQ rfl (by kernel_rfl) (by kernel_rfl) (by kernel_rfl) (by kernel_rfl) (by kernel_rfl) hE hs10 (.cons_cons _ (List.nil_sublist _)) ?_
  refine JL.assign .none rfl ?_
  refine JA.cont ?_
  refine JA.done hQ (by kernel_rfl) ?_
  refine JQ.go ?_
  refine JC.fresh (fun f => f 1 = .int .i64 day ∧ f 4 = .slice none 0 0 ∧ f 5 = .int .i64 0 ∧ f 6 = y5a_v0 ∧ f 7 = .int .i64 y5.2) ⟨rfl, rfl, rfl, rfl, rfl⟩ ?_
  rintro f ⟨hf1, hf4, hf5, hf6, hf7⟩
  refine (JC.norm (i := 1) hf1 (JC.norm (i := 4) hf4 (JC.norm (i := 5) hf5 (JC.norm (i := 6) hf6 (JC.norm (i := 7) hf7 ?_)))))
  refine JC.seq ?_
  refine JC.region (by rfl) ?_
  intro hQ
  refine JL.assign .none rfl ?_
  refine JL.assign .none rfl ?_
  refine JL.done hQ ?_
  refine JQ.go ?_
  refine JC.seq ?_
  refine JC.seq ?_
  refine JC.region (by rfl) ?_
  intro hQ
  refine JL.assign .none rfl ?_
  refine JL.done hQ ?_
  refine JQ.go ?_
  refine JC.newNil (e := 3) (sz := 1) ?_
  obtain ⟨r92, hlr92, hKr92⟩ := bind_some hF
  refine JC.join (fun (out_90 : List Int) H91 f bs gs => ∃ (vout_90 : Value) (xsout_90 : List Value), f 7 = .int .i64 y5.2 ∧ f 8 = vout_90 ∧ f 9 = .slice none 0 0 ∧ bs = [] ∧ gs = [⟨vout_90, 3, 1, out_90.length, xsout_90⟩] ∧ CH H91 1 RInt xsout_90 out_90 ∧ HSub H10 H91 ∧ out_90 = r92) ?_ ?_
  · skip
    refine JC.block ?_
    refine JC.mask [false] [true] ?_
    refine JC.loop hlr92 (fun (x : Int × List Int) H133 f bs gs => match x with | (i_131, out_132) => ∃ (vout_132 : Value) (xsout_132 : List Value), f 1 = .int .i64 day ∧ f 6 = y5a_v0 ∧ f 7 = .int .i64 y5.2 ∧ f 8 = vout_132 ∧ f 9 = .slice none 0 0 ∧ f 10 = .int .i64 i_131 ∧ bs = [] ∧ gs = [⟨vout_132, 3, 1, out_132.length, xsout_132⟩] ∧ CH H133 1 RInt xsout_132 out_132 ∧ HSub H10 H133) ⟨(.slice none 0 0), [], rfl, rfl, rfl, rfl, rfl, rfl, rfl, rfl, CH.nil, (HSub.refl _)⟩ ?_
    rintro ⟨i_131, out_132⟩ x135 H133 f bs gs ⟨vout_132, xsout_132, hf1, hf6, hf7, hf8, hf9, hf10, rfl, rfl, hout_132, hs133⟩ hF hr134
    rw [F_ref11_Levels_s1] at hF
    refine (JC.norm (i := 1) hf1 (JC.norm (i := 6) hf6 (JC.norm (i := 7) hf7 (JC.norm (i := 8) hf8 (JC.norm (i := 9) hf9 (JC.norm (i := 10) hf10 ?_))))))
    refine JC.seq ?_
    refine JC.seq ?_
    refine JC.region (by rfl) ?_
    intro hQ
    refine JL.move .none rfl ?_
    refine JL.move .none rfl ?_
    refine JL.lenSL (R := (RSl 1 RInt)) ul_72 (SL.mono (RSl.mono RInt.mono) hs133 hy5a_0) .none rfl ?_
    refine JL.bin rfl rfl rfl .none rfl ?_
    refine JL.done hQ ?_
    refine JQ.go ?_
    rcases ite_some hF with ⟨hc136, hF⟩ | ⟨hc136, hF⟩
    · refine JC.cond_t (b := decide (i_131 < (y5.1.length : Int))) rfl hc136 ?_
      refine JC.skip ?_
      refine JQ.go ?_
      refine JC.seq ?_
      refine JC.block ?_
      refine JC.region (by rfl) ?_
      intro hQ
      refine JL.move .none rfl ?_
      refine JL.move .none rfl ?_
      refine JL.move .none rfl ?_
      obtain ⟨y137, hy137, hF⟩ := bind_some hF
      refine JL.indexSL (R := (RSl 1 RInt)) sl_72 (SL.mono (RSl.mono RInt.mono) hs133 hy5a_0) rfl hy137 .none rfl ?_
      rintro b138 o139 cs140 hc141 - ⟨y137_v0, rfl, hy137_0⟩
      refine JL.loadH 0 az_26 rfl hc141 rfl .none rfl ?_
      refine JL.move .none rfl ?_
      obtain ⟨y142, hy142, hF⟩ := bind_some hF
      refine JL.indexSL (R := RInt) sl_26 hy137_0 rfl hy142 .none rfl ?_
      rintro b143 o144 cs145 hc146 - rfl
      refine JL.loadH 0 az_3 rfl hc146 rfl .none rfl ?_
      refine JL.buildSlice (e := 3) (l := [.int .i64 y142]) (by kernel_rfl) .none rfl ?_
      intro b147
      obtain ⟨l148, hl148, hF⟩ := bind_some hF
      refine JL.appO (R := RInt) 0 0 (l := out_132) (m := [y142]) ap_26 rfl ⟨rfl, rfl⟩ rfl hout_132 rfl rfl rfl (CH.cons (cs := [.int .i64 y142]) rfl rfl CH.nil) rfl (one_cons rfl one_nil) hl148 .none rfl ?_
      intro v149 xs150 hch151
      refine JL.assign .none rfl ?_
      refine JL.done hQ ?_
      refine JQ.normal_block ?_
      refine JQ.go ?_
      refine JC.fresh (fun f => f 1 = .int .i64 day ∧ f 6 = y5a_v0 ∧ f 7 = .int .i64 y5.2 ∧ f 8 = v149 ∧ f 9 = .slice none 0 0 ∧ f 10 = .int .i64 i_131) ⟨rfl, rfl, rfl, rfl, rfl, rfl⟩ ?_
      rintro f ⟨hf1, hf6, hf7, hf8, hf9, hf10⟩
      refine (JC.norm (i := 1) hf1 (JC.norm (i := 6) hf6 (JC.norm (i := 7) hf7 (JC.norm (i := 8) hf8 (JC.norm (i := 9) hf9 (JC.norm (i := 10) hf10 ?_))))))
      refine JC.region (by rfl) ?_
      intro hQ
      refine JL.move .none rfl ?_
      refine JL.bin rfl rfl rfl .none rfl ?_
      refine JL.assign .none rfl ?_
      refine JL.done hQ ?_
      obtain rfl := Option.some.inj hF
      refine JQ.mask [false] [true] ?_
      exact JQ.next rfl ⟨v149, xs150, rfl, rfl, rfl, rfl, rfl, rfl, rfl, rfl, hch151, hs133⟩
    · refine JC.cond_f (b := decide (i_131 < (y5.1.length : Int))) rfl hc136 ?_
      refine JC.exit ?_
      refine JQ.exit_then ?_
      refine JQ.exit_then ?_
      refine JQ.exit_block ?_
      obtain rfl := Option.some.inj hF
      have ehr134 := hr134 _ rfl
      subst ehr134
      exact JQ.join out_132 ⟨vout_132, xsout_132, rfl, rfl, rfl, rfl, rfl, hout_132, hs133, rfl⟩
  · rintro out_90 H91 f bs gs ⟨vout_90, xsout_90, hf7, hf8, hf9, rfl, rfl, hout_90, hs91, rfl⟩
    have hF := hKr92
    try dsimp only at hF
    refine (JQ.norm (i := 7) hf7 (JQ.norm (i := 8) hf8 (JQ.norm (i := 9) hf9 ?_)))
    refine JQ.go ?_
    refine JC.seq ?_
    refine JC.seq ?_
    refine JC.region (by rfl) ?_
    intro hQ
    refine JL.assign .none rfl ?_
    refine JL.done hQ ?_
    refine JQ.go ?_
    refine JC.freezeG 0 (R := RInt) rfl RInt.mono hout_90 rfl ?_
    intro H180 hs180 hg181
    refine JC.newNil (e := 3) (sz := 1) ?_
    obtain ⟨r273, hlr273, hKr273⟩ := bind_some hF
    refine JC.join (fun (out_271 : List Int) H272 f bs gs => ∃ (vout_271 : Value) (xsout_271 : List Value), f 7 = .int .i64 y5.2 ∧ f 9 = vout_271 ∧ bs = [] ∧ gs = [⟨vout_271, 3, 1, out_271.length, xsout_271⟩] ∧ CH H272 1 RInt xsout_271 out_271 ∧ HSub H180 H272 ∧ out_271 = r273) ?_ ?_
    · skip
      refine JC.block ?_
      refine JC.loop hlr273 (fun (x : Int × List Int) H316 f bs gs => match x with | (n_314, out_315) => ∃ (vout_315 : Value) (xsout_315 : List Value), f 7 = .int .i64 y5.2 ∧ f 8 = vout_90 ∧ f 9 = vout_315 ∧ f 11 = .int .i64 n_314 ∧ bs = [] ∧ gs = [⟨vout_315, 3, 1, out_315.length, xsout_315⟩] ∧ CH H316 1 RInt xsout_315 out_315 ∧ HSub H180 H316) ⟨(.slice none 0 0), [], rfl, rfl, rfl, rfl, rfl, rfl, CH.nil, (HSub.refl _)⟩ ?_
      rintro ⟨n_314, out_315⟩ x318 H316 f bs gs ⟨vout_315, xsout_315, hf7, hf8, hf9, hf11, rfl, rfl, hout_315, hs316⟩ hF hr317
      rw [F_ref11_Levels_s2] at hF
      refine (JC.norm (i := 7) hf7 (JC.norm (i := 8) hf8 (JC.norm (i := 9) hf9 (JC.norm (i := 11) hf11 ?_))))
      refine JC.seq ?_
      refine JC.seq ?_
      refine JC.region (by rfl) ?_
      intro hQ
      refine JL.move .none rfl ?_
      refine JL.bin rfl rfl rfl .none rfl ?_
      refine JL.done hQ ?_
      refine JQ.go ?_
      rcases ite_some hF with ⟨hc319, hF⟩ | ⟨hc319, hF⟩
      · refine JC.cond_t (b := decide (n_314 ≤ 3)) rfl hc319 ?_
        refine JC.skip ?_
        refine JQ.go ?_
        refine JC.seq ?_
        refine JC.block ?_
        refine JC.seq ?_
        refine JC.region (by rfl) ?_
        intro hQ
        refine JL.move .none rfl ?_
        refine JL.move .none rfl ?_
        obtain ⟨y320, hy320, hF⟩ := bind_some hF
        refine JL.callS (c_ref11_in n H316 out_90 vout_90 (SL.mono RInt.mono hs316 hg181) n_314 y320 hy320) rfl en_70 .none rfl ?_
        refine JL.done hQ ?_
        refine JQ.go ?_
        obtain ⟨r329, hlr329, hKr329⟩ := bind_some hF
        refine JC.join (fun (out_327 : List Int) H328 f bs gs => ∃ (vout_327 : Value) (xsout_327 : List Value), f 7 = .int .i64 y5.2 ∧ f 8 = vout_90 ∧ f 9 = vout_327 ∧ f 11 = .int .i64 n_314 ∧ bs = [] ∧ gs = [⟨vout_327, 3, 1, out_327.length, xsout_327⟩] ∧ CH H328 1 RInt xsout_327 out_327 ∧ HSub H316 H328 ∧ out_327 = r329) ?_ ?_
        · have hF := hlr329
          rcases ite_some hF with ⟨hc330, hF⟩ | ⟨hc330, hF⟩
          · refine JC.cond_t (b := y320) rfl hc330 ?_
            refine JC.region (by rfl) ?_
            intro hQ
            refine JL.move .none rfl ?_
            refine JL.move .none rfl ?_
            refine JL.buildSlice (e := 3) (l := [.int .i64 n_314]) (by kernel_rfl) .none rfl ?_
            intro b331
            obtain ⟨l332, hl332, hF⟩ := bind_some hF
            refine JL.appO (R := RInt) 0 0 (l := out_315) (m := [n_314]) ap_26 rfl ⟨rfl, rfl⟩ rfl hout_315 rfl rfl rfl (CH.cons (cs := [.int .i64 n_314]) rfl rfl CH.nil) rfl (one_cons rfl one_nil) hl332 .none rfl ?_
            intro v333 xs334 hch335
            refine JL.assign .none rfl ?_
            refine JL.done hQ ?_
            obtain rfl := Option.some.inj hF
            refine JQ.mask [false] [true] ?_
            exact JQ.join l332 ⟨v333, xs334, rfl, rfl, rfl, rfl, rfl, rfl, hch335, (HSub.refl _), rfl⟩
          · refine JC.cond_f (b := y320) rfl hc330 ?_
            refine JC.skip ?_
            obtain rfl := Option.some.inj hF
            exact JQ.join out_315 ⟨vout_315, xsout_315, rfl, rfl, rfl, rfl, rfl, rfl, hout_315, (HSub.refl _), rfl⟩
        · rintro out_327 H328 f bs gs ⟨vout_327, xsout_327, hf7, hf8, hf9, hf11, rfl, rfl, hout_327, hs328, rfl⟩
          have hF := hKr329
          try dsimp only at hF
          refine (JQ.norm (i := 7) hf7 (JQ.norm (i := 8) hf8 (JQ.norm (i := 9) hf9 (JQ.norm (i := 11) hf11 ?_))))
          refine JQ.normal_block ?_
          refine JQ.go ?_
          refine JC.region (by rfl) ?_
          intro hQ
          refine JL.move .none rfl ?_
          refine JL.bin rfl rfl rfl .none rfl ?_
          refine JL.assign .none rfl ?_
          refine JL.done hQ ?_
          obtain rfl := Option.some.inj hF
          exact JQ.next rfl ⟨vout_327, xsout_327, rfl, rfl, rfl, rfl, rfl, rfl, hout_327, (HSub.trans hs316 hs328)⟩
      · refine JC.cond_f (b := decide (n_314 ≤ 3)) rfl hc319 ?_
        refine JC.exit ?_
        refine JQ.exit_then ?_
        refine JQ.exit_then ?_
        refine JQ.exit_block ?_
        obtain rfl := Option.some.inj hF
        have ehr317 := hr317 _ rfl
        subst ehr317
        exact JQ.join out_315 ⟨vout_315, xsout_315, rfl, rfl, rfl, rfl, hout_315, hs316, rfl⟩
    · rintro out_271 H272 f bs gs ⟨vout_271, xsout_271, hf7, hf9, rfl, rfl, hout_271, hs272, rfl⟩
      have hF := hKr273
      try dsimp only at hF
      refine (JQ.norm (i := 7) hf7 (JQ.norm (i := 9) hf9 ?_))
      refine JQ.go ?_
      refine JC.seq ?_
      refine JC.region (by rfl) ?_
      intro hQ
      refine JL.move .none rfl ?_
      refine JL.move .none rfl ?_
      refine JL.assign .none rfl ?_
      refine JL.assign .none rfl ?_
      refine JL.done hQ ?_
      refine JQ.go ?_
      refine JC.ret ?_
      refine JQ.freezeG 0 (R := RInt) rfl RInt.mono hout_271 rfl ?_
      intro H336 hs336 hg337
      obtain rfl := Option.some.inj hF
      exact JQ.outH rfl (.tmp (.tmp .nil)) ⟨vout_271, rfl, hg337⟩

-- 42 ferrule/ferruleref11.Right
def F_ref11_Right_s1 (n : Nat) (t : Tour) (rain : Int) (y5 : (List (List Int)) × Int) : Int × Int → Option ((Int × Int) ⊕ Int)
  | (some_173, i_174) => if decide (i_174 < (y5.1.length : Int)) = true then ((geti t.Rains rain).bind fun y190 => (geti y5.1 i_174).bind fun y195 => (F_ref11_IsRight n y190 y195).bind fun y200 => (if y200 = true then (some (w64 (some_173 + 1))) else (some some_173)).bind fun some_202 => some (Sum.inl (some_202, (w64 (i_174 + 1))))) else (some (Sum.inr some_173))
def F_ref11_Right (n : Nat) (t : Tour) (rain : Int) : Option (Int × Int) :=
  (F_ref11_within n rain 0 (w64 ((t.Rains.length : Int) - 1))).bind fun y4 => (F_ref11_known n t y4).bind fun y5 => if (y5.2 != 0) = true then (some (0, y5.2)) else ((loopO n (F_ref11_Right_s1 n t rain y5) (0, 0)).bind fun some_108 => if (some_108 == (y5.1.length : Int)) = true then (some (1, 0)) else (if (some_108 == 0) = true then (some (2, 0)) else (some (3, 0))))
set_option maxRecDepth 100000 in
set_option maxHeartbeats 40000000 in
theorem c_ref11_Right (n : Nat) (H : Hp) (t : Tour) (t_v2 : Value) (ht_2 : SL H 3 R_Rain t_v2 t.Rains) (t_v4 : Value) (ht_4 : SL H 2 R_Fair t_v4 t.Fairs) (rain : Int) (y : Int × Int) (hF : F_ref11_Right n t rain = some y) : SC Try.prog 42 [.agg [.int .i64 t.Days, .int .i64 t.Step, t_v2, .int .i64 t.Wrong, t_v4, .int .i64 t.Reach, .int .i64 t.Stock].toArray, .int .i64 rain] (.tuple [.int .i64 y.1, .int .i64 y.2].toArray) H := by
  rw [F_ref11_Right] at hF
  refine SC.of (N := 49) Try.func42 rfl rfl rfl fun w => ?_
  refine JC.seq ?_
  refine JC.region (by rfl) ?_
  intro hQ
  refine JL.box (cs := [.int .i64 t.Days, .int .i64 t.Step, t_v2, .int .i64 t.Wrong, t_v4, .int .i64 t.Reach, .int .i64 t.Stock]) rfl .none rfl ?_
  intro b1
  refine JL.assign .none rfl ?_
  refine JL.assign .none rfl ?_
  refine JL.done hQ ?_
  refine JQ.go ?_
  refine JC.seq ?_
  obtain ⟨y4, hy4, hF⟩ := bind_some hF
  obtain ⟨y5, hy5, hF⟩ := bind_some hF
  refine JC.mixed 13 13 #[false, false, false, false, false, false, false, false, false, false, false, false, false] [(b1, .cells [.int .i64 t.Days, .int .i64 t.Step, t_v2, .int .i64 t.Wrong, t_v4, .int .i64 t.Reach, .int .i64 t.Stock].toArray 25)] (by rfl) mo_ (by kernel_rfl) (by kernel_rfl) ?_
  intro hQ hE
  refine JA.take 0 (listed' := #[true, false, false, false, false, false, false, false, false, false, false, false, false]) hQ rfl (by kernel_rfl) (by kernel_rfl) (by kernel_rfl) (by kernel_rfl) (by kernel_rfl) hE (HSub.refl _) (.cons_cons _ (List.nil_sublist _)) ?_
  refine JL.loadOwn 0 az_25 rfl rfl rfl .none rfl ?_
  refine JA.cont ?_
  refine JA.take 1 (listed' := #[true, true, false, false, false, false, false, false, false, false, false, false, false]) hQ rfl (by kernel_rfl) (by kernel_rfl) (by kernel_rfl) (by kernel_rfl) (by kernel_rfl) hE (HSub.refl _) (.cons_cons _ (List.nil_sublist _)) ?_
  refine JL.move .none rfl ?_
  refine JA.cont ?_
  refine JA.take 2 (listed' := #[true, true, true, false, false, false, false, false, false, false, false, false, false]) hQ rfl (by kernel_rfl) (by kernel_rfl) (by kernel_rfl) (by kernel_rfl) (by kernel_rfl) hE (HSub.refl _) (.cons_cons _ (List.nil_sublist _)) ?_
  refine JL.fieldAddr fo_25_2 rfl .none rfl ?_
  refine JA.cont ?_
  refine JA.take 3 (listed' := #[true, true, true, true, false, false, false, false, false, false, false, false, false]) hQ rfl (by kernel_rfl) (by kernel_rfl) (by kernel_rfl) (by kernel_rfl) (by kernel_rfl) hE (HSub.refl _) (.cons_cons _ (List.nil_sublist _)) ?_
  refine JL.loadOwn 0 az_22 rfl rfl rfl .none rfl ?_
  refine JA.cont ?_
  refine JA.take 4 (listed' := #[true, true, true, true, true, false, false, false, false, false, false, false, false]) hQ rfl (by kernel_rfl) (by kernel_rfl) (by kernel_rfl) (by kernel_rfl) (by kernel_rfl) hE (HSub.refl _) (.cons_cons _ (List.nil_sublist _)) ?_
  refine JL.lenSL (R := R_Rain) ul_22 ht_2 .none rfl ?_
  refine JA.cont ?_
  refine JA.take 5 (listed' := #[true, true, true, true, true, true, false, false, false, false, false, false, false]) hQ rfl (by kernel_rfl) (by kernel_rfl) (by kernel_rfl) (by kernel_rfl) (by kernel_rfl) hE (HSub.refl _) (.cons_cons _ (List.nil_sublist _)) ?_
  refine JL.bin rfl rfl rfl .none rfl ?_
  refine JA.cont ?_
  refine JA.many [6] (by kernel_rfl) (by simp) (all_one ⟨_, #[true, true, true, true, true, true, true, false, false, false, false, false, false], rfl, (by kernel_rfl), ?_⟩)
  refine JL.callS (c_ref11_within n H rain 0 (w64 ((t.Rains.length : Int) - 1)) y4 hy4) rfl en_65 .none rfl ?_
  refine JA.after hE (HSub.refl _) (.cons_cons _ (List.nil_sublist _)) ?_
  refine JA.many [7] (by kernel_rfl) (by simp) (all_one ⟨_, #[true, true, true, true, true, true, true, true, false, false, false, false, false], rfl, (by kernel_rfl), ?_⟩)
  refine JL.callH (c_ref11_known n H t t_v2 ht_2 t_v4 ht_4 y4 y5 hy5) rfl en_48 .none rfl ?_
  rintro H10 vv11 hs10 ⟨y5a_v0, rfl, hy5a_0⟩
  refine JA.after hE hs10 (.cons_cons _ (List.nil_sublist _)) ?_
  refine JA.take 8 (listed' := #[true, true, true, true, true, true, true, true, true, false, false, false, false]) hQ rfl (by kernel_rfl) (by kernel_rfl) (by kernel_rfl) (by kernel_rfl) (by kernel_rfl) hE hs10 (.cons_cons _ (List.nil_sublist _)) ?_
  refine JL.move .none rfl ?_
  refine JA.cont ?_
  refine JA.take 9 (listed' := #[true, true, true, true, true, true, true, true, true, true, false, false, false]) hQ rfl (by kernel_rfl) (by kernel_rfl) (by kernel_rfl) (by kernel_rfl) (by kernel_rfl) hE hs10 (.cons_cons _ (List.nil_sublist _)) ?_
  refine JL.extract rfl rfl .none rfl ?_
  refine JA.cont ?_
  refine JA.take 10 (listed' := #[true, true, true, true, true, true, true, true, true, true, true, false, false]) hQ rfl (by kernel_rfl) (by kernel_rfl) (by kernel_rfl) (by kernel_rfl) (by kernel_rfl) hE hs10 (.cons_cons _ (List.nil_sublist _)) ?_
  refine JL.extract rfl rfl .none rfl ?_
  refine JA.cont ?_
  refine JA.take 11 (listed' := #[true, true, true, true, true, true, true, true, true, true, true, true, false]) hQ rfl (by kernel_rfl) (by kernel_rfl) (by kernel_rfl) (by kernel_rfl) (by kernel_rfl) hE hs10 (.cons_cons _ (List.nil_sublist _)) ?_
  refine JL.assign .none rfl ?_
  refine JA.cont ?_
  refine JA.take 12 (listed' := #[true, true, true, true, true, true, true, true, true, true, true, true, true]) hQ rfl (by kernel_rfl) (by kernel_rfl) (by kernel_rfl) (by kernel_rfl) (by kernel_rfl) hE hs10 (.cons_cons _ (List.nil_sublist _)) ?_
  refine JL.assign .none rfl ?_
  refine JA.cont ?_
  refine JA.done hQ (by kernel_rfl) ?_
  refine JQ.go ?_
  refine JC.fresh (fun f => f 1 = .int .i64 rain ∧ f 2 = .pointer (some ⟨b1, 0, none⟩) ∧ f 4 = .int .i64 0 ∧ f 5 = .int .i64 0 ∧ f 6 = y5a_v0 ∧ f 7 = .int .i64 y5.2) ⟨rfl, rfl, rfl, rfl, rfl, rfl⟩ ?_
  rintro f ⟨hf1, hf2, hf4, hf5, hf6, hf7⟩
  refine (JC.norm (i := 1) hf1 (JC.norm (i := 2) hf2 (JC.norm (i := 4) hf4 (JC.norm (i := 5) hf5 (JC.norm (i := 6) hf6 (JC.norm (i := 7) hf7 ?_))))))
  refine JC.seq ?_
  refine JC.seq ?_
  refine JC.region (by rfl) ?_
  intro hQ
  refine JL.move .none rfl ?_
  refine JL.bin rfl rfl rfl .none rfl ?_
  refine JL.done hQ ?_
  refine JQ.go ?_
  rcases ite_some hF with ⟨hc12, hF⟩ | ⟨hc12, hF⟩
  · refine JC.cond_t (b := (y5.2 != 0)) rfl hc12 ?_
    refine JC.seq ?_
    refine JC.region (by rfl) ?_
    intro hQ
    refine JL.move .none rfl ?_
    refine JL.assign .none rfl ?_
    refine JL.assign .none rfl ?_
    refine JL.done hQ ?_
    refine JQ.go ?_
    refine JC.ret ?_
    refine JQ.ret_then ?_
    obtain rfl := Option.some.inj hF
    exact JQ.outS rfl (.tmp (.tmp .nil)) rfl
  · refine JC.cond_f (b := (y5.2 != 0)) rfl hc12 ?_
    refine JC.skip ?_
    refine JQ.go ?_
    refine JC.seq ?_
    refine JC.region (by rfl) ?_
    intro hQ
    refine JL.assign .none rfl ?_
    refine JL.done hQ ?_
    refine JQ.go ?_
    refine JC.seq ?_
    refine JC.seq ?_
    refine JC.region (by rfl) ?_
    intro hQ
    refine JL.assign .none rfl ?_
    refine JL.done hQ ?_
    refine JQ.go ?_
    obtain ⟨r110, hlr110, hKr110⟩ := bind_some hF
    refine JC.join (fun (some_108 : Int) H109 f bs gs => f 6 = y5a_v0 ∧ f 8 = .int .i64 some_108 ∧ bs = [] ∧ gs = [] ∧ HSub H10 H109 ∧ some_108 = r110) ?_ ?_
    · skip
      refine JC.block ?_
      refine JC.loop hlr110 (fun (x : Int × Int) H175 f bs gs => match x with | (some_173, i_174) => f 1 = .int .i64 rain ∧ f 2 = .pointer (some ⟨b1, 0, none⟩) ∧ f 6 = y5a_v0 ∧ f 8 = .int .i64 some_173 ∧ f 9 = .int .i64 i_174 ∧ bs = [(b1, .cells [.int .i64 t.Days, .int .i64 t.Step, t_v2, .int .i64 t.Wrong, t_v4, .int .i64 t.Reach, .int .i64 t.Stock].toArray 25)] ∧ gs = [] ∧ HSub H10 H175) ⟨rfl, rfl, rfl, rfl, rfl, rfl, rfl, (HSub.refl _)⟩ ?_
      rintro ⟨some_173, i_174⟩ x177 H175 f bs gs ⟨hf1, hf2, hf6, hf8, hf9, rfl, rfl, hs175⟩ hF hr176
      rw [F_ref11_Right_s1] at hF
      refine (JC.norm (i := 1) hf1 (JC.norm (i := 2) hf2 (JC.norm (i := 6) hf6 (JC.norm (i := 8) hf8 (JC.norm (i := 9) hf9 ?_)))))
      refine JC.seq ?_
      refine JC.seq ?_
      refine JC.region (by rfl) ?_
      intro hQ
      refine JL.move .none rfl ?_
      refine JL.move .none rfl ?_
      refine JL.lenSL (R := (RSl 1 RInt)) ul_72 (SL.mono (RSl.mono RInt.mono) hs175 hy5a_0) .none rfl ?_
      refine JL.bin rfl rfl rfl .none rfl ?_
      refine JL.done hQ ?_
      refine JQ.go ?_
      rcases ite_some hF with ⟨hc178, hF⟩ | ⟨hc178, hF⟩
      · refine JC.cond_t (b := decide (i_174 < (y5.1.length : Int))) rfl hc178 ?_
        refine JC.skip ?_
        refine JQ.go ?_
        refine JC.seq ?_
        refine JC.block ?_
        refine JC.seq ?_
        refine JC.draw (by rfl) mo_ (by kernel_rfl) ?_
        intro hQ
        refine JL.fieldAddr fo_25_2 rfl .none rfl ?_
        refine JL.loadOwn 0 az_22 rfl rfl rfl .none rfl ?_
        refine JL.move .none rfl ?_
        obtain ⟨y190, hy190, hF⟩ := bind_some hF
        refine JL.indexSL (R := R_Rain) sl_22 (SL.mono R_Rain_mono (HSub.trans hs10 hs175) ht_2) rfl hy190 .none rfl ?_
        rintro b191 o192 cs193 hc194 - rfl
        refine JL.loadH 0 az_37 rfl hc194 rfl .none rfl ?_
        refine JL.move .none rfl ?_
        refine JL.move .none rfl ?_
        obtain ⟨y195, hy195, hF⟩ := bind_some hF
        refine JL.indexSL (R := (RSl 1 RInt)) sl_72 (SL.mono (RSl.mono RInt.mono) hs175 hy5a_0) rfl hy195 .none rfl ?_
        rintro b196 o197 cs198 hc199 - ⟨y195_v0, rfl, hy195_0⟩
        refine JL.loadH 0 az_26 rfl hc199 rfl .none rfl ?_
        obtain ⟨y200, hy200, hF⟩ := bind_some hF
        refine JL.callS (c_ref11_IsRight n H175 y190 y195 y195_v0 hy195_0 y200 hy200) rfl en_36 .none rfl ?_
        refine JL.doneQ hQ ?_
        refine JQ.go ?_
        refine JC.fresh (fun f => f 1 = .int .i64 rain ∧ f 2 = .pointer (some ⟨b1, 0, none⟩) ∧ f 6 = y5a_v0 ∧ f 8 = .int .i64 some_173 ∧ f 9 = .int .i64 i_174 ∧ f 39 = .bool y200) ⟨rfl, rfl, rfl, rfl, rfl, rfl⟩ ?_
        rintro f ⟨hf1, hf2, hf6, hf8, hf9, hf39⟩
        refine (JC.norm (i := 1) hf1 (JC.norm (i := 2) hf2 (JC.norm (i := 6) hf6 (JC.norm (i := 8) hf8 (JC.norm (i := 9) hf9 (JC.norm (i := 39) hf39 ?_))))))
        obtain ⟨r204, hlr204, hKr204⟩ := bind_some hF
        refine JC.join (fun (some_202 : Int) H203 f bs gs => f 1 = .int .i64 rain ∧ f 2 = .pointer (some ⟨b1, 0, none⟩) ∧ f 6 = y5a_v0 ∧ f 8 = .int .i64 some_202 ∧ f 9 = .int .i64 i_174 ∧ bs = [(b1, .cells [.int .i64 t.Days, .int .i64 t.Step, t_v2, .int .i64 t.Wrong, t_v4, .int .i64 t.Reach, .int .i64 t.Stock].toArray 25)] ∧ gs = [] ∧ HSub H175 H203 ∧ some_202 = r204) ?_ ?_
        · have hF := hlr204
          rcases ite_some hF with ⟨hc205, hF⟩ | ⟨hc205, hF⟩
          · refine JC.cond_t (b := y200) rfl hc205 ?_
            refine JC.region (by rfl) ?_
            intro hQ
            refine JL.move .none rfl ?_
            refine JL.bin rfl rfl rfl .none rfl ?_
            refine JL.assign .none rfl ?_
            refine JL.done hQ ?_
            obtain rfl := Option.some.inj hF
            exact JQ.join (w64 (some_173 + 1)) ⟨rfl, rfl, rfl, rfl, rfl, rfl, rfl, (HSub.refl _), rfl⟩
          · refine JC.cond_f (b := y200) rfl hc205 ?_
            refine JC.skip ?_
            obtain rfl := Option.some.inj hF
            exact JQ.join some_173 ⟨rfl, rfl, rfl, rfl, rfl, rfl, rfl, (HSub.refl _), rfl⟩
        · rintro some_202 H203 f bs gs ⟨hf1, hf2, hf6, hf8, hf9, rfl, rfl, hs203, rfl⟩
          have hF := hKr204
          try dsimp only at hF
          refine (JQ.norm (i := 1) hf1 (JQ.norm (i := 2) hf2 (JQ.norm (i := 6) hf6 (JQ.norm (i := 8) hf8 (JQ.norm (i := 9) hf9 ?_)))))
          refine JQ.normal_block ?_
          refine JQ.go ?_
          refine JC.region (by rfl) ?_
          intro hQ
          refine JL.move .none rfl ?_
          refine JL.bin rfl rfl rfl .none rfl ?_
          refine JL.assign .none rfl ?_
          refine JL.done hQ ?_
          obtain rfl := Option.some.inj hF
          exact JQ.next rfl ⟨rfl, rfl, rfl, rfl, rfl, rfl, rfl, (HSub.trans hs175 hs203)⟩
      · refine JC.cond_f (b := decide (i_174 < (y5.1.length : Int))) rfl hc178 ?_
        refine JC.exit ?_
        refine JQ.exit_then ?_
        refine JQ.exit_then ?_
        refine JQ.exit_block ?_
        obtain rfl := Option.some.inj hF
        have ehr176 := hr176 _ rfl
        subst ehr176
        refine JQ.mask [false] [] ?_
        exact JQ.join some_173 ⟨rfl, rfl, rfl, rfl, hs175, rfl⟩
    · rintro some_108 H109 f bs gs ⟨hf6, hf8, rfl, rfl, hs109, rfl⟩
      have hF := hKr110
      try dsimp only at hF
      refine (JQ.norm (i := 6) hf6 (JQ.norm (i := 8) hf8 ?_))
      refine JQ.go ?_
      refine JC.seq ?_
      refine JC.seq ?_
      refine JC.region (by rfl) ?_
      intro hQ
      refine JL.move .none rfl ?_
      refine JL.done hQ ?_
      refine JQ.go ?_
      refine JC.block ?_
      refine JC.seq ?_
      refine JC.region (by rfl) ?_
      intro hQ
      refine JL.move .none rfl ?_
      refine JL.lenSL (R := (RSl 1 RInt)) ul_72 (SL.mono (RSl.mono RInt.mono) hs109 hy5a_0) .none rfl ?_
      refine JL.bin rfl rfl rfl .none rfl ?_
      refine JL.assign .none rfl ?_
      refine JL.done hQ ?_
      refine JQ.go ?_
      rcases ite_some hF with ⟨hc206, hF⟩ | ⟨hc206, hF⟩
      · refine JC.cond_t (b := (some_108 == (y5.1.length : Int))) rfl hc206 ?_
        refine JC.seq ?_
        refine JC.region (by rfl) ?_
        intro hQ
        refine JL.assign .none rfl ?_
        refine JL.assign .none rfl ?_
        refine JL.done hQ ?_
        refine JQ.go ?_
        refine JC.ret ?_
        refine JQ.ret_block ?_
        refine JQ.ret_then ?_
        obtain rfl := Option.some.inj hF
        exact JQ.outS rfl (.tmp (.tmp .nil)) rfl
      · refine JC.cond_f (b := (some_108 == (y5.1.length : Int))) rfl hc206 ?_
        refine JC.seq ?_
        refine JC.region (by rfl) ?_
        intro hQ
        refine JL.bin rfl rfl rfl .none rfl ?_
        refine JL.assign .none rfl ?_
        refine JL.done hQ ?_
        refine JQ.go ?_
        rcases ite_some hF with ⟨hc207, hF⟩ | ⟨hc207, hF⟩
        · refine JC.cond_t (b := (some_108 == 0)) rfl hc207 ?_
          refine JC.seq ?_
          refine JC.region (by rfl) ?_
          intro hQ
          refine JL.assign .none rfl ?_
          refine JL.assign .none rfl ?_
          refine JL.done hQ ?_
          refine JQ.go ?_
          refine JC.ret ?_
          refine JQ.ret_block ?_
          refine JQ.ret_then ?_
          obtain rfl := Option.some.inj hF
          exact JQ.outS rfl (.tmp (.tmp .nil)) rfl
        · refine JC.cond_f (b := (some_108 == 0)) rfl hc207 ?_
          refine JC.skip ?_
          refine JQ.normal_block ?_
          refine JQ.go ?_
          refine JC.seq ?_
          refine JC.region (by rfl) ?_
          intro hQ
          refine JL.assign .none rfl ?_
          refine JL.assign .none rfl ?_
          refine JL.done hQ ?_
          refine JQ.go ?_
          refine JC.ret ?_
          obtain rfl := Option.some.inj hF
          exact JQ.outS rfl (.tmp (.tmp .nil)) rfl

end Go.Proofs.Ytooankffknoomaa
