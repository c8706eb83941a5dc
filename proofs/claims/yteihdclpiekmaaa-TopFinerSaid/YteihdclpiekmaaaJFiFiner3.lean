/-
  A part of the proof of FiFiner: the texts FiMan, FiGenK1.
-/
import Derived.Test.YteihdclpiekmaaaJFiFiner2
section
set_option maxRecDepth 100000
set_option maxHeartbeats 40000000
namespace Go.Proofs.Yteihdclpiekmaaa
open Go Go.RowKit Go.Dec
set_option linter.unusedVariables false
theorem mz_az3 : aggsz Try.prog 3 = some (false, 1) := by kernel_rfl
theorem mz_fo61_0 : fieldOff Try.prog 68 0 = some 0 := by kernel_rfl
theorem mz_fo61_1 : fieldOff Try.prog 68 1 = some 2 := by kernel_rfl
theorem mz_fo59_0 : fieldOff Try.prog 39 0 = some 0 := by kernel_rfl
theorem mz_fo59_1 : fieldOff Try.prog 39 1 = some 1 := by kernel_rfl
theorem mz_foB1 : fieldOff Try.prog 156 1 = some 1 := by kernel_rfl
theorem mz_azR : aggsz Try.prog 23 = some (false, 1) := by kernel_rfl
theorem mz_azB : aggsz Try.prog 156 = some (true, 3) := by kernel_rfl
theorem mz_azG : aggsz Try.prog 86 = some (true, 2) := by kernel_rfl
theorem mz_ulR : Try.prog.underlying 23 = some (.slice 3) := by kernel_rfl
theorem mz_slR : slT Try.prog 23 = some (3, 1) := by kernel_rfl
theorem mz_enB : Ent Try.prog 181 := enters_of Try.func181 (by kernel_rfl) rfl
def I_frames_truths_1_s2 {σ ρ : Type} (c_0 : Section) (a : Int) (cs : σ → frames_sides → Option (σ ⊕ ρ)) : Int × σ → Option ((Int × σ) ⊕ (σ ⊕ ρ))
  | (b, s) => if decide (b ≤ c_0.Stretch.High) = true then ((cs s ⟨a, b⟩).bind fun y => match y with | .inl s' => some (.inl (w64 (b + 1), s')) | .inr e => some (.inr (.inr e))) else some (.inr (.inl s))
def I_frames_truths_1_s1 {σ ρ : Type} (n : Nat) (c_0 : Section) (cs : σ → frames_sides → Option (σ ⊕ ρ)) : Int × σ → Option ((Int × σ) ⊕ (σ ⊕ ρ))
  | (a, s) => if decide (a ≤ c_0.Arm.High) = true then ((loopO n (I_frames_truths_1_s2 c_0 a cs) (c_0.Stretch.Low, s)).bind fun y => match y with | .inl s' => some (.inl (w64 (a + 1), s')) | .inr e => some (.inr (.inr e))) else some (.inr (.inl s))
def I_frames_truths_1 {σ ρ : Type} (n : Nat) (c_0 : Section) (cs : σ → frames_sides → Option (σ ⊕ ρ)) (s : σ) : Option (σ ⊕ ρ) :=
  loopO n (I_frames_truths_1_s1 n c_0 cs) (c_0.Arm.Low, s)
set_option maxRecDepth 100000 in
set_option maxHeartbeats 4000000 in
theorem it_frames_truths_1 (n : Nat) (H : Hp) (c_0 : Section) (c_0_b : Nat) (c_0_c : Cells H c_0_b 0 [.int .i64 c_0.Arm.Low, .int .i64 c_0.Arm.High, .int .i64 c_0.Stretch.Low, .int .i64 c_0.Stretch.High, .int .i64 c_0.Base, .int .i64 c_0.Gear.Num, .int .i64 c_0.Gear.Den]) :
    IT Try.prog 125 [.pointer (some ⟨c_0_b, 0, none⟩)] H (VPlain fun (x : frames_sides) => .agg [.int .i64 x.arm, .int .i64 x.stretch].toArray) (fun _ _ cs s => I_frames_truths_1 n c_0 cs s) := by
  refine IT.of (N := 31) Try.func125 rfl rfl rfl rfl fun σ ρ B A Ax cs l s0 y hF hY H1 fr gs Q hs1 hA hout => ?_
  unfold I_frames_truths_1 at hF
  refine JC.seq ?_
  refine JC.region (by rfl) ?_
  intro hQ
  refine JL.fieldAddr mz_fo61_0 rfl .none rfl ?_
  refine JL.fieldAddr mz_fo59_0 rfl .none rfl ?_
  refine JL.loadH 0 mz_az3 rfl (Cells.mono hs1 c_0_c) rfl .none rfl ?_
  refine JL.assign .none rfl ?_
  refine JL.done hQ ?_
  refine JQ.go ?_
  refine JC.block ?_
  refine JC.loop hF (fun (z : Int × σ) Hz f bs gs => match z with | (a, s) => f 0 = .func (.yield l) #[] #[] ∧ f 1 = .pointer (some ⟨c_0_b, 0, none⟩) ∧ f 3 = .int .i64 a ∧ A s Hz bs gs ∧ HSub H1 Hz) ⟨rfl, rfl, rfl, hA, HSub.refl _⟩ ?_
  rintro ⟨a, s⟩ x H2 f bs gs2 ⟨hf0, hf1, hf3, hA2, hs2⟩ hF hr
  rw [I_frames_truths_1_s1] at hF
  refine (JC.norm (i := 0) hf0 (JC.norm (i := 1) hf1 (JC.norm (i := 3) hf3 ?_)))
  refine JC.seq ?_
  refine JC.seq ?_
  refine JC.region (by rfl) ?_
  intro hQ
  refine JL.move .none rfl ?_
  refine JL.fieldAddr mz_fo61_0 rfl .none rfl ?_
  refine JL.fieldAddr mz_fo59_1 rfl .none rfl ?_
  refine JL.loadH 1 mz_az3 rfl (Cells.mono (hs1.trans hs2) c_0_c) rfl .none rfl ?_
  refine JL.bin rfl rfl rfl .none rfl ?_
  refine JL.done hQ ?_
  refine JQ.go ?_
  rcases ite_some hF with ⟨hc, hF⟩ | ⟨hc, hF⟩
  · refine JC.cond_t (b := decide (a ≤ c_0.Arm.High)) rfl hc ?_
    refine JC.skip ?_
    refine JQ.go ?_
    refine JC.seq ?_
    refine JC.block ?_
    refine JC.seq ?_
    refine JC.region (by rfl) ?_
    intro hQ
    refine JL.fieldAddr mz_fo61_1 rfl .none rfl ?_
    refine JL.fieldAddr mz_fo59_0 rfl .none rfl ?_
    refine JL.loadH 2 mz_az3 rfl (Cells.mono (hs1.trans hs2) c_0_c) rfl .none rfl ?_
    refine JL.assign .none rfl ?_
    refine JL.done hQ ?_
    refine JQ.go ?_
    obtain ⟨r1, hl1, hK1⟩ := bind_some hF
    refine JC.join (fun (s' : σ) H3 f bs gs => f 0 = .func (.yield l) #[] #[] ∧ f 1 = .pointer (some ⟨c_0_b, 0, none⟩) ∧ f 3 = .int .i64 a ∧ A s' H3 bs gs ∧ HSub H2 H3 ∧ Sum.inl s' = r1) ?_ ?_
    · refine JC.block ?_
      refine JC.loop hl1 (fun (z : Int × σ) Hz f bs gs => match z with | (b, s) => f 0 = .func (.yield l) #[] #[] ∧ f 1 = .pointer (some ⟨c_0_b, 0, none⟩) ∧ f 3 = .int .i64 a ∧ f 4 = .int .i64 b ∧ A s Hz bs gs ∧ HSub H2 Hz) ⟨rfl, rfl, rfl, rfl, hA2, HSub.refl _⟩ ?_
      rintro ⟨b, s1⟩ x1 H3 f bs3 gs3 ⟨hf0, hf1, hf3, hf4, hA3, hs3⟩ hF hr1
      rw [I_frames_truths_1_s2] at hF
      refine (JC.norm (i := 0) hf0 (JC.norm (i := 1) hf1 (JC.norm (i := 3) hf3 (JC.norm (i := 4) hf4 ?_))))
      refine JC.seq ?_
      refine JC.seq ?_
      refine JC.region (by rfl) ?_
      intro hQ
      refine JL.move .none rfl ?_
      refine JL.fieldAddr mz_fo61_1 rfl .none rfl ?_
      refine JL.fieldAddr mz_fo59_1 rfl .none rfl ?_
      refine JL.loadH 3 mz_az3 rfl (Cells.mono ((hs1.trans hs2).trans hs3) c_0_c) rfl .none rfl ?_
      refine JL.bin rfl rfl rfl .none rfl ?_
      refine JL.done hQ ?_
      refine JQ.go ?_
      rcases ite_some hF with ⟨hc3, hF⟩ | ⟨hc3, hF⟩
      · refine JC.cond_t (b := decide (b ≤ c_0.Stretch.High)) rfl hc3 ?_
        refine JC.skip ?_
        refine JQ.go ?_
        refine JC.seq ?_
        refine JC.block ?_
        refine JC.seq ?_
        obtain ⟨y0, hy0, hF⟩ := bind_some hF
        refine JC.regionY _ 4 rfl rfl (by rfl) ?_
        intro hQ
        refine JL.move .none rfl ?_
        refine JL.move .none rfl ?_
        refine JL.move .none rfl ?_
        refine JL.build (l := [.int .i64 a, .int .i64 b]) (by kernel_rfl) .none rfl ?_
        refine JL.atYield (A := A) (Ax := Ax) (y := y0) (tl := []) hQ (by rfl) rfl rfl rfl rfl (fun w hw => hY s1 ⟨a, b⟩ y0 _ [] [] H3 bs3 gs3 w hA3 hy0 ⟨rfl, rfl⟩ hw) ?_ ?_
        · rintro s' H4 fr4 gs4 rfl hs4 hA4
          refine JL.not rfl .none rfl ?_
          refine JL.done hQ ?_
          refine JQ.go ?_
          refine JC.cond_f (b := !true) rfl rfl ?_
          refine JC.skip ?_
          refine JQ.normal_block ?_
          refine JQ.go ?_
          refine JC.region (by rfl) ?_
          intro hQ
          refine JL.move .none rfl ?_
          refine JL.bin rfl rfl rfl .none rfl ?_
          refine JL.assign .none rfl ?_
          refine JL.done hQ ?_
          obtain rfl := Option.some.inj hF
          exact JQ.next rfl ⟨rfl, rfl, rfl, rfl, hA4, hs3.trans hs4⟩
        · rintro e H4 fr4 gs4 rfl hs4 hA4
          refine JL.not rfl .none rfl ?_
          refine JL.done hQ ?_
          refine JQ.go ?_
          refine JC.cond_t (b := !false) rfl rfl ?_
          refine JC.ret ?_
          refine JQ.ret_block ?_
          refine JQ.ret_then ?_
          refine JQ.ret_then ?_
          refine JQ.ret_block ?_
          refine JQ.ret_join ?_
          refine JQ.ret_block ?_
          refine JQ.ret_then ?_
          refine JQ.ret_then ?_
          refine JQ.ret_block ?_
          obtain rfl := Option.some.inj hF
          have e1 := hr1 _ rfl
          subst e1
          have hF := hK1
          dsimp only at hF
          obtain rfl := Option.some.inj hF
          have e2 := hr _ rfl
          subst e2
          exact (hout H4 _ [] fr4 gs4 ((hs2.trans hs3).trans hs4) hA4).1
      · refine JC.cond_f (b := decide (b ≤ c_0.Stretch.High)) rfl hc3 ?_
        refine JC.exit ?_
        refine JQ.exit_then ?_
        refine JQ.exit_then ?_
        refine JQ.exit_block ?_
        obtain rfl := Option.some.inj hF
        have e1 := hr1 _ rfl
        subst e1
        exact JQ.join s1 ⟨rfl, rfl, rfl, hA3, hs3, rfl⟩
    · rintro s' H3 f bs3 gs3 ⟨hf0, hf1, hf3, hA3, hs3, rfl⟩
      have hF := hK1
      dsimp only at hF
      refine (JQ.norm (i := 0) hf0 (JQ.norm (i := 1) hf1 (JQ.norm (i := 3) hf3 ?_)))
      refine JQ.normal_block ?_
      refine JQ.go ?_
      refine JC.region (by rfl) ?_
      intro hQ
      refine JL.move .none rfl ?_
      refine JL.bin rfl rfl rfl .none rfl ?_
      refine JL.assign .none rfl ?_
      refine JL.done hQ ?_
      obtain rfl := Option.some.inj hF
      exact JQ.next rfl ⟨rfl, rfl, rfl, hA3, hs2.trans hs3⟩
  · refine JC.cond_f (b := decide (a ≤ c_0.Arm.High)) rfl hc ?_
    refine JC.exit ?_
    refine JQ.exit_then ?_
    refine JQ.exit_then ?_
    refine JQ.exit_block ?_
    obtain rfl := Option.some.inj hF
    have e2 := hr _ rfl
    subst e2
    exact (hout H2 _ [] bs gs2 hs2 hA2).2
def I_gusts_blown_rounds_1_s2 (n : Nat) (c_0 : gusts_blown) (c_1 : Gust) (gone : Int) : Int × Int → Option ((Int × Int) ⊕ Int)
  | (next, x) => if decide (x < (c_0.ribs.length : Int)) = true then ((geti c_0.ribs x).bind fun y => (nneg x).bind fun _ => (if ((band .u16 (bshr .u16 gone x) 1) == 0) = true then ((F_gusts_blown_bears n c_0 c_1 x gone).bind fun y2 => some (decide (y < y2))) else (some false) : Option Bool).bind fun p => (if p = true then ((nneg x).bind fun _ => some (bor .u16 next (bshl .u16 1 x))) else (some next)).bind fun next2 => some (Sum.inl (next2, (w64 (x + 1))))) else (some (Sum.inr next))
def I_gusts_blown_rounds_1_s1 {σ ρ : Type} (n : Nat) (c_0 : gusts_blown) (c_1 : Gust) (cs : σ → Int → Option (σ ⊕ ρ)) : Int × σ → Option ((Int × σ) ⊕ (σ ⊕ ρ))
  | (gone, s) => (loopO n (I_gusts_blown_rounds_1_s2 n c_0 c_1 gone) (gone, 0)).bind fun next => if (next == gone) = true then (some (.inr (.inl s))) else ((cs s next).bind fun y => match y with | .inl s' => some (.inl (next, s')) | .inr e => some (.inr (.inr e)))
def I_gusts_blown_rounds_1 {σ ρ : Type} (n : Nat) (c_0 : gusts_blown) (c_1 : Gust) (cs : σ → Int → Option (σ ⊕ ρ)) (s : σ) : Option (σ ⊕ ρ) :=
  loopO n (I_gusts_blown_rounds_1_s1 n c_0 c_1 cs) (0, s)
set_option maxRecDepth 100000 in
set_option maxHeartbeats 40000000 in
theorem it_gusts_blown_rounds_1 (n : Nat) (H : Hp) (c_0 : gusts_blown) (c_0_v1 : Value) (hc_0_1 : SL H 1 RInt c_0_v1 c_0.ribs) (c_0_v2 : Value) (hc_0_2 : SL H 1 RInt c_0_v2 c_0.shares) (c_0_b : Nat) (c_0_c : Cells H c_0_b 0 [.int .i64 c_0.lift, c_0_v1, c_0_v2]) (c_1 : Gust) (c_1_b : Nat) (c_1_c : Cells H c_1_b 0 [.int .i64 c_1.Force, .int .i64 c_1.At]) :
    IT Try.prog 180 [.pointer (some ⟨c_0_b, 0, none⟩), .pointer (some ⟨c_1_b, 0, none⟩)] H (VPlain fun (x : Int) => .int .u16 x) (fun _ _ cs s => I_gusts_blown_rounds_1 n c_0 c_1 cs s) := by
  refine IT.of (N := 46) Try.func180 rfl rfl rfl rfl fun σ ρ B A Ax cs l s0 y hF hY H1 fr gs Q hs1 hA hout => ?_
  unfold I_gusts_blown_rounds_1 at hF
  refine JC.seq ?_
  refine JC.region (by rfl) ?_
  intro hQ
  refine JL.assign .none rfl ?_
  refine JL.done hQ ?_
  refine JQ.go ?_
  refine JC.block ?_
  refine JC.loop hF (fun (z : Int × σ) Hz f bs gs => match z with | (gone, s) => f 0 = .func (.yield l) #[] #[] ∧ f 1 = .pointer (some ⟨c_0_b, 0, none⟩) ∧ f 2 = .pointer (some ⟨c_1_b, 0, none⟩) ∧ f 4 = .int .u16 gone ∧ A s Hz bs gs ∧ HSub H1 Hz) ⟨rfl, rfl, rfl, rfl, hA, HSub.refl _⟩ ?_
  rintro ⟨gone, s⟩ xo H2 f bs gs2 ⟨hf0, hf1, hf2, hf4, hA2, hs2⟩ hF hr
  rw [I_gusts_blown_rounds_1_s1] at hF
  refine (JC.norm (i := 0) hf0 (JC.norm (i := 1) hf1 (JC.norm (i := 2) hf2 (JC.norm (i := 4) hf4 ?_))))
  have hs12 := hs1.trans hs2
  refine JC.block ?_
  refine JC.seq ?_
  refine JC.region (by rfl) ?_
  intro hQ
  refine JL.move .none rfl ?_
  refine JL.assign .none rfl ?_
  refine JL.done hQ ?_
  refine JQ.go ?_
  refine JC.seq ?_
  refine JC.seq ?_
  refine JC.region (by rfl) ?_
  intro hQ
  refine JL.fieldAddr mz_foB1 rfl .none rfl ?_
  refine JL.loadH 1 mz_azR rfl (Cells.mono hs12 c_0_c) rfl .none rfl ?_
  refine JL.lenSL (R := RInt) mz_ulR (SL.mono RInt.mono hs12 hc_0_1) .none rfl ?_
  refine JL.move .none rfl ?_
  refine JL.done hQ ?_
  refine JQ.go ?_
  obtain ⟨r1, hl1, hK1⟩ := bind_some hF
  refine JC.join (fun (next : Int) H3 f bs gs => f 0 = .func (.yield l) #[] #[] ∧ f 1 = .pointer (some ⟨c_0_b, 0, none⟩) ∧ f 2 = .pointer (some ⟨c_1_b, 0, none⟩) ∧ f 4 = .int .u16 gone ∧ f 5 = .int .u16 next ∧ A s H3 bs gs ∧ HSub H2 H3 ∧ next = r1) ?_ ?_
  · skip
    refine JC.block ?_
    refine JC.loop hl1 (fun (z : Int × Int) H3 f bs gs => match z with | (next, x) => f 0 = .func (.yield l) #[] #[] ∧ f 1 = .pointer (some ⟨c_0_b, 0, none⟩) ∧ f 2 = .pointer (some ⟨c_1_b, 0, none⟩) ∧ f 4 = .int .u16 gone ∧ f 5 = .int .u16 next ∧ f 10 = c_0_v1 ∧ f 11 = .int .i64 (c_0.ribs.length : Int) ∧ f 12 = .int .i64 x ∧ A s H3 bs gs ∧ HSub H2 H3) ⟨rfl, rfl, rfl, rfl, rfl, rfl, rfl, rfl, hA2, (HSub.refl _)⟩ ?_
    rintro ⟨next, x⟩ x1 H3 f bs gs ⟨hf0, hf1, hf2, hf4, hf5, hf10, hf11, hf12, hA3, hs3⟩ hF hr1
    rw [I_gusts_blown_rounds_1_s2] at hF
    have hs13 := hs12.trans hs3
    refine (JC.norm (i := 0) hf0 (JC.norm (i := 1) hf1 (JC.norm (i := 2) hf2 (JC.norm (i := 4) hf4 (JC.norm (i := 5) hf5 (JC.norm (i := 10) hf10 (JC.norm (i := 11) hf11 (JC.norm (i := 12) hf12 ?_))))))))
    refine JC.seq ?_
    refine JC.region (by rfl) ?_
    intro hQ
    refine JL.bin rfl rfl rfl .none rfl ?_
    refine JL.done hQ ?_
    refine JQ.go ?_
    refine JC.seq ?_
    rcases ite_some hF with ⟨hc, hF⟩ | ⟨hc, hF⟩
    · refine JC.cond_t (b := decide (x < (c_0.ribs.length : Int))) rfl hc ?_
      refine JC.skip ?_
      refine JQ.go ?_
      refine JC.seq ?_
      refine JC.block ?_
      refine JC.seq ?_
      refine JC.region (by rfl) ?_
      intro hQ
      refine JL.move .none rfl ?_
      obtain ⟨y829, hy829, hF⟩ := bind_some hF
      refine JL.indexSL (R := RInt) mz_slR (SL.mono RInt.mono hs13 hc_0_1) rfl hy829 .none rfl ?_
      rintro b830 o831 cs832 hc833 - rfl
      refine JL.loadH 0 mz_az3 rfl hc833 rfl .none rfl ?_
      refine JL.assign .none rfl ?_
      refine JL.assign .none rfl ?_
      refine JL.done hQ ?_
      refine JQ.go ?_
      refine JC.seq ?_
      refine JC.region (by rfl) ?_
      intro hQ
      refine JL.move .none rfl ?_
      refine JL.move .none rfl ?_
      obtain ⟨u834, hu834, hF⟩ := bind_some hF
      refine JL.shr rfl rfl (nneg_some hu834) .none rfl ?_
      refine JL.and rfl rfl .none rfl ?_
      refine JL.bin rfl rfl rfl .none rfl ?_
      refine JL.move .none rfl ?_
      obtain ⟨p836, hp836, hF⟩ := bind_some hF
      refine JL.cut 8 (fun f => f 0 = .func (.yield l) #[] #[] ∧ f 1 = .pointer (some ⟨c_0_b, 0, none⟩) ∧ f 2 = .pointer (some ⟨c_1_b, 0, none⟩) ∧ f 4 = .int .u16 gone ∧ f 5 = .int .u16 next ∧ f 6 = .int .i64 x ∧ f 10 = c_0_v1 ∧ f 11 = .int .i64 (c_0.ribs.length : Int) ∧ f 12 = .int .i64 x ∧ f 30 = .bool p836) ?_ ?_
      · intro hJ837
        rcases ite_some hp836 with ⟨hc838, hF⟩ | ⟨hc838, hF⟩
        · skip
          refine JL.loadH 0 mz_azB rfl (Cells.mono hs13 c_0_c) rfl (.some rfl rfl rfl hc838) rfl ?_
          refine JL.loadH 0 mz_azG rfl (Cells.mono hs13 c_1_c) rfl (.some rfl rfl rfl hc838) rfl ?_
          refine JL.move (.some rfl rfl rfl hc838) rfl ?_
          refine JL.move (.some rfl rfl rfl hc838) rfl ?_
          obtain ⟨y839, hy839, hF⟩ := bind_some hF
          refine JL.callS (c_gusts_blown_bears n H3 c_0 c_0_v1 (SL.mono RInt.mono hs13 hc_0_1) c_0_v2 (SL.mono RInt.mono hs13 hc_0_2) c_1 x gone y839 hy839) rfl mz_enB (.some rfl rfl rfl hc838) rfl ?_
          refine JL.move (.some rfl rfl rfl hc838) rfl ?_
          refine JL.bin rfl rfl rfl (.some rfl rfl rfl hc838) rfl ?_
          refine JL.pick_t (b := ((band .u16 (bshr .u16 gone x) 1) == 0)) rfl hc838 .none rfl ?_
          obtain rfl := Option.some.inj hF
          exact hJ837 _ ⟨rfl, rfl, rfl, rfl, rfl, rfl, rfl, rfl, rfl, rfl⟩
        · skip
          refine JL.skip (.bool rfl rfl rfl hc838) rfl ?_
          refine JL.skip (.bool rfl rfl rfl hc838) rfl ?_
          refine JL.skip (.bool rfl rfl rfl hc838) rfl ?_
          refine JL.skip (.bool rfl rfl rfl hc838) rfl ?_
          refine JL.skip (.bool rfl rfl rfl hc838) rfl ?_
          refine JL.skip (.bool rfl rfl rfl hc838) rfl ?_
          refine JL.skip (.bool rfl rfl rfl hc838) rfl ?_
          refine JL.pick_f (b := ((band .u16 (bshr .u16 gone x) 1) == 0)) rfl hc838 .none rfl ?_
          obtain rfl := Option.some.inj hF
          exact hJ837 _ ⟨rfl, rfl, rfl, rfl, rfl, rfl, rfl, rfl, rfl, rfl⟩
      · rintro f ⟨hf0, hf1, hf2, hf4, hf5, hf6, hf10, hf11, hf12, hf30⟩
        refine (JL.norm (i := 0) hf0 (JL.norm (i := 1) hf1 (JL.norm (i := 2) hf2 (JL.norm (i := 4) hf4 (JL.norm (i := 5) hf5 (JL.norm (i := 6) hf6 (JL.norm (i := 10) hf10 (JL.norm (i := 11) hf11 (JL.norm (i := 12) hf12 (JL.norm (i := 30) hf30 ?_))))))))))
        refine JL.done hQ ?_
        refine JQ.go ?_
        obtain ⟨r844, hlr844, hKr844⟩ := bind_some hF
        refine JC.join (fun (next2 : Int) H4 f bs gs => f 0 = .func (.yield l) #[] #[] ∧ f 1 = .pointer (some ⟨c_0_b, 0, none⟩) ∧ f 2 = .pointer (some ⟨c_1_b, 0, none⟩) ∧ f 4 = .int .u16 gone ∧ f 5 = .int .u16 next2 ∧ f 10 = c_0_v1 ∧ f 11 = .int .i64 (c_0.ribs.length : Int) ∧ f 12 = .int .i64 x ∧ A s H4 bs gs ∧ HSub H3 H4 ∧ next2 = r844) ?_ ?_
        · have hF := hlr844
          rcases ite_some hF with ⟨hc845, hF⟩ | ⟨hc845, hF⟩
          · refine JC.cond_t (b := p836) rfl hc845 ?_
            refine JC.region (by rfl) ?_
            intro hQ
            refine JL.move .none rfl ?_
            refine JL.move .none rfl ?_
            obtain ⟨u846, hu846, hF⟩ := bind_some hF
            refine JL.shl rfl rfl (nneg_some hu846) .none rfl ?_
            refine JL.or rfl rfl .none rfl ?_
            refine JL.assign .none rfl ?_
            refine JL.done hQ ?_
            obtain rfl := Option.some.inj hF
            exact JQ.join (bor .u16 next (bshl .u16 1 x)) ⟨rfl, rfl, rfl, rfl, rfl, rfl, rfl, rfl, hA3, (HSub.refl _), rfl⟩
          · refine JC.cond_f (b := p836) rfl hc845 ?_
            refine JC.skip ?_
            obtain rfl := Option.some.inj hF
            exact JQ.join next ⟨rfl, rfl, rfl, rfl, rfl, rfl, rfl, rfl, hA3, (HSub.refl _), rfl⟩
        · rintro next2 H4 f bs gs ⟨hf0, hf1, hf2, hf4, hf5, hf10, hf11, hf12, hA4, hs4, rfl⟩
          have hF := hKr844
          try dsimp only at hF
          refine (JQ.norm (i := 0) hf0 (JQ.norm (i := 1) hf1 (JQ.norm (i := 2) hf2 (JQ.norm (i := 4) hf4 (JQ.norm (i := 5) hf5 (JQ.norm (i := 10) hf10 (JQ.norm (i := 11) hf11 (JQ.norm (i := 12) hf12 ?_))))))))
          refine JQ.normal_block ?_
          refine JQ.go ?_
          refine JC.region (by rfl) ?_
          intro hQ
          refine JL.bin rfl rfl rfl .none rfl ?_
          refine JL.move .none rfl ?_
          refine JL.done hQ ?_
          obtain rfl := Option.some.inj hF
          exact JQ.next rfl ⟨rfl, rfl, rfl, rfl, rfl, rfl, rfl, rfl, hA4, (HSub.trans hs3 hs4)⟩
    · refine JC.cond_f (b := decide (x < (c_0.ribs.length : Int))) rfl hc ?_
      refine JC.exit ?_
      refine JQ.exit_then ?_
      refine JQ.exit_then ?_
      refine JQ.exit_block ?_
      obtain rfl := Option.some.inj hF
      have ehr1 := hr1 _ rfl
      subst ehr1
      exact JQ.join next ⟨rfl, rfl, rfl, rfl, rfl, hA3, hs3, rfl⟩
  · rintro next H3 f bs gs ⟨hf0, hf1, hf2, hf4, hf5, hA3, hs3, rfl⟩
    have hF := hK1
    try dsimp only at hF
    refine (JQ.norm (i := 0) hf0 (JQ.norm (i := 1) hf1 (JQ.norm (i := 2) hf2 (JQ.norm (i := 4) hf4 (JQ.norm (i := 5) hf5 ?_)))))
    refine JQ.go ?_
    refine JC.seq ?_
    rcases ite_some hF with ⟨hc, hF⟩ | ⟨hc, hF⟩
    · refine JC.seq ?_
      refine JC.region (by rfl) ?_
      intro hQ
      refine JL.move .none rfl ?_
      refine JL.move .none rfl ?_
      refine JL.bin rfl rfl rfl .none rfl ?_
      refine JL.move .none rfl ?_
      refine JL.skip (.bool rfl rfl rfl hc) rfl ?_
      refine JL.skip (.bool rfl rfl rfl hc) rfl ?_
      refine JL.skip (.bool rfl rfl rfl hc) rfl ?_
      refine JL.skip (.bool rfl rfl rfl hc) rfl ?_
      refine JL.pick_t (b := (next == gone)) rfl hc .none rfl ?_
      refine JL.done hQ ?_
      refine JQ.go ?_
      refine JC.cond_t (b := true) rfl rfl ?_
      refine JC.ret ?_
      refine JQ.ret_then ?_
      refine JQ.ret_block ?_
      refine JQ.ret_then ?_
      refine JQ.ret_block ?_
      obtain rfl := Option.some.inj hF
      have e2 := hr _ rfl
      subst e2
      exact (hout H3 _ [] bs gs (hs2.trans hs3) hA3).1
    · refine JC.seq ?_
      obtain ⟨y0, hy0, hF⟩ := bind_some hF
      refine JC.regionY _ 6 rfl rfl (by rfl) ?_
      intro hQ
      refine JL.move .none rfl ?_
      refine JL.move .none rfl ?_
      refine JL.bin rfl rfl rfl .none rfl ?_
      refine JL.move .none rfl ?_
      refine JL.move (.some rfl rfl rfl hc) rfl ?_
      refine JL.move (.some rfl rfl rfl hc) rfl ?_
      refine JL.atYieldG (A := A) (Ax := Ax) (y := y0) (tl := []) hQ (by rfl) rfl rfl (.some rfl rfl rfl hc) rfl rfl (fun w hw => hY s next y0 _ [] [] H3 bs gs w hA3 hy0 ⟨rfl, rfl⟩ hw) ?_ ?_
      · rintro s' H4 fr4 gs4 rfl hs4 hA4
        refine JL.not rfl (.some rfl rfl rfl hc) rfl ?_
        refine JL.pick_f (b := (next == gone)) rfl hc .none rfl ?_
        refine JL.done hQ ?_
        refine JQ.go ?_
        refine JC.cond_f (b := !true) rfl rfl ?_
        refine JC.skip ?_
        refine JQ.go ?_
        refine JC.region (by rfl) ?_
        intro hQ
        refine JL.move .none rfl ?_
        refine JL.assign .none rfl ?_
        refine JL.done hQ ?_
        refine JQ.normal_block ?_
        obtain rfl := Option.some.inj hF
        exact JQ.next rfl ⟨rfl, rfl, rfl, rfl, hA4, (hs2.trans hs3).trans hs4⟩
      · rintro e H4 fr4 gs4 rfl hs4 hA4
        refine JL.not rfl (.some rfl rfl rfl hc) rfl ?_
        refine JL.pick_f (b := (next == gone)) rfl hc .none rfl ?_
        refine JL.done hQ ?_
        refine JQ.go ?_
        refine JC.cond_t (b := !false) rfl rfl ?_
        refine JC.ret ?_
        refine JQ.ret_then ?_
        refine JQ.ret_block ?_
        refine JQ.ret_then ?_
        refine JQ.ret_block ?_
        obtain rfl := Option.some.inj hF
        have e2 := hr _ rfl
        subst e2
        exact (hout H4 _ [] fr4 gs4 ((hs2.trans hs3).trans hs4) hA4).1
end Go.Proofs.Yteihdclpiekmaaa
end
section
set_option maxRecDepth 100000
set_option maxHeartbeats 40000000
namespace Go.Proofs.Yteihdclpiekmaaa
open Go Go.RowKit Go.Dec
set_option linter.unusedVariables false
-- 33 ferrule/ferruleref05.Check
def F_ref05_Check_s1 (n : Nat) (d : Canopy) : Int → Option (Int ⊕ (Int ⊕ Unit))
 | i_425 => if decide (i_425 < (d.Ribs.length : Int)) = true then ((geti d.Ribs i_425).bind fun y469 => (geti d.Ribs i_425).bind fun y474 => (F_ref05_within n y469.Low 0 y474.High).bind fun y479 => (if (!y479) = true then (some true) else ((geti d.Ribs i_425).bind fun y488 => some (decide (99999 < y488.High))) : Option Bool).bind fun p485 => (if p485 = true then (some true) else ((geti d.Shares i_425).bind fun y502 => (F_ref05_within n y502 0 99).bind fun y507 => some (!y507)) : Option Bool).bind fun p499 => if p499 = true then (some (Sum.inr (Sum.inl 50))) else (some (Sum.inl (w64 (i_425 + 1))))) else (some (Sum.inr (Sum.inr ())))
def F_ref05_Check (n : Nat) (d : Canopy) : Option Int :=
 (F_ref01_Check n d.Frame).bind fun y2 => (if (y2 != 0) = true then (some true) else ((F_ref05_within n (d.Ribs.length : Int) 3 10).bind fun y7 => some (!y7)) : Option Bool).bind fun p4 => if (p4 || ((d.Shares.length : Int) != (d.Ribs.length : Int))) = true then (some 50) else ((loopO n (F_ref05_Check_s1 n d) 0).bind fun r260 => match r260 with | .inl o => some o | .inr _ => some 0)
theorem c_ref05_Check (n : Nat) (H : Hp) (d : Canopy) (d_v0 : Value) (hd_0 : SL H 7 R_Section d_v0 d.Frame.Sections) (d_v7 : Value) (hd_7 : SL H 2 R_Span d_v7 d.Ribs) (d_v8 : Value) (hd_8 : SL H 1 RInt d_v8 d.Shares) (y : Int) (hF : F_ref05_Check n d = some y) : SC Try.prog 33 [.agg [d_v0, .int .i64 d.Frame.Low, .int .i64 d.Frame.High, .int .i64 d.Frame.Ease.Num, .int .i64 d.Frame.Ease.Den, .int .i64 d.Frame.Rod, .int .i64 d.Frame.Case, d_v7, d_v8].toArray] (.int .i64 y) H := by
 rw [F_ref05_Check] at hF
 refine SC.of (N := 63) Try.func33 rfl rfl rfl fun w => ?_
 refine JC.seq (JC.region (by rfl) ?_)
 intro hQ
 refine JL.box (cs := [d_v0, .int .i64 d.Frame.Low, .int .i64 d.Frame.High, .int .i64 d.Frame.Ease.Num, .int .i64 d.Frame.Ease.Den, .int .i64 d.Frame.Rod, .int .i64 d.Frame.Case, d_v7, d_v8]) rfl .none rfl ?_
 intro b1
 refine JL.assign .none rfl ?_
 refine JL.done hQ (JQ.go (JC.seq (JC.seq (JC.region (by rfl) ?_))))
 intro hQ
 refine JL.fieldAddr fo_76_0 rfl .none rfl ?_
 refine JL.loadOwn 0 az_53 rfl rfl rfl .none rfl ?_
 obtain ⟨y2, hy2, hF⟩ := bind_some hF
 refine JL.callS (c_ref01_Check n H d.Frame d_v0 hd_0 y2 hy2) rfl en_21 .none rfl ?_
 refine JL.bin rfl rfl rfl .none rfl ?_
 refine JL.move .none rfl ?_
 obtain ⟨p4, hp4, hF⟩ := bind_some hF
 refine JL.cut 6 (fun f => f 1 = .pointer (some ⟨b1, 0, none⟩) ∧ f 14 = .bool p4) ?_ ?_
 ·intro hJ5
  rcases ite_some hp4 with ⟨hc6, hF⟩ | ⟨hc6, hF⟩
  ·skip
   refine JL.skip (.bool rfl rfl rfl hc6) rfl ?_
   refine JL.skip (.bool rfl rfl rfl hc6) rfl ?_
   refine JL.skip (.bool rfl rfl rfl hc6) rfl ?_
   refine JL.skip (.bool rfl rfl rfl hc6) rfl ?_
   refine JL.skip (.bool rfl rfl rfl hc6) rfl ?_
   refine JL.pick_t (b := (y2 != 0)) rfl hc6 .none rfl ?_
   obtain rfl := Option.some.inj hF
   exact hJ5 _ ⟨rfl, rfl⟩
  ·skip
   refine JL.fieldAddr fo_76_1 rfl (.some rfl rfl rfl hc6) rfl ?_
   refine JL.loadOwn 0 az_24 rfl rfl rfl (.some rfl rfl rfl hc6) rfl ?_
   refine JL.lenSL (R := R_Span) ul_24 hd_7 (.some rfl rfl rfl hc6) rfl ?_
   obtain ⟨y7, hy7, hF⟩ := bind_some hF
   refine JL.callS (c_ref05_within n H (d.Ribs.length : Int) 3 10 y7 hy7) rfl en_82 (.some rfl rfl rfl hc6) rfl ?_
   refine JL.not rfl (.some rfl rfl rfl hc6) rfl ?_
   refine JL.pick_f (b := (y2 != 0)) rfl hc6 .none rfl ?_
   obtain rfl := Option.some.inj hF
   exact hJ5 _ ⟨rfl, rfl⟩
 ·rintro f ⟨hf1, hf14⟩
  refine (JL.norm (i := 1) hf1 (JL.norm (i := 14) hf14 ?_))
  refine JL.move .none rfl ?_
  refine JL.cut 8 (fun f => f 1 = .pointer (some ⟨b1, 0, none⟩) ∧ f 23 = .bool (p4 || ((d.Shares.length : Int) != (d.Ribs.length : Int)))) ?_ ?_
  ·intro hJ8
   rcases bcases p4 with hc9 | hc9
   ·skip
    refine JL.skip (.bool rfl rfl rfl hc9) rfl ?_
    refine JL.skip (.bool rfl rfl rfl hc9) rfl ?_
    refine JL.skip (.bool rfl rfl rfl hc9) rfl ?_
    refine JL.skip (.bool rfl rfl rfl hc9) rfl ?_
    refine JL.skip (.bool rfl rfl rfl hc9) rfl ?_
    refine JL.skip (.bool rfl rfl rfl hc9) rfl ?_
    refine JL.skip (.bool rfl rfl rfl hc9) rfl ?_
    refine JL.pick_t (b := p4) rfl hc9 .none rfl ?_
    exact hJ8 _ ⟨rfl, or_t hc9 rfl⟩
   ·skip
    refine JL.fieldAddr fo_76_2 rfl (.some rfl rfl rfl hc9) rfl ?_
    refine JL.loadOwn 0 az_23 rfl rfl rfl (.some rfl rfl rfl hc9) rfl ?_
    refine JL.lenSL (R := RInt) ul_23 hd_8 (.some rfl rfl rfl hc9) rfl ?_
    refine JL.fieldAddr fo_76_1 rfl (.some rfl rfl rfl hc9) rfl ?_
    refine JL.loadOwn 0 az_24 rfl rfl rfl (.some rfl rfl rfl hc9) rfl ?_
    refine JL.lenSL (R := R_Span) ul_24 hd_7 (.some rfl rfl rfl hc9) rfl ?_
    refine JL.bin rfl rfl rfl (.some rfl rfl rfl hc9) rfl ?_
    refine JL.pick_f (b := p4) rfl hc9 .none rfl ?_
    exact hJ8 _ ⟨rfl, or_f hc9 rfl⟩
  ·rintro f ⟨hf1, hf23⟩
   refine (JL.norm (i := 1) hf1 (JL.norm (i := 23) hf23 ?_))
   refine JL.done hQ (JQ.go ?_)
   rcases ite_some hF with ⟨hc10, hF⟩ | ⟨hc10, hF⟩
   ·refine JC.cond_t (b := (p4 || ((d.Shares.length : Int) != (d.Ribs.length : Int)))) rfl hc10 ?_
    refine JC.seq (JC.region (by rfl) ?_)
    intro hQ
    refine JL.assign .none rfl ?_
    refine JL.done hQ (JQ.go (JC.ret (JQ.ret_then ?_)))
    obtain rfl := Option.some.inj hF
    exact JQ.outS rfl (.tmp .nil) rfl
   ·refine JC.cond_f (b := (p4 || ((d.Shares.length : Int) != (d.Ribs.length : Int)))) rfl hc10 ?_
    refine JC.skip (JQ.go (JC.seq (JC.seq (JC.region (by rfl) ?_))))
    intro hQ
    refine JL.assign .none rfl ?_
    refine JL.done hQ (JQ.go ?_)
    obtain ⟨r260, hlr260, hKr260⟩ := bind_some hF
    refine JC.join (fun (_ : Unit) H259 f bs gs => bs = [] ∧ gs = [] ∧ HSub H H259 ∧ Sum.inr () = r260) ?_ ?_
    ·skip
     refine JC.block (JC.loop hlr260 (fun (i_425 : Int) H426 f bs gs => f 1 = .pointer (some ⟨b1, 0, none⟩) ∧ f 3 = .int .i64 i_425 ∧ bs = [(b1, .cells [d_v0, .int .i64 d.Frame.Low, .int .i64 d.Frame.High, .int .i64 d.Frame.Ease.Num, .int .i64 d.Frame.Ease.Den, .int .i64 d.Frame.Rod, .int .i64 d.Frame.Case, d_v7, d_v8].toArray 76)] ∧ gs = [] ∧ HSub H H426) ⟨rfl, rfl, rfl, rfl, (HSub.refl _)⟩ ?_)
     rintro i_425 x428 H426 f bs gs ⟨hf1, hf3, rfl, rfl, hs426⟩ hF hr427
     rw [F_ref05_Check_s1] at hF
     refine (JC.norm (i := 1) hf1 (JC.norm (i := 3) hf3 ?_))
     refine JC.seq (JC.seq (JC.region (by rfl) ?_))
     intro hQ
     refine JL.move .none rfl ?_
     refine JL.fieldAddr fo_76_1 rfl .none rfl ?_
     refine JL.loadOwn 0 az_24 rfl rfl rfl .none rfl ?_
     refine JL.lenSL (R := R_Span) ul_24 (SL.mono R_Span_mono hs426 hd_7) .none rfl ?_
     refine JL.bin rfl rfl rfl .none rfl ?_
     refine JL.done hQ (JQ.go ?_)
     rcases ite_some hF with ⟨hc429, hF⟩ | ⟨hc429, hF⟩
     ·refine JC.cond_t (b := decide (i_425 < (d.Ribs.length : Int))) rfl hc429 ?_
      refine JC.skip (JQ.go (JC.seq (JC.block (JC.seq (JC.draw (by rfl) mo_ (by kernel_rfl) ?_)))))
      intro hQ
      refine JL.fieldAddr fo_76_1 rfl .none rfl ?_
      refine JL.loadOwn 0 az_24 rfl rfl rfl .none rfl ?_
      refine JL.move .none rfl ?_
      obtain ⟨y469, hy469, hF⟩ := bind_some hF
      refine JL.indexSL (R := R_Span) sl_24 (SL.mono R_Span_mono hs426 hd_7) rfl hy469 .none rfl ?_
      rintro b470 o471 cs472 hc473 - rfl
      refine JL.fieldAddr fo_39_0 rfl .none rfl ?_
      refine JL.loadH 0 az_3 rfl hc473 rfl .none rfl ?_
      refine JL.fieldAddr fo_76_1 rfl .none rfl ?_
      refine JL.loadOwn 0 az_24 rfl rfl rfl .none rfl ?_
      refine JL.move .none rfl ?_
      obtain ⟨y474, hy474, hF⟩ := bind_some hF
      refine JL.indexSL (R := R_Span) sl_24 (SL.mono R_Span_mono hs426 hd_7) rfl hy474 .none rfl ?_
      rintro b475 o476 cs477 hc478 - rfl
      refine JL.fieldAddr fo_39_1 rfl .none rfl ?_
      refine JL.loadH 1 az_3 rfl hc478 rfl .none rfl ?_
      obtain ⟨y479, hy479, hF⟩ := bind_some hF
      refine JL.callS (c_ref05_within n H426 y469.Low 0 y474.High y479 hy479) rfl en_82 .none rfl ?_
      refine JL.not rfl .none rfl ?_
      refine JL.move .none rfl ?_
      obtain ⟨p485, hp485, hF⟩ := bind_some hF
      refine JL.cut 8 (fun f => f 1 = .pointer (some ⟨b1, 0, none⟩) ∧ f 3 = .int .i64 i_425 ∧ f 53 = .bool p485) ?_ ?_
      ·intro hJ486
       rcases ite_some hp485 with ⟨hc487, hF⟩ | ⟨hc487, hF⟩
       ·skip
        refine JL.skip (.bool rfl rfl rfl hc487) rfl ?_
        refine JL.skip (.bool rfl rfl rfl hc487) rfl ?_
        refine JL.skip (.bool rfl rfl rfl hc487) rfl ?_
        refine JL.skip (.bool rfl rfl rfl hc487) rfl ?_
        refine JL.skip (.bool rfl rfl rfl hc487) rfl ?_
        refine JL.skip (.bool rfl rfl rfl hc487) rfl ?_
        refine JL.skip (.bool rfl rfl rfl hc487) rfl ?_
        refine JL.pick_t (b := (!y479)) rfl hc487 .none rfl ?_
        obtain rfl := Option.some.inj hF
        exact hJ486 _ ⟨rfl, rfl, rfl⟩
       ·skip
        refine JL.fieldAddr fo_76_1 rfl (.some rfl rfl rfl hc487) rfl ?_
        refine JL.loadOwn 0 az_24 rfl rfl rfl (.some rfl rfl rfl hc487) rfl ?_
        refine JL.move (.some rfl rfl rfl hc487) rfl ?_
        obtain ⟨y488, hy488, hF⟩ := bind_some hF
        refine JL.indexSL (R := R_Span) sl_24 (SL.mono R_Span_mono hs426 hd_7) rfl hy488 (.some rfl rfl rfl hc487) rfl ?_
        rintro b489 o490 cs491 hc492 - rfl
        refine JL.fieldAddr fo_39_1 rfl (.some rfl rfl rfl hc487) rfl ?_
        refine JL.loadH 1 az_3 rfl hc492 rfl (.some rfl rfl rfl hc487) rfl ?_
        refine JL.bin rfl rfl rfl (.some rfl rfl rfl hc487) rfl ?_
        refine JL.pick_f (b := (!y479)) rfl hc487 .none rfl ?_
        obtain rfl := Option.some.inj hF
        exact hJ486 _ ⟨rfl, rfl, rfl⟩
      ·rintro f ⟨hf1, hf3, hf53⟩
       refine (JL.norm (i := 1) hf1 (JL.norm (i := 3) hf3 (JL.norm (i := 53) hf53 ?_)))
       refine JL.move .none rfl ?_
       obtain ⟨p499, hp499, hF⟩ := bind_some hF
       refine JL.cut 8 (fun f => f 1 = .pointer (some ⟨b1, 0, none⟩) ∧ f 3 = .int .i64 i_425 ∧ f 62 = .bool p499) ?_ ?_
       ·intro hJ500
        rcases ite_some hp499 with ⟨hc501, hF⟩ | ⟨hc501, hF⟩
        ·skip
         refine JL.skip (.bool rfl rfl rfl hc501) rfl ?_
         refine JL.skip (.bool rfl rfl rfl hc501) rfl ?_
         refine JL.skip (.bool rfl rfl rfl hc501) rfl ?_
         refine JL.skip (.bool rfl rfl rfl hc501) rfl ?_
         refine JL.skip (.bool rfl rfl rfl hc501) rfl ?_
         refine JL.skip (.bool rfl rfl rfl hc501) rfl ?_
         refine JL.skip (.bool rfl rfl rfl hc501) rfl ?_
         refine JL.pick_t (b := p485) rfl hc501 .none rfl ?_
         obtain rfl := Option.some.inj hF
         exact hJ500 _ ⟨rfl, rfl, rfl⟩
        ·skip
         refine JL.fieldAddr fo_76_2 rfl (.some rfl rfl rfl hc501) rfl ?_
         refine JL.loadOwn 0 az_23 rfl rfl rfl (.some rfl rfl rfl hc501) rfl ?_
         refine JL.move (.some rfl rfl rfl hc501) rfl ?_
         obtain ⟨y502, hy502, hF⟩ := bind_some hF
         refine JL.indexSL (R := RInt) sl_23 (SL.mono RInt.mono hs426 hd_8) rfl hy502 (.some rfl rfl rfl hc501) rfl ?_
         rintro b503 o504 cs505 hc506 - rfl
         refine JL.loadH 0 az_3 rfl hc506 rfl (.some rfl rfl rfl hc501) rfl ?_
         obtain ⟨y507, hy507, hF⟩ := bind_some hF
         refine JL.callS (c_ref05_within n H426 y502 0 99 y507 hy507) rfl en_82 (.some rfl rfl rfl hc501) rfl ?_
         refine JL.not rfl (.some rfl rfl rfl hc501) rfl ?_
         refine JL.pick_f (b := p485) rfl hc501 .none rfl ?_
         obtain rfl := Option.some.inj hF
         exact hJ500 _ ⟨rfl, rfl, rfl⟩
       ·rintro f ⟨hf1, hf3, hf62⟩
        refine (JL.norm (i := 1) hf1 (JL.norm (i := 3) hf3 (JL.norm (i := 62) hf62 ?_)))
        refine JL.doneQ hQ ?_
        refine JQ.go ?_
        rcases ite_some hF with ⟨hc508, hF⟩ | ⟨hc508, hF⟩
        ·refine JC.cond_t (b := p499) rfl hc508 ?_
         refine JC.seq (JC.region (by rfl) ?_)
         intro hQ
         refine JL.assign .none rfl ?_
         refine JL.done hQ (JQ.go (JC.ret (JQ.ret_block (JQ.ret_then (JQ.ret_then (JQ.ret_block (JQ.ret_join (JQ.ret_then ?_))))))))
         obtain rfl := Option.some.inj hF
         have ehr427 := hr427 _ rfl
         subst ehr427
         have hF := hKr260
         try dsimp only at hF
         obtain rfl := Option.some.inj hF
         exact JQ.outS rfl (.tmp .nil) rfl
        ·refine JC.cond_f (b := p499) rfl hc508 ?_
         refine JC.skip (JQ.normal_block (JQ.go (JC.region (by rfl) ?_)))
         intro hQ
         refine JL.move .none rfl ?_
         refine JL.bin rfl rfl rfl .none rfl ?_
         refine JL.assign .none rfl ?_
         refine JL.done hQ ?_
         obtain rfl := Option.some.inj hF
         exact JQ.next rfl ⟨rfl, rfl, rfl, rfl, hs426⟩
     ·refine JC.cond_f (b := decide (i_425 < (d.Ribs.length : Int))) rfl hc429 ?_
      refine JC.exit (JQ.exit_then (JQ.exit_then (JQ.exit_block ?_)))
      obtain rfl := Option.some.inj hF
      have ehr427 := hr427 _ rfl
      subst ehr427
      refine JQ.mask [false] [] ?_
      exact JQ.join () ⟨rfl, rfl, hs426, rfl⟩
    ·rintro _ H259 f bs gs ⟨rfl, rfl, hs259, rfl⟩
     have hF := hKr260
     try dsimp only at hF
     refine JQ.go (JC.seq (JC.region (by rfl) ?_))
     intro hQ
     refine JL.assign .none rfl ?_
     refine JL.done hQ (JQ.go (JC.ret ?_))
     obtain rfl := Option.some.inj hF
     exact JQ.outS rfl (.tmp .nil) rfl
-- 146 ferrule/ferruleref13.within
def F_ref13_within (n : Nat) (n_ : Int) (low : Int) (high : Int) : Option Bool :=
 (F_ref01_Within n n_ low high).bind fun y1 => some y1
theorem c_ref13_within (n : Nat) (H : Hp) (n_ : Int) (low : Int) (high : Int) (y : Bool) (hF : F_ref13_within n n_ low high = some y) : SC Try.prog 146 [.int .i64 n_, .int .i64 low, .int .i64 high] (.bool y) H := by
 rw [F_ref13_within] at hF
 refine SC.of (N := 11) Try.func146 rfl rfl rfl fun w => ?_
 refine JC.seq (JC.region (by rfl) ?_)
 intro hQ
 refine JL.assign .none rfl ?_
 refine JL.done hQ (JQ.go (JC.seq (JC.region (by rfl) ?_)))
 intro hQ
 refine JL.move .none rfl ?_
 refine JL.move .none rfl ?_
 refine JL.move .none rfl ?_
 obtain ⟨y1, hy1, hF⟩ := bind_some hF
 refine JL.callS (c_ref01_Within n H n_ low high y1 hy1) rfl en_66 .none rfl ?_
 refine JL.assign .none rfl ?_
 refine JL.done hQ (JQ.go (JC.ret ?_))
 obtain rfl := Option.some.inj hF
 exact JQ.outS rfl (.tmp .nil) rfl
-- 34 ferrule/ferruleref05.IsRib
def F_ref05_IsRib (n : Nat) (d : Canopy) (n_ : Int) : Option Bool :=
 (F_ref05_within n n_ 0 (w64 ((d.Ribs.length : Int) - 1))).bind fun y2 => some y2
theorem c_ref05_IsRib (n : Nat) (H : Hp) (d : Canopy) (d_v0 : Value) (hd_0 : SL H 7 R_Section d_v0 d.Frame.Sections) (d_v7 : Value) (hd_7 : SL H 2 R_Span d_v7 d.Ribs) (d_v8 : Value) (hd_8 : SL H 1 RInt d_v8 d.Shares) (n_ : Int) (y : Bool) (hF : F_ref05_IsRib n d n_ = some y) : SC Try.prog 34 [.agg [d_v0, .int .i64 d.Frame.Low, .int .i64 d.Frame.High, .int .i64 d.Frame.Ease.Num, .int .i64 d.Frame.Ease.Den, .int .i64 d.Frame.Rod, .int .i64 d.Frame.Case, d_v7, d_v8].toArray, .int .i64 n_] (.bool y) H := by
 rw [F_ref05_IsRib] at hF
 refine SC.of (N := 11) Try.func34 rfl rfl rfl fun w => ?_
 refine JC.seq (JC.region (by rfl) ?_)
 intro hQ
 refine JL.box (cs := [d_v0, .int .i64 d.Frame.Low, .int .i64 d.Frame.High, .int .i64 d.Frame.Ease.Num, .int .i64 d.Frame.Ease.Den, .int .i64 d.Frame.Rod, .int .i64 d.Frame.Case, d_v7, d_v8]) rfl .none rfl ?_
 intro b1
 refine JL.assign .none rfl ?_
 refine JL.done hQ (JQ.go (JC.seq (JC.region (by rfl) ?_)))
 intro hQ
 refine JL.move .none rfl ?_
 refine JL.fieldAddr fo_76_1 rfl .none rfl ?_
 refine JL.loadOwn 0 az_24 rfl rfl rfl .none rfl ?_
 refine JL.lenSL (R := R_Span) ul_24 hd_7 .none rfl ?_
 refine JL.bin rfl rfl rfl .none rfl ?_
 obtain ⟨y2, hy2, hF⟩ := bind_some hF
 refine JL.callS (c_ref05_within n H n_ 0 (w64 ((d.Ribs.length : Int) - 1)) y2 hy2) rfl en_82 .none rfl ?_
 refine JL.assign .none rfl ?_
 refine JL.done hQ (JQ.go (JC.ret ?_))
 obtain rfl := Option.some.inj hF
 exact JQ.outS rfl (.tmp .nil) rfl
-- 93 ferrule/ferruleref13.Check
def F_ref13_Check_s1 (n : Nat) (r : Run) : Int → Option (Int ⊕ (Int ⊕ Unit))
 | i_117 => if decide (i_117 < (r.Blows.length : Int)) = true then ((geti r.Blows i_117).bind fun y122 => (F_ref05_IsRib n r.Canopy y122.At).bind fun y128 => (if (!y128) = true then (some true) else ((F_ref13_within n y122.Force.Low 0 y122.Force.High).bind fun y133 => some (!y133)) : Option Bool).bind fun p130 => if ((p130 || (decide (99 < y122.Force.High))) || (decide (9 < (w64 (y122.Force.High - y122.Force.Low))))) = true then (some (Sum.inr (Sum.inl 130))) else (some (Sum.inl (w64 (i_117 + 1))))) else (some (Sum.inr (Sum.inr ())))
def F_ref13_Check_s2 (n : Nat) (r : Run) : Int → Option (Int ⊕ (Int ⊕ Unit))
 | i_268 => if decide (i_268 < (r.Meters.length : Int)) = true then ((geti r.Meters i_268).bind fun y273 => (F_ref13_within n y273.Limit 0 99).bind fun y278 => (if (!y278) = true then (some true) else ((geti r.Meters i_268).bind fun y288 => (F_ref13_within n y288.Count 0 8).bind fun y293 => some (!y293)) : Option Bool).bind fun p285 => if p285 = true then (some (Sum.inr (Sum.inl 130))) else (some (Sum.inl (w64 (i_268 + 1))))) else (some (Sum.inr (Sum.inr ())))
def F_ref13_Check (n : Nat) (r : Run) : Option Int :=
 (F_ref05_Check n r.Canopy).bind fun y2 => (if (((y2 != 0) || (decide (8 < (r.Blows.length : Int)))) || (decide (5 < (r.Meters.length : Int)))) = true then (some true) else ((F_ref13_within n r.Wrong 0 5).bind fun y11 => some (!y11)) : Option Bool).bind fun p8 => if p8 = true then (some 130) else ((loopO n (F_ref13_Check_s1 n r) 0).bind fun r76 => match r76 with | .inl o => some o | .inr _ => (loopO n (F_ref13_Check_s2 n r) 0).bind fun r217 => match r217 with | .inl o => some o | .inr _ => some 0)
theorem c_ref13_Check (n : Nat) (H : Hp) (r : Run) (r_v0 : Value) (hr_0 : SL H 7 R_Section r_v0 r.Canopy.Frame.Sections) (r_v7 : Value) (hr_7 : SL H 2 R_Span r_v7 r.Canopy.Ribs) (r_v8 : Value) (hr_8 : SL H 1 RInt r_v8 r.Canopy.Shares) (r_v9 : Value) (hr_9 : SL H 3 R_Blow r_v9 r.Blows) (r_v10 : Value) (hr_10 : SL H 2 R_Meter r_v10 r.Meters) (y : Int) (hF : F_ref13_Check n r = some y) : SC Try.prog 93 [.agg [r_v0, .int .i64 r.Canopy.Frame.Low, .int .i64 r.Canopy.Frame.High, .int .i64 r.Canopy.Frame.Ease.Num, .int .i64 r.Canopy.Frame.Ease.Den, .int .i64 r.Canopy.Frame.Rod, .int .i64 r.Canopy.Frame.Case, r_v7, r_v8, r_v9, r_v10, .int .i64 r.Wrong].toArray] (.int .i64 y) H := by
 rw [F_ref13_Check] at hF
 refine SC.of (N := 97) Try.func93 rfl rfl rfl fun w => ?_
 refine JC.seq (JC.region (by rfl) ?_)
 intro hQ
 refine JL.box (cs := [r_v0, .int .i64 r.Canopy.Frame.Low, .int .i64 r.Canopy.Frame.High, .int .i64 r.Canopy.Frame.Ease.Num, .int .i64 r.Canopy.Frame.Ease.Den, .int .i64 r.Canopy.Frame.Rod, .int .i64 r.Canopy.Frame.Case, r_v7, r_v8, r_v9, r_v10, .int .i64 r.Wrong]) rfl .none rfl ?_
 intro b1
 refine JL.assign .none rfl ?_
 refine JL.done hQ (JQ.go (JC.seq (JC.seq (JC.region (by rfl) ?_))))
 intro hQ
 refine JL.fieldAddr fo_90_0 rfl .none rfl ?_
 refine JL.loadOwn 0 az_76 rfl rfl rfl .none rfl ?_
 obtain ⟨y2, hy2, hF⟩ := bind_some hF
 refine JL.callS (c_ref05_Check n H r.Canopy r_v0 hr_0 r_v7 hr_7 r_v8 hr_8 y2 hy2) rfl en_33 .none rfl ?_
 refine JL.bin rfl rfl rfl .none rfl ?_
 refine JL.move .none rfl ?_
 refine JL.cut 5 (fun f => f 1 = .pointer (some ⟨b1, 0, none⟩) ∧ f 15 = .bool ((y2 != 0) || (decide (8 < (r.Blows.length : Int))))) ?_ ?_
 ·intro hJ3
  rcases bcases (y2 != 0) with hc4 | hc4
  ·skip
   refine JL.skip (.bool rfl rfl rfl hc4) rfl ?_
   refine JL.skip (.bool rfl rfl rfl hc4) rfl ?_
   refine JL.skip (.bool rfl rfl rfl hc4) rfl ?_
   refine JL.skip (.bool rfl rfl rfl hc4) rfl ?_
   refine JL.pick_t (b := (y2 != 0)) rfl hc4 .none rfl ?_
   exact hJ3 _ ⟨rfl, or_t hc4 rfl⟩
  ·skip
   refine JL.fieldAddr fo_90_1 rfl (.some rfl rfl rfl hc4) rfl ?_
   refine JL.loadOwn 0 az_87 rfl rfl rfl (.some rfl rfl rfl hc4) rfl ?_
   refine JL.lenSL (R := R_Blow) ul_87 hr_9 (.some rfl rfl rfl hc4) rfl ?_
   refine JL.bin rfl rfl rfl (.some rfl rfl rfl hc4) rfl ?_
   refine JL.pick_f (b := (y2 != 0)) rfl hc4 .none rfl ?_
   exact hJ3 _ ⟨rfl, or_f hc4 rfl⟩
 ·rintro f ⟨hf1, hf15⟩
  refine (JL.norm (i := 1) hf1 (JL.norm (i := 15) hf15 ?_))
  refine JL.move .none rfl ?_
  refine JL.cut 5 (fun f => f 1 = .pointer (some ⟨b1, 0, none⟩) ∧ f 21 = .bool (((y2 != 0) || (decide (8 < (r.Blows.length : Int)))) || (decide (5 < (r.Meters.length : Int))))) ?_ ?_
  ·intro hJ5
   rcases bcases ((y2 != 0) || (decide (8 < (r.Blows.length : Int)))) with hc6 | hc6
   ·skip
    refine JL.skip (.bool rfl rfl rfl hc6) rfl ?_
    refine JL.skip (.bool rfl rfl rfl hc6) rfl ?_
    refine JL.skip (.bool rfl rfl rfl hc6) rfl ?_
    refine JL.skip (.bool rfl rfl rfl hc6) rfl ?_
    refine JL.pick_t (b := ((y2 != 0) || (decide (8 < (r.Blows.length : Int))))) rfl hc6 .none rfl ?_
    exact hJ5 _ ⟨rfl, or_t hc6 rfl⟩
   ·skip
    refine JL.fieldAddr fo_90_2 rfl (.some rfl rfl rfl hc6) rfl ?_
    refine JL.loadOwn 0 az_88 rfl rfl rfl (.some rfl rfl rfl hc6) rfl ?_
    refine JL.lenSL (R := R_Meter) ul_88 hr_10 (.some rfl rfl rfl hc6) rfl ?_
    refine JL.bin rfl rfl rfl (.some rfl rfl rfl hc6) rfl ?_
    refine JL.pick_f (b := ((y2 != 0) || (decide (8 < (r.Blows.length : Int))))) rfl hc6 .none rfl ?_
    exact hJ5 _ ⟨rfl, or_f hc6 rfl⟩
  ·rintro f ⟨hf1, hf21⟩
   refine (JL.norm (i := 1) hf1 (JL.norm (i := 21) hf21 ?_))
   refine JL.move .none rfl ?_
   obtain ⟨p8, hp8, hF⟩ := bind_some hF
   refine JL.cut 5 (fun f => f 1 = .pointer (some ⟨b1, 0, none⟩) ∧ f 27 = .bool p8) ?_ ?_
   ·intro hJ9
    rcases ite_some hp8 with ⟨hc10, hF⟩ | ⟨hc10, hF⟩
    ·skip
     refine JL.skip (.bool rfl rfl rfl hc10) rfl ?_
     refine JL.skip (.bool rfl rfl rfl hc10) rfl ?_
     refine JL.skip (.bool rfl rfl rfl hc10) rfl ?_
     refine JL.skip (.bool rfl rfl rfl hc10) rfl ?_
     refine JL.pick_t (b := (((y2 != 0) || (decide (8 < (r.Blows.length : Int)))) || (decide (5 < (r.Meters.length : Int))))) rfl hc10 .none rfl ?_
     obtain rfl := Option.some.inj hF
     exact hJ9 _ ⟨rfl, rfl⟩
    ·skip
     refine JL.fieldAddr fo_90_3 rfl (.some rfl rfl rfl hc10) rfl ?_
     refine JL.loadOwn 0 az_3 rfl rfl rfl (.some rfl rfl rfl hc10) rfl ?_
     obtain ⟨y11, hy11, hF⟩ := bind_some hF
     refine JL.callS (c_ref13_within n H r.Wrong 0 5 y11 hy11) rfl en_146 (.some rfl rfl rfl hc10) rfl ?_
     refine JL.not rfl (.some rfl rfl rfl hc10) rfl ?_
     refine JL.pick_f (b := (((y2 != 0) || (decide (8 < (r.Blows.length : Int)))) || (decide (5 < (r.Meters.length : Int))))) rfl hc10 .none rfl ?_
     obtain rfl := Option.some.inj hF
     exact hJ9 _ ⟨rfl, rfl⟩
   ·rintro f ⟨hf1, hf27⟩
    refine (JL.norm (i := 1) hf1 (JL.norm (i := 27) hf27 ?_))
    refine JL.done hQ (JQ.go ?_)
    rcases ite_some hF with ⟨hc12, hF⟩ | ⟨hc12, hF⟩
    ·refine JC.cond_t (b := p8) rfl hc12 ?_
     refine JC.seq (JC.region (by rfl) ?_)
     intro hQ
     refine JL.assign .none rfl ?_
     refine JL.done hQ (JQ.go (JC.ret (JQ.ret_then ?_)))
     obtain rfl := Option.some.inj hF
     exact JQ.outS rfl (.tmp .nil) rfl
    ·refine JC.cond_f (b := p8) rfl hc12 ?_
     refine JC.skip (JQ.go (JC.seq (JC.seq (JC.region (by rfl) ?_))))
     intro hQ
     refine JL.assign .none rfl ?_
     refine JL.done hQ (JQ.go ?_)
     obtain ⟨r76, hlr76, hKr76⟩ := bind_some hF
     refine JC.join (fun (_ : Unit) H75 f bs gs => f 1 = .pointer (some ⟨b1, 0, none⟩) ∧ bs = [(b1, .cells [r_v0, .int .i64 r.Canopy.Frame.Low, .int .i64 r.Canopy.Frame.High, .int .i64 r.Canopy.Frame.Ease.Num, .int .i64 r.Canopy.Frame.Ease.Den, .int .i64 r.Canopy.Frame.Rod, .int .i64 r.Canopy.Frame.Case, r_v7, r_v8, r_v9, r_v10, .int .i64 r.Wrong].toArray 90)] ∧ gs = [] ∧ HSub H H75 ∧ Sum.inr () = r76) ?_ ?_
     ·skip
      refine JC.block (JC.loop hlr76 (fun (i_117 : Int) H118 f bs gs => f 1 = .pointer (some ⟨b1, 0, none⟩) ∧ f 3 = .int .i64 i_117 ∧ bs = [(b1, .cells [r_v0, .int .i64 r.Canopy.Frame.Low, .int .i64 r.Canopy.Frame.High, .int .i64 r.Canopy.Frame.Ease.Num, .int .i64 r.Canopy.Frame.Ease.Den, .int .i64 r.Canopy.Frame.Rod, .int .i64 r.Canopy.Frame.Case, r_v7, r_v8, r_v9, r_v10, .int .i64 r.Wrong].toArray 90)] ∧ gs = [] ∧ HSub H H118) ⟨rfl, rfl, rfl, rfl, (HSub.refl _)⟩ ?_)
      rintro i_117 x120 H118 f bs gs ⟨hf1, hf3, rfl, rfl, hs118⟩ hF hr119
      rw [F_ref13_Check_s1] at hF
      refine (JC.norm (i := 1) hf1 (JC.norm (i := 3) hf3 ?_))
      refine JC.seq (JC.seq (JC.region (by rfl) ?_))
      intro hQ
      refine JL.move .none rfl ?_
      refine JL.fieldAddr fo_90_1 rfl .none rfl ?_
      refine JL.loadOwn 0 az_87 rfl rfl rfl .none rfl ?_
      refine JL.lenSL (R := R_Blow) ul_87 (SL.mono R_Blow_mono hs118 hr_9) .none rfl ?_
      refine JL.bin rfl rfl rfl .none rfl ?_
      refine JL.done hQ (JQ.go ?_)
      rcases ite_some hF with ⟨hc121, hF⟩ | ⟨hc121, hF⟩
      ·refine JC.cond_t (b := decide (i_117 < (r.Blows.length : Int))) rfl hc121 ?_
       refine JC.skip (JQ.go (JC.seq (JC.block (JC.seq (JC.region (by rfl) ?_)))))
       intro hQ
       refine JL.fieldAddr fo_90_1 rfl .none rfl ?_
       refine JL.loadOwn 0 az_87 rfl rfl rfl .none rfl ?_
       refine JL.move .none rfl ?_
       obtain ⟨y122, hy122, hF⟩ := bind_some hF
       refine JL.indexSL (R := R_Blow) sl_87 (SL.mono R_Blow_mono hs118 hr_9) rfl hy122 .none rfl ?_
       rintro b123 o124 cs125 hc126 - rfl
       refine JL.loadH 0 az_98 rfl hc126 rfl .none rfl ?_
       refine JL.alloc ze_98 .none rfl ?_
       intro b127
       refine JL.storeOwn 0 (cs := [.int .i64 y122.At, .int .i64 y122.Force.Low, .int .i64 y122.Force.High]) az_98 rfl rfl rfl (one_cons rfl (one_cons rfl (one_cons rfl one_nil))) rfl rfl .none ?_
       refine JL.done hQ (JQ.go (JC.seq (JC.region (by rfl) ?_)))
       intro hQ
       refine JL.fieldAddr fo_90_0 rfl .none rfl ?_
       refine JL.loadOwn 1 az_76 rfl rfl rfl .none rfl ?_
       refine JL.fieldAddr fo_98_0 rfl .none rfl ?_
       refine JL.loadOwn 0 az_3 rfl rfl rfl .none rfl ?_
       obtain ⟨y128, hy128, hF⟩ := bind_some hF
       refine JL.callS (c_ref05_IsRib n H118 r.Canopy r_v0 (SL.mono R_Section_mono hs118 hr_0) r_v7 (SL.mono R_Span_mono hs118 hr_7) r_v8 (SL.mono RInt.mono hs118 hr_8) y122.At y128 hy128) rfl en_34 .none rfl ?_
       refine JL.not rfl .none rfl ?_
       refine JL.move .none rfl ?_
       obtain ⟨p130, hp130, hF⟩ := bind_some hF
       refine JL.cut 9 (fun f => f 1 = .pointer (some ⟨b1, 0, none⟩) ∧ f 3 = .int .i64 i_117 ∧ f 4 = .pointer (some ⟨b127, 0, none⟩) ∧ f 55 = .bool p130) ?_ ?_
       ·intro hJ131
        rcases ite_some hp130 with ⟨hc132, hF⟩ | ⟨hc132, hF⟩
        ·skip
         refine JL.skip (.bool rfl rfl rfl hc132) rfl ?_
         refine JL.skip (.bool rfl rfl rfl hc132) rfl ?_
         refine JL.skip (.bool rfl rfl rfl hc132) rfl ?_
         refine JL.skip (.bool rfl rfl rfl hc132) rfl ?_
         refine JL.skip (.bool rfl rfl rfl hc132) rfl ?_
         refine JL.skip (.bool rfl rfl rfl hc132) rfl ?_
         refine JL.skip (.bool rfl rfl rfl hc132) rfl ?_
         refine JL.skip (.bool rfl rfl rfl hc132) rfl ?_
         refine JL.pick_t (b := (!y128)) rfl hc132 .none rfl ?_
         obtain rfl := Option.some.inj hF
         exact hJ131 _ ⟨rfl, rfl, rfl, rfl⟩
        ·skip
         refine JL.fieldAddr fo_98_1 rfl (.some rfl rfl rfl hc132) rfl ?_
         refine JL.fieldAddr fo_39_0 rfl (.some rfl rfl rfl hc132) rfl ?_
         refine JL.loadOwn 0 az_3 rfl rfl rfl (.some rfl rfl rfl hc132) rfl ?_
         refine JL.fieldAddr fo_98_1 rfl (.some rfl rfl rfl hc132) rfl ?_
         refine JL.fieldAddr fo_39_1 rfl (.some rfl rfl rfl hc132) rfl ?_
         refine JL.loadOwn 0 az_3 rfl rfl rfl (.some rfl rfl rfl hc132) rfl ?_
         obtain ⟨y133, hy133, hF⟩ := bind_some hF
         refine JL.callS (c_ref13_within n H118 y122.Force.Low 0 y122.Force.High y133 hy133) rfl en_146 (.some rfl rfl rfl hc132) rfl ?_
         refine JL.not rfl (.some rfl rfl rfl hc132) rfl ?_
         refine JL.pick_f (b := (!y128)) rfl hc132 .none rfl ?_
         obtain rfl := Option.some.inj hF
         exact hJ131 _ ⟨rfl, rfl, rfl, rfl⟩
       ·rintro f ⟨hf1, hf3, hf4, hf55⟩
        refine (JL.norm (i := 1) hf1 (JL.norm (i := 3) hf3 (JL.norm (i := 4) hf4 (JL.norm (i := 55) hf55 ?_))))
        refine JL.move .none rfl ?_
        refine JL.cut 5 (fun f => f 1 = .pointer (some ⟨b1, 0, none⟩) ∧ f 3 = .int .i64 i_117 ∧ f 4 = .pointer (some ⟨b127, 0, none⟩) ∧ f 61 = .bool (p130 || (decide (99 < y122.Force.High)))) ?_ ?_
        ·intro hJ134
         rcases bcases p130 with hc135 | hc135
         ·skip
          refine JL.skip (.bool rfl rfl rfl hc135) rfl ?_
          refine JL.skip (.bool rfl rfl rfl hc135) rfl ?_
          refine JL.skip (.bool rfl rfl rfl hc135) rfl ?_
          refine JL.skip (.bool rfl rfl rfl hc135) rfl ?_
          refine JL.pick_t (b := p130) rfl hc135 .none rfl ?_
          exact hJ134 _ ⟨rfl, rfl, rfl, or_t hc135 rfl⟩
         ·skip
          refine JL.fieldAddr fo_98_1 rfl (.some rfl rfl rfl hc135) rfl ?_
          refine JL.fieldAddr fo_39_1 rfl (.some rfl rfl rfl hc135) rfl ?_
          refine JL.loadOwn 0 az_3 rfl rfl rfl (.some rfl rfl rfl hc135) rfl ?_
          refine JL.bin rfl rfl rfl (.some rfl rfl rfl hc135) rfl ?_
          refine JL.pick_f (b := p130) rfl hc135 .none rfl ?_
          exact hJ134 _ ⟨rfl, rfl, rfl, or_f hc135 rfl⟩
        ·rintro f ⟨hf1, hf3, hf4, hf61⟩
         refine (JL.norm (i := 1) hf1 (JL.norm (i := 3) hf3 (JL.norm (i := 4) hf4 (JL.norm (i := 61) hf61 ?_))))
         refine JL.move .none rfl ?_
         refine JL.cut 9 (fun f => f 1 = .pointer (some ⟨b1, 0, none⟩) ∧ f 3 = .int .i64 i_117 ∧ f 71 = .bool ((p130 || (decide (99 < y122.Force.High))) || (decide (9 < (w64 (y122.Force.High - y122.Force.Low)))))) ?_ ?_
         ·intro hJ136
          rcases bcases (p130 || (decide (99 < y122.Force.High))) with hc137 | hc137
          ·skip
           refine JL.skip (.bool rfl rfl rfl hc137) rfl ?_
           refine JL.skip (.bool rfl rfl rfl hc137) rfl ?_
           refine JL.skip (.bool rfl rfl rfl hc137) rfl ?_
           refine JL.skip (.bool rfl rfl rfl hc137) rfl ?_
           refine JL.skip (.bool rfl rfl rfl hc137) rfl ?_
           refine JL.skip (.bool rfl rfl rfl hc137) rfl ?_
           refine JL.skip (.bool rfl rfl rfl hc137) rfl ?_
           refine JL.skip (.bool rfl rfl rfl hc137) rfl ?_
           refine JL.pick_t (b := (p130 || (decide (99 < y122.Force.High)))) rfl hc137 .none rfl ?_
           exact hJ136 _ ⟨rfl, rfl, or_t hc137 rfl⟩
          ·skip
           refine JL.fieldAddr fo_98_1 rfl (.some rfl rfl rfl hc137) rfl ?_
           refine JL.fieldAddr fo_39_1 rfl (.some rfl rfl rfl hc137) rfl ?_
           refine JL.loadOwn 0 az_3 rfl rfl rfl (.some rfl rfl rfl hc137) rfl ?_
           refine JL.fieldAddr fo_98_1 rfl (.some rfl rfl rfl hc137) rfl ?_
           refine JL.fieldAddr fo_39_0 rfl (.some rfl rfl rfl hc137) rfl ?_
           refine JL.loadOwn 0 az_3 rfl rfl rfl (.some rfl rfl rfl hc137) rfl ?_
           refine JL.bin rfl rfl rfl (.some rfl rfl rfl hc137) rfl ?_
           refine JL.bin rfl rfl rfl (.some rfl rfl rfl hc137) rfl ?_
           refine JL.pick_f (b := (p130 || (decide (99 < y122.Force.High)))) rfl hc137 .none rfl ?_
           exact hJ136 _ ⟨rfl, rfl, or_f hc137 rfl⟩
         ·rintro f ⟨hf1, hf3, hf71⟩
          refine (JL.norm (i := 1) hf1 (JL.norm (i := 3) hf3 (JL.norm (i := 71) hf71 ?_)))
          refine JL.done hQ (JQ.go ?_)
          rcases ite_some hF with ⟨hc138, hF⟩ | ⟨hc138, hF⟩
          ·refine JC.cond_t (b := ((p130 || (decide (99 < y122.Force.High))) || (decide (9 < (w64 (y122.Force.High - y122.Force.Low)))))) rfl hc138 ?_
           refine JC.seq (JC.region (by rfl) ?_)
           intro hQ
           refine JL.assign .none rfl ?_
           refine JL.done hQ (JQ.go (JC.ret (JQ.ret_block (JQ.ret_then (JQ.ret_then (JQ.ret_block (JQ.ret_join (JQ.ret_then ?_))))))))
           obtain rfl := Option.some.inj hF
           have ehr119 := hr119 _ rfl
           subst ehr119
           have hF := hKr76
           try dsimp only at hF
           obtain rfl := Option.some.inj hF
           exact JQ.outS rfl (.tmp .nil) rfl
          ·refine JC.cond_f (b := ((p130 || (decide (99 < y122.Force.High))) || (decide (9 < (w64 (y122.Force.High - y122.Force.Low)))))) rfl hc138 ?_
           refine JC.skip (JQ.normal_block (JQ.go (JC.region (by rfl) ?_)))
           intro hQ
           refine JL.move .none rfl ?_
           refine JL.bin rfl rfl rfl .none rfl ?_
           refine JL.assign .none rfl ?_
           refine JL.done hQ ?_
           obtain rfl := Option.some.inj hF
           refine JQ.mask [false, true] [] ?_
           exact JQ.next rfl ⟨rfl, rfl, rfl, rfl, hs118⟩
      ·refine JC.cond_f (b := decide (i_117 < (r.Blows.length : Int))) rfl hc121 ?_
       refine JC.exit (JQ.exit_then (JQ.exit_then (JQ.exit_block ?_)))
       obtain rfl := Option.some.inj hF
       have ehr119 := hr119 _ rfl
       subst ehr119
       exact JQ.join () ⟨rfl, rfl, rfl, hs118, rfl⟩
     ·rintro _ H75 f bs gs ⟨hf1, rfl, rfl, hs75, rfl⟩
      have hF := hKr76
      try dsimp only at hF
      refine (JQ.norm (i := 1) hf1 ?_)
      refine JQ.go (JC.seq (JC.seq (JC.region (by rfl) ?_)))
      intro hQ
      refine JL.assign .none rfl ?_
      refine JL.done hQ (JQ.go ?_)
      obtain ⟨r217, hlr217, hKr217⟩ := bind_some hF
      refine JC.join (fun (_ : Unit) H216 f bs gs => bs = [] ∧ gs = [] ∧ HSub H75 H216 ∧ Sum.inr () = r217) ?_ ?_
      ·skip
       refine JC.block (JC.loop hlr217 (fun (i_268 : Int) H269 f bs gs => f 1 = .pointer (some ⟨b1, 0, none⟩) ∧ f 5 = .int .i64 i_268 ∧ bs = [(b1, .cells [r_v0, .int .i64 r.Canopy.Frame.Low, .int .i64 r.Canopy.Frame.High, .int .i64 r.Canopy.Frame.Ease.Num, .int .i64 r.Canopy.Frame.Ease.Den, .int .i64 r.Canopy.Frame.Rod, .int .i64 r.Canopy.Frame.Case, r_v7, r_v8, r_v9, r_v10, .int .i64 r.Wrong].toArray 90)] ∧ gs = [] ∧ HSub H75 H269) ⟨rfl, rfl, rfl, rfl, (HSub.refl _)⟩ ?_)
       rintro i_268 x271 H269 f bs gs ⟨hf1, hf5, rfl, rfl, hs269⟩ hF hr270
       rw [F_ref13_Check_s2] at hF
       refine (JC.norm (i := 1) hf1 (JC.norm (i := 5) hf5 ?_))
       refine JC.seq (JC.seq (JC.region (by rfl) ?_))
       intro hQ
       refine JL.move .none rfl ?_
       refine JL.fieldAddr fo_90_2 rfl .none rfl ?_
       refine JL.loadOwn 0 az_88 rfl rfl rfl .none rfl ?_
       refine JL.lenSL (R := R_Meter) ul_88 (SL.mono R_Meter_mono (HSub.trans hs75 hs269) hr_10) .none rfl ?_
       refine JL.bin rfl rfl rfl .none rfl ?_
       refine JL.done hQ (JQ.go ?_)
       rcases ite_some hF with ⟨hc272, hF⟩ | ⟨hc272, hF⟩
       ·refine JC.cond_t (b := decide (i_268 < (r.Meters.length : Int))) rfl hc272 ?_
        refine JC.skip (JQ.go (JC.seq (JC.block (JC.seq (JC.region (by rfl) ?_)))))
        intro hQ
        refine JL.fieldAddr fo_90_2 rfl .none rfl ?_
        refine JL.loadOwn 0 az_88 rfl rfl rfl .none rfl ?_
        refine JL.move .none rfl ?_
        obtain ⟨y273, hy273, hF⟩ := bind_some hF
        refine JL.indexSL (R := R_Meter) sl_88 (SL.mono R_Meter_mono (HSub.trans hs75 hs269) hr_10) rfl hy273 .none rfl ?_
        rintro b274 o275 cs276 hc277 - rfl
        refine JL.fieldAddr fo_206_0 rfl .none rfl ?_
        refine JL.loadH 0 az_3 rfl hc277 rfl .none rfl ?_
        obtain ⟨y278, hy278, hF⟩ := bind_some hF
        refine JL.callS (c_ref13_within n H269 y273.Limit 0 99 y278 hy278) rfl en_146 .none rfl ?_
        refine JL.not rfl .none rfl ?_
        refine JL.move .none rfl ?_
        obtain ⟨p285, hp285, hF⟩ := bind_some hF
        refine JL.cut 9 (fun f => f 1 = .pointer (some ⟨b1, 0, none⟩) ∧ f 5 = .int .i64 i_268 ∧ f 96 = .bool p285) ?_ ?_
        ·intro hJ286
         rcases ite_some hp285 with ⟨hc287, hF⟩ | ⟨hc287, hF⟩
         ·skip
          refine JL.skip (.bool rfl rfl rfl hc287) rfl ?_
          refine JL.skip (.bool rfl rfl rfl hc287) rfl ?_
          refine JL.skip (.bool rfl rfl rfl hc287) rfl ?_
          refine JL.skip (.bool rfl rfl rfl hc287) rfl ?_
          refine JL.skip (.bool rfl rfl rfl hc287) rfl ?_
          refine JL.skip (.bool rfl rfl rfl hc287) rfl ?_
          refine JL.skip (.bool rfl rfl rfl hc287) rfl ?_
          refine JL.skip (.bool rfl rfl rfl hc287) rfl ?_
          refine JL.pick_t (b := (!y278)) rfl hc287 .none rfl ?_
          obtain rfl := Option.some.inj hF
          exact hJ286 _ ⟨rfl, rfl, rfl⟩
         ·skip
          refine JL.fieldAddr fo_90_2 rfl (.some rfl rfl rfl hc287) rfl ?_
          refine JL.loadOwn 0 az_88 rfl rfl rfl (.some rfl rfl rfl hc287) rfl ?_
          refine JL.move (.some rfl rfl rfl hc287) rfl ?_
          obtain ⟨y288, hy288, hF⟩ := bind_some hF
          refine JL.indexSL (R := R_Meter) sl_88 (SL.mono R_Meter_mono (HSub.trans hs75 hs269) hr_10) rfl hy288 (.some rfl rfl rfl hc287) rfl ?_
          rintro b289 o290 cs291 hc292 - rfl
          refine JL.fieldAddr fo_206_1 rfl (.some rfl rfl rfl hc287) rfl ?_
          refine JL.loadH 1 az_3 rfl hc292 rfl (.some rfl rfl rfl hc287) rfl ?_
          obtain ⟨y293, hy293, hF⟩ := bind_some hF
          refine JL.callS (c_ref13_within n H269 y288.Count 0 8 y293 hy293) rfl en_146 (.some rfl rfl rfl hc287) rfl ?_
          refine JL.not rfl (.some rfl rfl rfl hc287) rfl ?_
          refine JL.pick_f (b := (!y278)) rfl hc287 .none rfl ?_
          obtain rfl := Option.some.inj hF
          exact hJ286 _ ⟨rfl, rfl, rfl⟩
        ·rintro f ⟨hf1, hf5, hf96⟩
         refine (JL.norm (i := 1) hf1 (JL.norm (i := 5) hf5 (JL.norm (i := 96) hf96 ?_)))
         refine JL.done hQ (JQ.go ?_)
         rcases ite_some hF with ⟨hc294, hF⟩ | ⟨hc294, hF⟩
         ·refine JC.cond_t (b := p285) rfl hc294 ?_
          refine JC.seq (JC.region (by rfl) ?_)
          intro hQ
          refine JL.assign .none rfl ?_
          refine JL.done hQ (JQ.go (JC.ret (JQ.ret_block (JQ.ret_then (JQ.ret_then (JQ.ret_block (JQ.ret_join (JQ.ret_then ?_))))))))
          obtain rfl := Option.some.inj hF
          have ehr270 := hr270 _ rfl
          subst ehr270
          have hF := hKr217
          try dsimp only at hF
          obtain rfl := Option.some.inj hF
          exact JQ.outS rfl (.tmp .nil) rfl
         ·refine JC.cond_f (b := p285) rfl hc294 ?_
          refine JC.skip (JQ.normal_block (JQ.go (JC.region (by rfl) ?_)))
          intro hQ
          refine JL.move .none rfl ?_
          refine JL.bin rfl rfl rfl .none rfl ?_
          refine JL.assign .none rfl ?_
          refine JL.done hQ ?_
          obtain rfl := Option.some.inj hF
          exact JQ.next rfl ⟨rfl, rfl, rfl, rfl, hs269⟩
       ·refine JC.cond_f (b := decide (i_268 < (r.Meters.length : Int))) rfl hc272 ?_
        refine JC.exit (JQ.exit_then (JQ.exit_then (JQ.exit_block ?_)))
        obtain rfl := Option.some.inj hF
        have ehr270 := hr270 _ rfl
        subst ehr270
        refine JQ.mask [false] [] ?_
        exact JQ.join () ⟨rfl, rfl, hs269, rfl⟩
      ·rintro _ H216 f bs gs ⟨rfl, rfl, hs216, rfl⟩
       have hF := hKr217
       try dsimp only at hF
       refine JQ.go (JC.seq (JC.region (by rfl) ?_))
       intro hQ
       refine JL.assign .none rfl ?_
       refine JL.done hQ (JQ.go (JC.ret ?_))
       obtain rfl := Option.some.inj hF
       exact JQ.outS rfl (.tmp .nil) rfl
-- 92 ferrule/ferrulelaw13.Far
def F_law13_Far_s1 (n : Nat) (r : Run) : Int × Int → Option ((Int × Int) ⊕ (Bool ⊕ Unit))
 | (n_139, i_140) => if decide (i_140 < (r.Blows.length : Int)) = true then ((geti r.Blows i_140).bind fun y155 => (geti r.Blows i_140).bind fun y160 => if decide (600 < (w64 (n_139 * (w64 ((w64 (y155.Force.High - y160.Force.Low)) + 1))))) = true then (some (Sum.inr (Sum.inl true))) else (some (Sum.inl ((w64 (n_139 * (w64 ((w64 (y155.Force.High - y160.Force.Low)) + 1)))), (w64 (i_140 + 1)))))) else (some (Sum.inr (Sum.inr ())))
def F_law13_Far (n : Nat) (r : Run) : Option Bool :=
 (F_law05_Far n r.Canopy).bind fun y2 => if ((y2 || (decide (40 < (r.Blows.length : Int)))) || (decide (40 < (r.Meters.length : Int)))) = true then (some true) else ((F_ref13_Check n r).bind fun y8 => if (y8 != 0) = true then (some false) else ((loopO n (F_law13_Far_s1 n r) (1, 0)).bind fun r88 => match r88 with | .inl o => some o | .inr _ => some false))
theorem c_law13_Far (n : Nat) (H : Hp) (r : Run) (r_v0 : Value) (hr_0 : SL H 7 R_Section r_v0 r.Canopy.Frame.Sections) (r_v7 : Value) (hr_7 : SL H 2 R_Span r_v7 r.Canopy.Ribs) (r_v8 : Value) (hr_8 : SL H 1 RInt r_v8 r.Canopy.Shares) (r_v9 : Value) (hr_9 : SL H 3 R_Blow r_v9 r.Blows) (r_v10 : Value) (hr_10 : SL H 2 R_Meter r_v10 r.Meters) (y : Bool) (hF : F_law13_Far n r = some y) : SC Try.prog 92 [.agg [r_v0, .int .i64 r.Canopy.Frame.Low, .int .i64 r.Canopy.Frame.High, .int .i64 r.Canopy.Frame.Ease.Num, .int .i64 r.Canopy.Frame.Ease.Den, .int .i64 r.Canopy.Frame.Rod, .int .i64 r.Canopy.Frame.Case, r_v7, r_v8, r_v9, r_v10, .int .i64 r.Wrong].toArray] (.bool y) H := by
 rw [F_law13_Far] at hF
 refine SC.of (N := 50) Try.func92 rfl rfl rfl fun w => ?_
 refine JC.seq (JC.region (by rfl) ?_)
 intro hQ
 refine JL.box (cs := [r_v0, .int .i64 r.Canopy.Frame.Low, .int .i64 r.Canopy.Frame.High, .int .i64 r.Canopy.Frame.Ease.Num, .int .i64 r.Canopy.Frame.Ease.Den, .int .i64 r.Canopy.Frame.Rod, .int .i64 r.Canopy.Frame.Case, r_v7, r_v8, r_v9, r_v10, .int .i64 r.Wrong]) rfl .none rfl ?_
 intro b1
 refine JL.assign .none rfl ?_
 refine JL.done hQ (JQ.go (JC.seq (JC.seq (JC.region (by rfl) ?_))))
 intro hQ
 refine JL.fieldAddr fo_90_0 rfl .none rfl ?_
 refine JL.loadOwn 0 az_76 rfl rfl rfl .none rfl ?_
 obtain ⟨y2, hy2, hF⟩ := bind_some hF
 refine JL.callS (c_law05_Far n H r.Canopy r_v0 hr_0 r_v7 hr_7 r_v8 hr_8 y2 hy2) rfl en_32 .none rfl ?_
 refine JL.move .none rfl ?_
 refine JL.cut 5 (fun f => f 1 = .pointer (some ⟨b1, 0, none⟩) ∧ f 13 = .bool (y2 || (decide (40 < (r.Blows.length : Int))))) ?_ ?_
 ·intro hJ3
  rcases bcases y2 with hc4 | hc4
  ·skip
   refine JL.skip (.bool rfl rfl rfl hc4) rfl ?_
   refine JL.skip (.bool rfl rfl rfl hc4) rfl ?_
   refine JL.skip (.bool rfl rfl rfl hc4) rfl ?_
   refine JL.skip (.bool rfl rfl rfl hc4) rfl ?_
   refine JL.pick_t (b := y2) rfl hc4 .none rfl ?_
   exact hJ3 _ ⟨rfl, or_t hc4 rfl⟩
  ·skip
   refine JL.fieldAddr fo_90_1 rfl (.some rfl rfl rfl hc4) rfl ?_
   refine JL.loadOwn 0 az_87 rfl rfl rfl (.some rfl rfl rfl hc4) rfl ?_
   refine JL.lenSL (R := R_Blow) ul_87 hr_9 (.some rfl rfl rfl hc4) rfl ?_
   refine JL.bin rfl rfl rfl (.some rfl rfl rfl hc4) rfl ?_
   refine JL.pick_f (b := y2) rfl hc4 .none rfl ?_
   exact hJ3 _ ⟨rfl, or_f hc4 rfl⟩
 ·rintro f ⟨hf1, hf13⟩
  refine (JL.norm (i := 1) hf1 (JL.norm (i := 13) hf13 ?_))
  refine JL.move .none rfl ?_
  refine JL.cut 5 (fun f => f 1 = .pointer (some ⟨b1, 0, none⟩) ∧ f 19 = .bool ((y2 || (decide (40 < (r.Blows.length : Int)))) || (decide (40 < (r.Meters.length : Int))))) ?_ ?_
  ·intro hJ5
   rcases bcases (y2 || (decide (40 < (r.Blows.length : Int)))) with hc6 | hc6
   ·skip
    refine JL.skip (.bool rfl rfl rfl hc6) rfl ?_
    refine JL.skip (.bool rfl rfl rfl hc6) rfl ?_
    refine JL.skip (.bool rfl rfl rfl hc6) rfl ?_
    refine JL.skip (.bool rfl rfl rfl hc6) rfl ?_
    refine JL.pick_t (b := (y2 || (decide (40 < (r.Blows.length : Int))))) rfl hc6 .none rfl ?_
    exact hJ5 _ ⟨rfl, or_t hc6 rfl⟩
   ·skip
    refine JL.fieldAddr fo_90_2 rfl (.some rfl rfl rfl hc6) rfl ?_
    refine JL.loadOwn 0 az_88 rfl rfl rfl (.some rfl rfl rfl hc6) rfl ?_
    refine JL.lenSL (R := R_Meter) ul_88 hr_10 (.some rfl rfl rfl hc6) rfl ?_
    refine JL.bin rfl rfl rfl (.some rfl rfl rfl hc6) rfl ?_
    refine JL.pick_f (b := (y2 || (decide (40 < (r.Blows.length : Int))))) rfl hc6 .none rfl ?_
    exact hJ5 _ ⟨rfl, or_f hc6 rfl⟩
  ·rintro f ⟨hf1, hf19⟩
   refine (JL.norm (i := 1) hf1 (JL.norm (i := 19) hf19 ?_))
   refine JL.done hQ (JQ.go ?_)
   rcases ite_some hF with ⟨hc7, hF⟩ | ⟨hc7, hF⟩
   ·refine JC.cond_t (b := ((y2 || (decide (40 < (r.Blows.length : Int)))) || (decide (40 < (r.Meters.length : Int))))) rfl hc7 ?_
    refine JC.seq (JC.region (by rfl) ?_)
    intro hQ
    refine JL.assign .none rfl ?_
    refine JL.done hQ (JQ.go (JC.ret (JQ.ret_then ?_)))
    obtain rfl := Option.some.inj hF
    exact JQ.outS rfl (.tmp .nil) rfl
   ·refine JC.cond_f (b := ((y2 || (decide (40 < (r.Blows.length : Int)))) || (decide (40 < (r.Meters.length : Int))))) rfl hc7 ?_
    refine JC.skip (JQ.go (JC.seq (JC.seq (JC.region (by rfl) ?_))))
    intro hQ
    refine JL.loadOwn 0 az_90 rfl rfl rfl .none rfl ?_
    obtain ⟨y8, hy8, hF⟩ := bind_some hF
    refine JL.callS (c_ref13_Check n H r r_v0 hr_0 r_v7 hr_7 r_v8 hr_8 r_v9 hr_9 r_v10 hr_10 y8 hy8) rfl en_93 .none rfl ?_
    refine JL.bin rfl rfl rfl .none rfl ?_
    refine JL.done hQ (JQ.go ?_)
    rcases ite_some hF with ⟨hc9, hF⟩ | ⟨hc9, hF⟩
    ·refine JC.cond_t (b := (y8 != 0)) rfl hc9 ?_
     refine JC.seq (JC.region (by rfl) ?_)
     intro hQ
     refine JL.assign .none rfl ?_
     refine JL.done hQ (JQ.go (JC.ret (JQ.ret_then ?_)))
     obtain rfl := Option.some.inj hF
     exact JQ.outS rfl (.tmp .nil) rfl
    ·refine JC.cond_f (b := (y8 != 0)) rfl hc9 ?_
     refine JC.skip (JQ.go (JC.seq (JC.region (by rfl) ?_)))
     intro hQ
     refine JL.assign .none rfl ?_
     refine JL.done hQ (JQ.go (JC.seq (JC.seq (JC.region (by rfl) ?_))))
     intro hQ
     refine JL.assign .none rfl ?_
     refine JL.done hQ (JQ.go ?_)
     obtain ⟨r88, hlr88, hKr88⟩ := bind_some hF
     refine JC.join (fun (_ : Unit) H87 f bs gs => bs = [] ∧ gs = [] ∧ HSub H H87 ∧ Sum.inr () = r88) ?_ ?_
     ·skip
      refine JC.block (JC.loop hlr88 (fun (x : Int × Int) H141 f bs gs => match x with | (n_139, i_140) => f 1 = .pointer (some ⟨b1, 0, none⟩) ∧ f 3 = .int .i64 n_139 ∧ f 4 = .int .i64 i_140 ∧ bs = [(b1, .cells [r_v0, .int .i64 r.Canopy.Frame.Low, .int .i64 r.Canopy.Frame.High, .int .i64 r.Canopy.Frame.Ease.Num, .int .i64 r.Canopy.Frame.Ease.Den, .int .i64 r.Canopy.Frame.Rod, .int .i64 r.Canopy.Frame.Case, r_v7, r_v8, r_v9, r_v10, .int .i64 r.Wrong].toArray 90)] ∧ gs = [] ∧ HSub H H141) ⟨rfl, rfl, rfl, rfl, rfl, (HSub.refl _)⟩ ?_)
      rintro ⟨n_139, i_140⟩ x143 H141 f bs gs ⟨hf1, hf3, hf4, rfl, rfl, hs141⟩ hF hr142
      rw [F_law13_Far_s1] at hF
      refine (JC.norm (i := 1) hf1 (JC.norm (i := 3) hf3 (JC.norm (i := 4) hf4 ?_)))
      refine JC.seq (JC.seq (JC.region (by rfl) ?_))
      intro hQ
      refine JL.move .none rfl ?_
      refine JL.fieldAddr fo_90_1 rfl .none rfl ?_
      refine JL.loadOwn 0 az_87 rfl rfl rfl .none rfl ?_
      refine JL.lenSL (R := R_Blow) ul_87 (SL.mono R_Blow_mono hs141 hr_9) .none rfl ?_
      refine JL.bin rfl rfl rfl .none rfl ?_
      refine JL.done hQ (JQ.go ?_)
      rcases ite_some hF with ⟨hc144, hF⟩ | ⟨hc144, hF⟩
      ·refine JC.cond_t (b := decide (i_140 < (r.Blows.length : Int))) rfl hc144 ?_
       refine JC.skip (JQ.go (JC.seq (JC.block (JC.seq (JC.draw (by rfl) mo_ (by kernel_rfl) ?_)))))
       intro hQ
       refine JL.move .none rfl ?_
       refine JL.fieldAddr fo_90_1 rfl .none rfl ?_
       refine JL.loadOwn 0 az_87 rfl rfl rfl .none rfl ?_
       refine JL.move .none rfl ?_
       obtain ⟨y155, hy155, hF⟩ := bind_some hF
       refine JL.indexSL (R := R_Blow) sl_87 (SL.mono R_Blow_mono hs141 hr_9) rfl hy155 .none rfl ?_
       rintro b156 o157 cs158 hc159 - rfl
       refine JL.fieldAddr fo_98_1 rfl .none rfl ?_
       refine JL.fieldAddr fo_39_1 rfl .none rfl ?_
       refine JL.loadH 2 az_3 rfl hc159 rfl .none rfl ?_
       refine JL.fieldAddr fo_90_1 rfl .none rfl ?_
       refine JL.loadOwn 0 az_87 rfl rfl rfl .none rfl ?_
       refine JL.move .none rfl ?_
       obtain ⟨y160, hy160, hF⟩ := bind_some hF
       refine JL.indexSL (R := R_Blow) sl_87 (SL.mono R_Blow_mono hs141 hr_9) rfl hy160 .none rfl ?_
       rintro b161 o162 cs163 hc164 - rfl
       refine JL.fieldAddr fo_98_1 rfl .none rfl ?_
       refine JL.fieldAddr fo_39_0 rfl .none rfl ?_
       refine JL.loadH 1 az_3 rfl hc164 rfl .none rfl ?_
       refine JL.bin rfl rfl rfl .none rfl ?_
       refine JL.bin rfl rfl rfl .none rfl ?_
       refine JL.bin rfl rfl rfl .none rfl ?_
       refine JL.assign .none rfl ?_
       refine JL.doneQ hQ ?_
       refine JQ.go (JC.fresh (fun f => f 1 = .pointer (some ⟨b1, 0, none⟩) ∧ f 3 = .int .i64 (w64 (n_139 * (w64 ((w64 (y155.Force.High - y160.Force.Low)) + 1)))) ∧ f 4 = .int .i64 i_140) ⟨rfl, rfl, rfl⟩ ?_)
       rintro f ⟨hf1, hf3, hf4⟩
       refine (JC.norm (i := 1) hf1 (JC.norm (i := 3) hf3 (JC.norm (i := 4) hf4 ?_)))
       refine JC.seq (JC.region (by rfl) ?_)
       intro hQ
       refine JL.move .none rfl ?_
       refine JL.bin rfl rfl rfl .none rfl ?_
       refine JL.done hQ (JQ.go ?_)
       rcases ite_some hF with ⟨hc165, hF⟩ | ⟨hc165, hF⟩
       ·refine JC.cond_t (b := decide (600 < (w64 (n_139 * (w64 ((w64 (y155.Force.High - y160.Force.Low)) + 1)))))) rfl hc165 ?_
        refine JC.seq (JC.region (by rfl) ?_)
        intro hQ
        refine JL.assign .none rfl ?_
        refine JL.done hQ (JQ.go (JC.ret (JQ.ret_block (JQ.ret_then (JQ.ret_then (JQ.ret_block (JQ.ret_join (JQ.ret_then ?_))))))))
        obtain rfl := Option.some.inj hF
        have ehr142 := hr142 _ rfl
        subst ehr142
        have hF := hKr88
        try dsimp only at hF
        obtain rfl := Option.some.inj hF
        exact JQ.outS rfl (.tmp .nil) rfl
       ·refine JC.cond_f (b := decide (600 < (w64 (n_139 * (w64 ((w64 (y155.Force.High - y160.Force.Low)) + 1)))))) rfl hc165 ?_
        refine JC.skip (JQ.normal_block (JQ.go (JC.region (by rfl) ?_)))
        intro hQ
        refine JL.move .none rfl ?_
        refine JL.bin rfl rfl rfl .none rfl ?_
        refine JL.assign .none rfl ?_
        refine JL.done hQ ?_
        obtain rfl := Option.some.inj hF
        exact JQ.next rfl ⟨rfl, rfl, rfl, rfl, rfl, hs141⟩
      ·refine JC.cond_f (b := decide (i_140 < (r.Blows.length : Int))) rfl hc144 ?_
       refine JC.exit (JQ.exit_then (JQ.exit_then (JQ.exit_block ?_)))
       obtain rfl := Option.some.inj hF
       have ehr142 := hr142 _ rfl
       subst ehr142
       refine JQ.mask [false] [] ?_
       exact JQ.join () ⟨rfl, rfl, hs141, rfl⟩
     ·rintro _ H87 f bs gs ⟨rfl, rfl, hs87, rfl⟩
      have hF := hKr88
      try dsimp only at hF
      refine JQ.go (JC.seq (JC.region (by rfl) ?_))
      intro hQ
      refine JL.assign .none rfl ?_
      refine JL.done hQ (JQ.go (JC.ret ?_))
      obtain rfl := Option.some.inj hF
      exact JQ.outS rfl (.tmp .nil) rfl
end Go.Proofs.Yteihdclpiekmaaa
end
