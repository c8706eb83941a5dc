/-
  The iterators of frames: truths and positions, by hand.
-/
import Derived.Test.YtmgnhaibbeinbaaGenK0
import Derived.Test.YtmgnhaibbeinbaaEngL
namespace Go.Proofs.Ytmgnhaibbeinbaa
open Go Go.RowKit Go.Dec
set_option linter.unusedVariables false

theorem mz_az3 : aggsz Try.prog 3 = some (false, 1) := by kernel_rfl
theorem mz_fo26_1 : fieldOff Try.prog 26 1 = some 1 := by kernel_rfl
theorem mz_fo26_2 : fieldOff Try.prog 26 2 = some 2 := by kernel_rfl
theorem mz_fo61_0 : fieldOff Try.prog 61 0 = some 0 := by kernel_rfl
theorem mz_fo61_1 : fieldOff Try.prog 61 1 = some 2 := by kernel_rfl
theorem mz_fo59_0 : fieldOff Try.prog 59 0 = some 0 := by kernel_rfl
theorem mz_fo59_1 : fieldOff Try.prog 59 1 = some 1 := by kernel_rfl

def I_frames_positions_1_s {σ ρ : Type} (f0 : Frame) (cs : σ → Int → Option (σ ⊕ ρ)) : Int × σ → Option ((Int × σ) ⊕ (σ ⊕ ρ))
  | (r, s) => if decide (f0.Low ≤ r) = true then ((cs s r).bind fun y => match y with | .inl s' => some (.inl (w64 (r - 1), s')) | .inr e => some (.inr (.inr e))) else some (.inr (.inl s))
def I_frames_positions_1 {σ ρ : Type} (n : Nat) (f0 : Frame) (cs : σ → Int → Option (σ ⊕ ρ)) (s : σ) : Option (σ ⊕ ρ) :=
  loopO n (I_frames_positions_1_s f0 cs) (f0.High, s)

set_option maxRecDepth 100000 in
set_option maxHeartbeats 4000000 in
theorem it_frames_positions_1 (n : Nat) (H : Hp) (c_0 : Frame) (c_0_v0 : Value) (hc_0_0 : SL H 7 R_Section c_0_v0 c_0.Sections) (c_0_b : Nat) (c_0_c : Cells H c_0_b 0 [c_0_v0, .int .i64 c_0.Low, .int .i64 c_0.High, .int .i64 c_0.Ease.Num, .int .i64 c_0.Ease.Den, .int .i64 c_0.Rod, .int .i64 c_0.Case]) :
    IT Try.prog 79 [.pointer (some ⟨c_0_b, 0, none⟩)] H (VPlain fun (x : Int) => .int .i64 x) (fun _ _ cs s => I_frames_positions_1 n c_0 cs s) := by
  refine IT.of (N := 16) Try.func79 rfl rfl rfl rfl fun σ ρ B A Ax cs l s0 y hF hY H1 fr gs Q hs1 hA hout => ?_
  unfold I_frames_positions_1 at hF
  refine JC.seq ?_
  refine JC.region (by rfl) ?_
  intro hQ
  refine JL.fieldAddr mz_fo26_2 rfl .none rfl ?_
  refine JL.loadH 2 mz_az3 rfl (Cells.mono hs1 c_0_c) rfl .none rfl ?_
  refine JL.assign .none rfl ?_
  refine JL.done hQ ?_
  refine JQ.go ?_
  refine JC.block ?_
  refine JC.loop hF (fun (z : Int × σ) Hz f bs gs => match z with | (r, s) => f 0 = .func (.yield l) #[] #[] ∧ f 1 = .pointer (some ⟨c_0_b, 0, none⟩) ∧ f 3 = .int .i64 r ∧ A s Hz bs gs ∧ HSub H1 Hz) ⟨rfl, rfl, rfl, hA, HSub.refl _⟩ ?_
  rintro ⟨r, s⟩ x H2 f bs gs2 ⟨hf0, hf1, hf3, hA2, hs2⟩ hF hr
  rw [I_frames_positions_1_s] at hF
  refine (JC.norm (i := 0) hf0 (JC.norm (i := 1) hf1 (JC.norm (i := 3) hf3 ?_)))
  refine JC.seq ?_
  refine JC.seq ?_
  refine JC.region (by rfl) ?_
  intro hQ
  refine JL.move .none rfl ?_
  refine JL.fieldAddr mz_fo26_1 rfl .none rfl ?_
  refine JL.loadH 1 mz_az3 rfl (Cells.mono (hs1.trans hs2) c_0_c) rfl .none rfl ?_
  refine JL.bin rfl rfl rfl .none rfl ?_
  refine JL.done hQ ?_
  refine JQ.go ?_
  rcases ite_some hF with ⟨hc, hF⟩ | ⟨hc, hF⟩
  · refine JC.cond_t (b := decide (c_0.Low ≤ r)) rfl hc ?_
    refine JC.skip ?_
    refine JQ.go ?_
    refine JC.seq ?_
    refine JC.block ?_
    refine JC.seq ?_
    obtain ⟨y0, hy0, hF⟩ := bind_some hF
    refine JC.regionY _ 2 rfl rfl (by rfl) ?_
    intro hQ
    refine JL.move .none rfl ?_
    refine JL.move .none rfl ?_
    refine JL.atYield (A := A) (Ax := Ax) (y := y0) (tl := []) hQ (by rfl) rfl rfl rfl rfl (fun w hw => hY s r y0 _ [] [] H2 bs gs2 w hA2 hy0 ⟨rfl, rfl⟩ hw) ?_ ?_
    · rintro s' H3 fr3 gs3 rfl hs3 hA3
      refine JL.not rfl .none rfl ?_
      refine JL.done hQ ?_
      refine JQ.go ?_
      refine JC.cond_f (b := !true) rfl rfl ?_
      refine JC.skip ?_
      refine JQ.normal_block ?_
      refine JQ.go ?_
      refine JC.region (by rfl) ?_
      intro hQ
      refine JL.move .none rfl ?_
      refine JL.bin rfl rfl rfl .none rfl ?_
      refine JL.assign .none rfl ?_
      refine JL.done hQ ?_
      obtain rfl := Option.some.inj hF
      exact JQ.next rfl ⟨rfl, rfl, rfl, hA3, hs2.trans hs3⟩
    · rintro e H3 fr3 gs3 rfl hs3 hA3
      refine JL.not rfl .none rfl ?_
      refine JL.done hQ ?_
      refine JQ.go ?_
      refine JC.cond_t (b := !false) rfl rfl ?_
      refine JC.ret ?_
      refine JQ.ret_block ?_
      refine JQ.ret_then ?_
      refine JQ.ret_then ?_
      refine JQ.ret_block ?_
      obtain rfl := Option.some.inj hF
      have e2 := hr _ rfl
      subst e2
      exact (hout H3 _ [] fr3 gs3 (hs2.trans hs3) hA3).1
  · refine JC.cond_f (b := decide (c_0.Low ≤ r)) rfl hc ?_
    refine JC.exit ?_
    refine JQ.exit_then ?_
    refine JQ.exit_then ?_
    refine JQ.exit_block ?_
    obtain rfl := Option.some.inj hF
    have e2 := hr _ rfl
    subst e2
    exact (hout H2 _ [] bs gs2 hs2 hA2).2

def I_frames_truths_1_s2 {σ ρ : Type} (c_0 : Section) (a : Int) (cs : σ → frames_sides → Option (σ ⊕ ρ)) : Int × σ → Option ((Int × σ) ⊕ (σ ⊕ ρ))
  | (b, s) => if decide (b ≤ c_0.Stretch.High) = true then ((cs s ⟨a, b⟩).bind fun y => match y with | .inl s' => some (.inl (w64 (b + 1), s')) | .inr e => some (.inr (.inr e))) else some (.inr (.inl s))
def I_frames_truths_1_s1 {σ ρ : Type} (n : Nat) (c_0 : Section) (cs : σ → frames_sides → Option (σ ⊕ ρ)) : Int × σ → Option ((Int × σ) ⊕ (σ ⊕ ρ))
  | (a, s) => if decide (a ≤ c_0.Arm.High) = true then ((loopO n (I_frames_truths_1_s2 c_0 a cs) (c_0.Stretch.Low, s)).bind fun y => match y with | .inl s' => some (.inl (w64 (a + 1), s')) | .inr e => some (.inr (.inr e))) else some (.inr (.inl s))
def I_frames_truths_1 {σ ρ : Type} (n : Nat) (c_0 : Section) (cs : σ → frames_sides → Option (σ ⊕ ρ)) (s : σ) : Option (σ ⊕ ρ) :=
  loopO n (I_frames_truths_1_s1 n c_0 cs) (c_0.Arm.Low, s)

set_option maxRecDepth 100000 in
set_option maxHeartbeats 4000000 in
theorem it_frames_truths_1 (n : Nat) (H : Hp) (c_0 : Section) (c_0_b : Nat) (c_0_c : Cells H c_0_b 0 [.int .i64 c_0.Arm.Low, .int .i64 c_0.Arm.High, .int .i64 c_0.Stretch.Low, .int .i64 c_0.Stretch.High, .int .i64 c_0.Base, .int .i64 c_0.Gear.Num, .int .i64 c_0.Gear.Den]) :
    IT Try.prog 75 [.pointer (some ⟨c_0_b, 0, none⟩)] H (VPlain fun (x : frames_sides) => .agg [.int .i64 x.arm, .int .i64 x.stretch].toArray) (fun _ _ cs s => I_frames_truths_1 n c_0 cs s) := by
  refine IT.of (N := 31) Try.func75 rfl rfl rfl rfl fun σ ρ B A Ax cs l s0 y hF hY H1 fr gs Q hs1 hA hout => ?_
  unfold I_frames_truths_1 at hF
  refine JC.seq ?_
  refine JC.region (by rfl) ?_
  intro hQ
  refine JL.fieldAddr mz_fo61_0 rfl .none rfl ?_
  refine JL.fieldAddr mz_fo59_0 rfl .none rfl ?_
  refine JL.loadH 0 mz_az3 rfl (Cells.mono hs1 c_0_c) rfl .none rfl ?_
  refine JL.assign .none rfl ?_
  refine JL.done hQ ?_
  refine JQ.go ?_
  refine JC.block ?_
  refine JC.loop hF (fun (z : Int × σ) Hz f bs gs => match z with | (a, s) => f 0 = .func (.yield l) #[] #[] ∧ f 1 = .pointer (some ⟨c_0_b, 0, none⟩) ∧ f 3 = .int .i64 a ∧ A s Hz bs gs ∧ HSub H1 Hz) ⟨rfl, rfl, rfl, hA, HSub.refl _⟩ ?_
  rintro ⟨a, s⟩ x H2 f bs gs2 ⟨hf0, hf1, hf3, hA2, hs2⟩ hF hr
  rw [I_frames_truths_1_s1] at hF
  refine (JC.norm (i := 0) hf0 (JC.norm (i := 1) hf1 (JC.norm (i := 3) hf3 ?_)))
  refine JC.seq ?_
  refine JC.seq ?_
  refine JC.region (by rfl) ?_
  intro hQ
  refine JL.move .none rfl ?_
  refine JL.fieldAddr mz_fo61_0 rfl .none rfl ?_
  refine JL.fieldAddr mz_fo59_1 rfl .none rfl ?_
  refine JL.loadH 1 mz_az3 rfl (Cells.mono (hs1.trans hs2) c_0_c) rfl .none rfl ?_
  refine JL.bin rfl rfl rfl .none rfl ?_
  refine JL.done hQ ?_
  refine JQ.go ?_
  rcases ite_some hF with ⟨hc, hF⟩ | ⟨hc, hF⟩
  · refine JC.cond_t (b := decide (a ≤ c_0.Arm.High)) rfl hc ?_
    refine JC.skip ?_
    refine JQ.go ?_
    refine JC.seq ?_
    refine JC.block ?_
    refine JC.seq ?_
    refine JC.region (by rfl) ?_
    intro hQ
    refine JL.fieldAddr mz_fo61_1 rfl .none rfl ?_
    refine JL.fieldAddr mz_fo59_0 rfl .none rfl ?_
    refine JL.loadH 2 mz_az3 rfl (Cells.mono (hs1.trans hs2) c_0_c) rfl .none rfl ?_
    refine JL.assign .none rfl ?_
    refine JL.done hQ ?_
    refine JQ.go ?_
    obtain ⟨r1, hl1, hK1⟩ := bind_some hF
    refine JC.join (fun (s' : σ) H3 f bs gs => f 0 = .func (.yield l) #[] #[] ∧ f 1 = .pointer (some ⟨c_0_b, 0, none⟩) ∧ f 3 = .int .i64 a ∧ A s' H3 bs gs ∧ HSub H2 H3 ∧ Sum.inl s' = r1) ?_ ?_
    · refine JC.block ?_
      refine JC.loop hl1 (fun (z : Int × σ) Hz f bs gs => match z with | (b, s) => f 0 = .func (.yield l) #[] #[] ∧ f 1 = .pointer (some ⟨c_0_b, 0, none⟩) ∧ f 3 = .int .i64 a ∧ f 4 = .int .i64 b ∧ A s Hz bs gs ∧ HSub H2 Hz) ⟨rfl, rfl, rfl, rfl, hA2, HSub.refl _⟩ ?_
      rintro ⟨b, s1⟩ x1 H3 f bs3 gs3 ⟨hf0, hf1, hf3, hf4, hA3, hs3⟩ hF hr1
      rw [I_frames_truths_1_s2] at hF
      refine (JC.norm (i := 0) hf0 (JC.norm (i := 1) hf1 (JC.norm (i := 3) hf3 (JC.norm (i := 4) hf4 ?_))))
      refine JC.seq ?_
      refine JC.seq ?_
      refine JC.region (by rfl) ?_
      intro hQ
      refine JL.move .none rfl ?_
      refine JL.fieldAddr mz_fo61_1 rfl .none rfl ?_
      refine JL.fieldAddr mz_fo59_1 rfl .none rfl ?_
      refine JL.loadH 3 mz_az3 rfl (Cells.mono ((hs1.trans hs2).trans hs3) c_0_c) rfl .none rfl ?_
      refine JL.bin rfl rfl rfl .none rfl ?_
      refine JL.done hQ ?_
      refine JQ.go ?_
      rcases ite_some hF with ⟨hc3, hF⟩ | ⟨hc3, hF⟩
      · refine JC.cond_t (b := decide (b ≤ c_0.Stretch.High)) rfl hc3 ?_
        refine JC.skip ?_
        refine JQ.go ?_
        refine JC.seq ?_
        refine JC.block ?_
        refine JC.seq ?_
        obtain ⟨y0, hy0, hF⟩ := bind_some hF
        refine JC.regionY _ 4 rfl rfl (by rfl) ?_
        intro hQ
        refine JL.move .none rfl ?_
        refine JL.move .none rfl ?_
        refine JL.move .none rfl ?_
        refine JL.build (l := [.int .i64 a, .int .i64 b]) (by kernel_rfl) .none rfl ?_
        refine JL.atYield (A := A) (Ax := Ax) (y := y0) (tl := []) hQ (by rfl) rfl rfl rfl rfl (fun w hw => hY s1 ⟨a, b⟩ y0 _ [] [] H3 bs3 gs3 w hA3 hy0 ⟨rfl, rfl⟩ hw) ?_ ?_
        · rintro s' H4 fr4 gs4 rfl hs4 hA4
          refine JL.not rfl .none rfl ?_
          refine JL.done hQ ?_
          refine JQ.go ?_
          refine JC.cond_f (b := !true) rfl rfl ?_
          refine JC.skip ?_
          refine JQ.normal_block ?_
          refine JQ.go ?_
          refine JC.region (by rfl) ?_
          intro hQ
          refine JL.move .none rfl ?_
          refine JL.bin rfl rfl rfl .none rfl ?_
          refine JL.assign .none rfl ?_
          refine JL.done hQ ?_
          obtain rfl := Option.some.inj hF
          exact JQ.next rfl ⟨rfl, rfl, rfl, rfl, hA4, hs3.trans hs4⟩
        · rintro e H4 fr4 gs4 rfl hs4 hA4
          refine JL.not rfl .none rfl ?_
          refine JL.done hQ ?_
          refine JQ.go ?_
          refine JC.cond_t (b := !false) rfl rfl ?_
          refine JC.ret ?_
          refine JQ.ret_block ?_
          refine JQ.ret_then ?_
          refine JQ.ret_then ?_
          refine JQ.ret_block ?_
          refine JQ.ret_join ?_
          refine JQ.ret_block ?_
          refine JQ.ret_then ?_
          refine JQ.ret_then ?_
          refine JQ.ret_block ?_
          obtain rfl := Option.some.inj hF
          have e1 := hr1 _ rfl
          subst e1
          have hF := hK1
          dsimp only at hF
          obtain rfl := Option.some.inj hF
          have e2 := hr _ rfl
          subst e2
          exact (hout H4 _ [] fr4 gs4 ((hs2.trans hs3).trans hs4) hA4).1
      · refine JC.cond_f (b := decide (b ≤ c_0.Stretch.High)) rfl hc3 ?_
        refine JC.exit ?_
        refine JQ.exit_then ?_
        refine JQ.exit_then ?_
        refine JQ.exit_block ?_
        obtain rfl := Option.some.inj hF
        have e1 := hr1 _ rfl
        subst e1
        exact JQ.join s1 ⟨rfl, rfl, rfl, hA3, hs3, rfl⟩
    · rintro s' H3 f bs3 gs3 ⟨hf0, hf1, hf3, hA3, hs3, rfl⟩
      have hF := hK1
      dsimp only at hF
      refine (JQ.norm (i := 0) hf0 (JQ.norm (i := 1) hf1 (JQ.norm (i := 3) hf3 ?_)))
      refine JQ.normal_block ?_
      refine JQ.go ?_
      refine JC.region (by rfl) ?_
      intro hQ
      refine JL.move .none rfl ?_
      refine JL.bin rfl rfl rfl .none rfl ?_
      refine JL.assign .none rfl ?_
      refine JL.done hQ ?_
      obtain rfl := Option.some.inj hF
      exact JQ.next rfl ⟨rfl, rfl, rfl, hA3, hs2.trans hs3⟩
  · refine JC.cond_f (b := decide (a ≤ c_0.Arm.High)) rfl hc ?_
    refine JC.exit ?_
    refine JQ.exit_then ?_
    refine JQ.exit_then ?_
    refine JQ.exit_block ?_
    obtain rfl := Option.some.inj hF
    have e2 := hr _ rfl
    subst e2
    exact (hout H2 _ [] bs gs2 hs2 hA2).2
end Go.Proofs.Ytmgnhaibbeinbaa
