/-
  The iterators of frames.truths and of the rounds of gusts, by hand.
-/
import Derived.Test.YteihdclpiekmaaaLfGenK0
namespace Go.Proofs.Yteihdclpiekmaaa
open Go Go.RowKit Go.Dec
set_option linter.unusedVariables false

theorem mz_az3 : aggsz Try.prog 3 = some (false, 1) := by kernel_rfl
theorem mz_fo61_0 : fieldOff Try.prog 68 0 = some 0 := by kernel_rfl
theorem mz_fo61_1 : fieldOff Try.prog 68 1 = some 2 := by kernel_rfl
theorem mz_fo59_0 : fieldOff Try.prog 39 0 = some 0 := by kernel_rfl
theorem mz_fo59_1 : fieldOff Try.prog 39 1 = some 1 := by kernel_rfl
theorem mz_fo26_1 : fieldOff Try.prog 53 1 = some 1 := by kernel_rfl
theorem mz_fo26_2 : fieldOff Try.prog 53 2 = some 2 := by kernel_rfl
theorem mz_foB1 : fieldOff Try.prog 156 1 = some 1 := by kernel_rfl
theorem mz_azR : aggsz Try.prog 23 = some (false, 1) := by kernel_rfl
theorem mz_azB : aggsz Try.prog 156 = some (true, 3) := by kernel_rfl
theorem mz_azG : aggsz Try.prog 86 = some (true, 2) := by kernel_rfl
theorem mz_ulR : Try.prog.underlying 23 = some (.slice 3) := by kernel_rfl
theorem mz_slR : slT Try.prog 23 = some (3, 1) := by kernel_rfl
theorem mz_enB : Ent Try.prog 181 := enters_of Try.func181 (by kernel_rfl) rfl

def I_frames_positions_1_s {σ ρ : Type} (f0 : Frame) (cs : σ → Int → Option (σ ⊕ ρ)) : Int × σ → Option ((Int × σ) ⊕ (σ ⊕ ρ))
  | (r, s) => if decide (f0.Low ≤ r) = true then ((cs s r).bind fun y => match y with | .inl s' => some (.inl (w64 (r - 1), s')) | .inr e => some (.inr (.inr e))) else some (.inr (.inl s))
def I_frames_positions_1 {σ ρ : Type} (n : Nat) (f0 : Frame) (cs : σ → Int → Option (σ ⊕ ρ)) (s : σ) : Option (σ ⊕ ρ) :=
  loopO n (I_frames_positions_1_s f0 cs) (f0.High, s)

set_option maxRecDepth 100000 in
set_option maxHeartbeats 4000000 in
theorem it_frames_positions_1 (n : Nat) (H : Hp) (c_0 : Frame) (c_0_v0 : Value) (hc_0_0 : SL H 7 R_Section c_0_v0 c_0.Sections) (c_0_b : Nat) (c_0_c : Cells H c_0_b 0 [c_0_v0, .int .i64 c_0.Low, .int .i64 c_0.High, .int .i64 c_0.Ease.Num, .int .i64 c_0.Ease.Den, .int .i64 c_0.Rod, .int .i64 c_0.Case]) :
    IT Try.prog 176 [.pointer (some ⟨c_0_b, 0, none⟩)] H (VPlain fun (x : Int) => .int .i64 x) (fun _ _ cs s => I_frames_positions_1 n c_0 cs s) := by
  refine IT.of (N := 16) Try.func176 rfl rfl rfl rfl fun σ ρ B A Ax cs l s0 y hF hY H1 fr gs Q hs1 hA hout => ?_
  unfold I_frames_positions_1 at hF
  refine JC.seq ?_
  refine JC.region (by rfl) ?_
  intro hQ
  refine JL.fieldAddr mz_fo26_2 rfl .none rfl ?_
  refine JL.loadH 2 mz_az3 rfl (Cells.mono hs1 c_0_c) rfl .none rfl ?_
  refine JL.assign .none rfl ?_
  refine JL.done hQ ?_
  refine JQ.go ?_
  refine JC.block ?_
  refine JC.loop hF (fun (z : Int × σ) Hz f bs gs => match z with | (r, s) => f 0 = .func (.yield l) #[] #[] ∧ f 1 = .pointer (some ⟨c_0_b, 0, none⟩) ∧ f 3 = .int .i64 r ∧ A s Hz bs gs ∧ HSub H1 Hz) ⟨rfl, rfl, rfl, hA, HSub.refl _⟩ ?_
  rintro ⟨r, s⟩ x H2 f bs gs2 ⟨hf0, hf1, hf3, hA2, hs2⟩ hF hr
  rw [I_frames_positions_1_s] at hF
  refine (JC.norm (i := 0) hf0 (JC.norm (i := 1) hf1 (JC.norm (i := 3) hf3 ?_)))
  refine JC.seq ?_
  refine JC.seq ?_
  refine JC.region (by rfl) ?_
  intro hQ
  refine JL.move .none rfl ?_
  refine JL.fieldAddr mz_fo26_1 rfl .none rfl ?_
  refine JL.loadH 1 mz_az3 rfl (Cells.mono (hs1.trans hs2) c_0_c) rfl .none rfl ?_
  refine JL.bin rfl rfl rfl .none rfl ?_
  refine JL.done hQ ?_
  refine JQ.go ?_
  rcases ite_some hF with ⟨hc, hF⟩ | ⟨hc, hF⟩
  · refine JC.cond_t (b := decide (c_0.Low ≤ r)) rfl hc ?_
    refine JC.skip ?_
    refine JQ.go ?_
    refine JC.seq ?_
    refine JC.block ?_
    refine JC.seq ?_
    obtain ⟨y0, hy0, hF⟩ := bind_some hF
    refine JC.regionY _ 2 rfl rfl (by rfl) ?_
    intro hQ
    refine JL.move .none rfl ?_
    refine JL.move .none rfl ?_
    refine JL.atYield (A := A) (Ax := Ax) (y := y0) (tl := []) hQ (by rfl) rfl rfl rfl rfl (fun w hw => hY s r y0 _ [] [] H2 bs gs2 w hA2 hy0 ⟨rfl, rfl⟩ hw) ?_ ?_
    · rintro s' H3 fr3 gs3 rfl hs3 hA3
      refine JL.not rfl .none rfl ?_
      refine JL.done hQ ?_
      refine JQ.go ?_
      refine JC.cond_f (b := !true) rfl rfl ?_
      refine JC.skip ?_
      refine JQ.normal_block ?_
      refine JQ.go ?_
      refine JC.region (by rfl) ?_
      intro hQ
      refine JL.move .none rfl ?_
      refine JL.bin rfl rfl rfl .none rfl ?_
      refine JL.assign .none rfl ?_
      refine JL.done hQ ?_
      obtain rfl := Option.some.inj hF
      exact JQ.next rfl ⟨rfl, rfl, rfl, hA3, hs2.trans hs3⟩
    · rintro e H3 fr3 gs3 rfl hs3 hA3
      refine JL.not rfl .none rfl ?_
      refine JL.done hQ ?_
      refine JQ.go ?_
      refine JC.cond_t (b := !false) rfl rfl ?_
      refine JC.ret ?_
      refine JQ.ret_block ?_
      refine JQ.ret_then ?_
      refine JQ.ret_then ?_
      refine JQ.ret_block ?_
      obtain rfl := Option.some.inj hF
      have e2 := hr _ rfl
      subst e2
      exact (hout H3 _ [] fr3 gs3 (hs2.trans hs3) hA3).1
  · refine JC.cond_f (b := decide (c_0.Low ≤ r)) rfl hc ?_
    refine JC.exit ?_
    refine JQ.exit_then ?_
    refine JQ.exit_then ?_
    refine JQ.exit_block ?_
    obtain rfl := Option.some.inj hF
    have e2 := hr _ rfl
    subst e2
    exact (hout H2 _ [] bs gs2 hs2 hA2).2

def I_frames_truths_1_s2 {σ ρ : Type} (c_0 : Section) (a : Int) (cs : σ → frames_sides → Option (σ ⊕ ρ)) : Int × σ → Option ((Int × σ) ⊕ (σ ⊕ ρ))
  | (b, s) => if decide (b ≤ c_0.Stretch.High) = true then ((cs s ⟨a, b⟩).bind fun y => match y with | .inl s' => some (.inl (w64 (b + 1), s')) | .inr e => some (.inr (.inr e))) else some (.inr (.inl s))
def I_frames_truths_1_s1 {σ ρ : Type} (n : Nat) (c_0 : Section) (cs : σ → frames_sides → Option (σ ⊕ ρ)) : Int × σ → Option ((Int × σ) ⊕ (σ ⊕ ρ))
  | (a, s) => if decide (a ≤ c_0.Arm.High) = true then ((loopO n (I_frames_truths_1_s2 c_0 a cs) (c_0.Stretch.Low, s)).bind fun y => match y with | .inl s' => some (.inl (w64 (a + 1), s')) | .inr e => some (.inr (.inr e))) else some (.inr (.inl s))
def I_frames_truths_1 {σ ρ : Type} (n : Nat) (c_0 : Section) (cs : σ → frames_sides → Option (σ ⊕ ρ)) (s : σ) : Option (σ ⊕ ρ) :=
  loopO n (I_frames_truths_1_s1 n c_0 cs) (c_0.Arm.Low, s)

set_option maxRecDepth 100000 in
set_option maxHeartbeats 4000000 in
theorem it_frames_truths_1 (n : Nat) (H : Hp) (c_0 : Section) (c_0_b : Nat) (c_0_c : Cells H c_0_b 0 [.int .i64 c_0.Arm.Low, .int .i64 c_0.Arm.High, .int .i64 c_0.Stretch.Low, .int .i64 c_0.Stretch.High, .int .i64 c_0.Base, .int .i64 c_0.Gear.Num, .int .i64 c_0.Gear.Den]) :
    IT Try.prog 125 [.pointer (some ⟨c_0_b, 0, none⟩)] H (VPlain fun (x : frames_sides) => .agg [.int .i64 x.arm, .int .i64 x.stretch].toArray) (fun _ _ cs s => I_frames_truths_1 n c_0 cs s) := by
  refine IT.of (N := 31) Try.func125 rfl rfl rfl rfl fun σ ρ B A Ax cs l s0 y hF hY H1 fr gs Q hs1 hA hout => ?_
  unfold I_frames_truths_1 at hF
  refine JC.seq ?_
  refine JC.region (by rfl) ?_
  intro hQ
  refine JL.fieldAddr mz_fo61_0 rfl .none rfl ?_
  refine JL.fieldAddr mz_fo59_0 rfl .none rfl ?_
  refine JL.loadH 0 mz_az3 rfl (Cells.mono hs1 c_0_c) rfl .none rfl ?_
  refine JL.assign .none rfl ?_
  refine JL.done hQ ?_
  refine JQ.go ?_
  refine JC.block ?_
  refine JC.loop hF (fun (z : Int × σ) Hz f bs gs => match z with | (a, s) => f 0 = .func (.yield l) #[] #[] ∧ f 1 = .pointer (some ⟨c_0_b, 0, none⟩) ∧ f 3 = .int .i64 a ∧ A s Hz bs gs ∧ HSub H1 Hz) ⟨rfl, rfl, rfl, hA, HSub.refl _⟩ ?_
  rintro ⟨a, s⟩ x H2 f bs gs2 ⟨hf0, hf1, hf3, hA2, hs2⟩ hF hr
  rw [I_frames_truths_1_s1] at hF
  refine (JC.norm (i := 0) hf0 (JC.norm (i := 1) hf1 (JC.norm (i := 3) hf3 ?_)))
  refine JC.seq ?_
  refine JC.seq ?_
  refine JC.region (by rfl) ?_
  intro hQ
  refine JL.move .none rfl ?_
  refine JL.fieldAddr mz_fo61_0 rfl .none rfl ?_
  refine JL.fieldAddr mz_fo59_1 rfl .none rfl ?_
  refine JL.loadH 1 mz_az3 rfl (Cells.mono (hs1.trans hs2) c_0_c) rfl .none rfl ?_
  refine JL.bin rfl rfl rfl .none rfl ?_
  refine JL.done hQ ?_
  refine JQ.go ?_
  rcases ite_some hF with ⟨hc, hF⟩ | ⟨hc, hF⟩
  · refine JC.cond_t (b := decide (a ≤ c_0.Arm.High)) rfl hc ?_
    refine JC.skip ?_
    refine JQ.go ?_
    refine JC.seq ?_
    refine JC.block ?_
    refine JC.seq ?_
    refine JC.region (by rfl) ?_
    intro hQ
    refine JL.fieldAddr mz_fo61_1 rfl .none rfl ?_
    refine JL.fieldAddr mz_fo59_0 rfl .none rfl ?_
    refine JL.loadH 2 mz_az3 rfl (Cells.mono (hs1.trans hs2) c_0_c) rfl .none rfl ?_
    refine JL.assign .none rfl ?_
    refine JL.done hQ ?_
    refine JQ.go ?_
    obtain ⟨r1, hl1, hK1⟩ := bind_some hF
    refine JC.join (fun (s' : σ) H3 f bs gs => f 0 = .func (.yield l) #[] #[] ∧ f 1 = .pointer (some ⟨c_0_b, 0, none⟩) ∧ f 3 = .int .i64 a ∧ A s' H3 bs gs ∧ HSub H2 H3 ∧ Sum.inl s' = r1) ?_ ?_
    · refine JC.block ?_
      refine JC.loop hl1 (fun (z : Int × σ) Hz f bs gs => match z with | (b, s) => f 0 = .func (.yield l) #[] #[] ∧ f 1 = .pointer (some ⟨c_0_b, 0, none⟩) ∧ f 3 = .int .i64 a ∧ f 4 = .int .i64 b ∧ A s Hz bs gs ∧ HSub H2 Hz) ⟨rfl, rfl, rfl, rfl, hA2, HSub.refl _⟩ ?_
      rintro ⟨b, s1⟩ x1 H3 f bs3 gs3 ⟨hf0, hf1, hf3, hf4, hA3, hs3⟩ hF hr1
      rw [I_frames_truths_1_s2] at hF
      refine (JC.norm (i := 0) hf0 (JC.norm (i := 1) hf1 (JC.norm (i := 3) hf3 (JC.norm (i := 4) hf4 ?_))))
      refine JC.seq ?_
      refine JC.seq ?_
      refine JC.region (by rfl) ?_
      intro hQ
      refine JL.move .none rfl ?_
      refine JL.fieldAddr mz_fo61_1 rfl .none rfl ?_
      refine JL.fieldAddr mz_fo59_1 rfl .none rfl ?_
      refine JL.loadH 3 mz_az3 rfl (Cells.mono ((hs1.trans hs2).trans hs3) c_0_c) rfl .none rfl ?_
      refine JL.bin rfl rfl rfl .none rfl ?_
      refine JL.done hQ ?_
      refine JQ.go ?_
      rcases ite_some hF with ⟨hc3, hF⟩ | ⟨hc3, hF⟩
      · refine JC.cond_t (b := decide (b ≤ c_0.Stretch.High)) rfl hc3 ?_
        refine JC.skip ?_
        refine JQ.go ?_
        refine JC.seq ?_
        refine JC.block ?_
        refine JC.seq ?_
        obtain ⟨y0, hy0, hF⟩ := bind_some hF
        refine JC.regionY _ 4 rfl rfl (by rfl) ?_
        intro hQ
        refine JL.move .none rfl ?_
        refine JL.move .none rfl ?_
        refine JL.move .none rfl ?_
        refine JL.build (l := [.int .i64 a, .int .i64 b]) (by kernel_rfl) .none rfl ?_
        refine JL.atYield (A := A) (Ax := Ax) (y := y0) (tl := []) hQ (by rfl) rfl rfl rfl rfl (fun w hw => hY s1 ⟨a, b⟩ y0 _ [] [] H3 bs3 gs3 w hA3 hy0 ⟨rfl, rfl⟩ hw) ?_ ?_
        · rintro s' H4 fr4 gs4 rfl hs4 hA4
          refine JL.not rfl .none rfl ?_
          refine JL.done hQ ?_
          refine JQ.go ?_
          refine JC.cond_f (b := !true) rfl rfl ?_
          refine JC.skip ?_
          refine JQ.normal_block ?_
          refine JQ.go ?_
          refine JC.region (by rfl) ?_
          intro hQ
          refine JL.move .none rfl ?_
          refine JL.bin rfl rfl rfl .none rfl ?_
          refine JL.assign .none rfl ?_
          refine JL.done hQ ?_
          obtain rfl := Option.some.inj hF
          exact JQ.next rfl ⟨rfl, rfl, rfl, rfl, hA4, hs3.trans hs4⟩
        · rintro e H4 fr4 gs4 rfl hs4 hA4
          refine JL.not rfl .none rfl ?_
          refine JL.done hQ ?_
          refine JQ.go ?_
          refine JC.cond_t (b := !false) rfl rfl ?_
          refine JC.ret ?_
          refine JQ.ret_block ?_
          refine JQ.ret_then ?_
          refine JQ.ret_then ?_
          refine JQ.ret_block ?_
          refine JQ.ret_join ?_
          refine JQ.ret_block ?_
          refine JQ.ret_then ?_
          refine JQ.ret_then ?_
          refine JQ.ret_block ?_
          obtain rfl := Option.some.inj hF
          have e1 := hr1 _ rfl
          subst e1
          have hF := hK1
          dsimp only at hF
          obtain rfl := Option.some.inj hF
          have e2 := hr _ rfl
          subst e2
          exact (hout H4 _ [] fr4 gs4 ((hs2.trans hs3).trans hs4) hA4).1
      · refine JC.cond_f (b := decide (b ≤ c_0.Stretch.High)) rfl hc3 ?_
        refine JC.exit ?_
        refine JQ.exit_then ?_
        refine JQ.exit_then ?_
        refine JQ.exit_block ?_
        obtain rfl := Option.some.inj hF
        have e1 := hr1 _ rfl
        subst e1
        exact JQ.join s1 ⟨rfl, rfl, rfl, hA3, hs3, rfl⟩
    · rintro s' H3 f bs3 gs3 ⟨hf0, hf1, hf3, hA3, hs3, rfl⟩
      have hF := hK1
      dsimp only at hF
      refine (JQ.norm (i := 0) hf0 (JQ.norm (i := 1) hf1 (JQ.norm (i := 3) hf3 ?_)))
      refine JQ.normal_block ?_
      refine JQ.go ?_
      refine JC.region (by rfl) ?_
      intro hQ
      refine JL.move .none rfl ?_
      refine JL.bin rfl rfl rfl .none rfl ?_
      refine JL.assign .none rfl ?_
      refine JL.done hQ ?_
      obtain rfl := Option.some.inj hF
      exact JQ.next rfl ⟨rfl, rfl, rfl, hA3, hs2.trans hs3⟩
  · refine JC.cond_f (b := decide (a ≤ c_0.Arm.High)) rfl hc ?_
    refine JC.exit ?_
    refine JQ.exit_then ?_
    refine JQ.exit_then ?_
    refine JQ.exit_block ?_
    obtain rfl := Option.some.inj hF
    have e2 := hr _ rfl
    subst e2
    exact (hout H2 _ [] bs gs2 hs2 hA2).2

def I_gusts_blown_rounds_1_s2 (n : Nat) (c_0 : gusts_blown) (c_1 : Gust) (gone : Int) : Int × Int → Option ((Int × Int) ⊕ Int)
  | (next, x) => if decide (x < (c_0.ribs.length : Int)) = true then ((geti c_0.ribs x).bind fun y => (nneg x).bind fun _ => (if ((band .u16 (bshr .u16 gone x) 1) == 0) = true then ((F_gusts_blown_bears n c_0 c_1 x gone).bind fun y2 => some (decide (y < y2))) else (some false) : Option Bool).bind fun p => (if p = true then ((nneg x).bind fun _ => some (bor .u16 next (bshl .u16 1 x))) else (some next)).bind fun next2 => some (Sum.inl (next2, (w64 (x + 1))))) else (some (Sum.inr next))
def I_gusts_blown_rounds_1_s1 {σ ρ : Type} (n : Nat) (c_0 : gusts_blown) (c_1 : Gust) (cs : σ → Int → Option (σ ⊕ ρ)) : Int × σ → Option ((Int × σ) ⊕ (σ ⊕ ρ))
  | (gone, s) => (loopO n (I_gusts_blown_rounds_1_s2 n c_0 c_1 gone) (gone, 0)).bind fun next => if (next == gone) = true then (some (.inr (.inl s))) else ((cs s next).bind fun y => match y with | .inl s' => some (.inl (next, s')) | .inr e => some (.inr (.inr e)))
def I_gusts_blown_rounds_1 {σ ρ : Type} (n : Nat) (c_0 : gusts_blown) (c_1 : Gust) (cs : σ → Int → Option (σ ⊕ ρ)) (s : σ) : Option (σ ⊕ ρ) :=
  loopO n (I_gusts_blown_rounds_1_s1 n c_0 c_1 cs) (0, s)

set_option maxRecDepth 100000 in
set_option maxHeartbeats 40000000 in
theorem it_gusts_blown_rounds_1 (n : Nat) (H : Hp) (c_0 : gusts_blown) (c_0_v1 : Value) (hc_0_1 : SL H 1 RInt c_0_v1 c_0.ribs) (c_0_v2 : Value) (hc_0_2 : SL H 1 RInt c_0_v2 c_0.shares) (c_0_b : Nat) (c_0_c : Cells H c_0_b 0 [.int .i64 c_0.lift, c_0_v1, c_0_v2]) (c_1 : Gust) (c_1_b : Nat) (c_1_c : Cells H c_1_b 0 [.int .i64 c_1.Force, .int .i64 c_1.At]) :
    IT Try.prog 180 [.pointer (some ⟨c_0_b, 0, none⟩), .pointer (some ⟨c_1_b, 0, none⟩)] H (VPlain fun (x : Int) => .int .u16 x) (fun _ _ cs s => I_gusts_blown_rounds_1 n c_0 c_1 cs s) := by
  refine IT.of (N := 46) Try.func180 rfl rfl rfl rfl fun σ ρ B A Ax cs l s0 y hF hY H1 fr gs Q hs1 hA hout => ?_
  unfold I_gusts_blown_rounds_1 at hF
  refine JC.seq ?_
  refine JC.region (by rfl) ?_
  intro hQ
  refine JL.assign .none rfl ?_
  refine JL.done hQ ?_
  refine JQ.go ?_
  refine JC.block ?_
  refine JC.loop hF (fun (z : Int × σ) Hz f bs gs => match z with | (gone, s) => f 0 = .func (.yield l) #[] #[] ∧ f 1 = .pointer (some ⟨c_0_b, 0, none⟩) ∧ f 2 = .pointer (some ⟨c_1_b, 0, none⟩) ∧ f 4 = .int .u16 gone ∧ A s Hz bs gs ∧ HSub H1 Hz) ⟨rfl, rfl, rfl, rfl, hA, HSub.refl _⟩ ?_
  rintro ⟨gone, s⟩ xo H2 f bs gs2 ⟨hf0, hf1, hf2, hf4, hA2, hs2⟩ hF hr
  rw [I_gusts_blown_rounds_1_s1] at hF
  refine (JC.norm (i := 0) hf0 (JC.norm (i := 1) hf1 (JC.norm (i := 2) hf2 (JC.norm (i := 4) hf4 ?_))))
  have hs12 := hs1.trans hs2
  refine JC.block ?_
  refine JC.seq ?_
  refine JC.region (by rfl) ?_
  intro hQ
  refine JL.move .none rfl ?_
  refine JL.assign .none rfl ?_
  refine JL.done hQ ?_
  refine JQ.go ?_
  refine JC.seq ?_
  refine JC.seq ?_
  refine JC.region (by rfl) ?_
  intro hQ
  refine JL.fieldAddr mz_foB1 rfl .none rfl ?_
  refine JL.loadH 1 mz_azR rfl (Cells.mono hs12 c_0_c) rfl .none rfl ?_
  refine JL.lenSL (R := RInt) mz_ulR (SL.mono RInt.mono hs12 hc_0_1) .none rfl ?_
  refine JL.move .none rfl ?_
  refine JL.done hQ ?_
  refine JQ.go ?_
  obtain ⟨r1, hl1, hK1⟩ := bind_some hF
  refine JC.join (fun (next : Int) H3 f bs gs => f 0 = .func (.yield l) #[] #[] ∧ f 1 = .pointer (some ⟨c_0_b, 0, none⟩) ∧ f 2 = .pointer (some ⟨c_1_b, 0, none⟩) ∧ f 4 = .int .u16 gone ∧ f 5 = .int .u16 next ∧ A s H3 bs gs ∧ HSub H2 H3 ∧ next = r1) ?_ ?_
  · skip
    refine JC.block ?_
    refine JC.loop hl1 (fun (z : Int × Int) H3 f bs gs => match z with | (next, x) => f 0 = .func (.yield l) #[] #[] ∧ f 1 = .pointer (some ⟨c_0_b, 0, none⟩) ∧ f 2 = .pointer (some ⟨c_1_b, 0, none⟩) ∧ f 4 = .int .u16 gone ∧ f 5 = .int .u16 next ∧ f 10 = c_0_v1 ∧ f 11 = .int .i64 (c_0.ribs.length : Int) ∧ f 12 = .int .i64 x ∧ A s H3 bs gs ∧ HSub H2 H3) ⟨rfl, rfl, rfl, rfl, rfl, rfl, rfl, rfl, hA2, (HSub.refl _)⟩ ?_
    rintro ⟨next, x⟩ x1 H3 f bs gs ⟨hf0, hf1, hf2, hf4, hf5, hf10, hf11, hf12, hA3, hs3⟩ hF hr1
    rw [I_gusts_blown_rounds_1_s2] at hF
    have hs13 := hs12.trans hs3
    refine (JC.norm (i := 0) hf0 (JC.norm (i := 1) hf1 (JC.norm (i := 2) hf2 (JC.norm (i := 4) hf4 (JC.norm (i := 5) hf5 (JC.norm (i := 10) hf10 (JC.norm (i := 11) hf11 (JC.norm (i := 12) hf12 ?_))))))))
    refine JC.seq ?_
    refine JC.region (by rfl) ?_
    intro hQ
    refine JL.bin rfl rfl rfl .none rfl ?_
    refine JL.done hQ ?_
    refine JQ.go ?_
    refine JC.seq ?_
    rcases ite_some hF with ⟨hc, hF⟩ | ⟨hc, hF⟩
    · refine JC.cond_t (b := decide (x < (c_0.ribs.length : Int))) rfl hc ?_
      refine JC.skip ?_
      refine JQ.go ?_
      refine JC.seq ?_
      refine JC.block ?_
      refine JC.seq ?_
      refine JC.region (by rfl) ?_
      intro hQ
      refine JL.move .none rfl ?_
      obtain ⟨y829, hy829, hF⟩ := bind_some hF
      refine JL.indexSL (R := RInt) mz_slR (SL.mono RInt.mono hs13 hc_0_1) rfl hy829 .none rfl ?_
      rintro b830 o831 cs832 hc833 - rfl
      refine JL.loadH 0 mz_az3 rfl hc833 rfl .none rfl ?_
      refine JL.assign .none rfl ?_
      refine JL.assign .none rfl ?_
      refine JL.done hQ ?_
      refine JQ.go ?_
      refine JC.seq ?_
      refine JC.region (by rfl) ?_
      intro hQ
      refine JL.move .none rfl ?_
      refine JL.move .none rfl ?_
      obtain ⟨u834, hu834, hF⟩ := bind_some hF
      refine JL.shr rfl rfl (nneg_some hu834) .none rfl ?_
      refine JL.and rfl rfl .none rfl ?_
      refine JL.bin rfl rfl rfl .none rfl ?_
      refine JL.move .none rfl ?_
      obtain ⟨p836, hp836, hF⟩ := bind_some hF
      refine JL.cut 8 (fun f => f 0 = .func (.yield l) #[] #[] ∧ f 1 = .pointer (some ⟨c_0_b, 0, none⟩) ∧ f 2 = .pointer (some ⟨c_1_b, 0, none⟩) ∧ f 4 = .int .u16 gone ∧ f 5 = .int .u16 next ∧ f 6 = .int .i64 x ∧ f 10 = c_0_v1 ∧ f 11 = .int .i64 (c_0.ribs.length : Int) ∧ f 12 = .int .i64 x ∧ f 30 = .bool p836) ?_ ?_
      · intro hJ837
        rcases ite_some hp836 with ⟨hc838, hF⟩ | ⟨hc838, hF⟩
        · skip
          refine JL.loadH 0 mz_azB rfl (Cells.mono hs13 c_0_c) rfl (.some rfl rfl rfl hc838) rfl ?_
          refine JL.loadH 0 mz_azG rfl (Cells.mono hs13 c_1_c) rfl (.some rfl rfl rfl hc838) rfl ?_
          refine JL.move (.some rfl rfl rfl hc838) rfl ?_
          refine JL.move (.some rfl rfl rfl hc838) rfl ?_
          obtain ⟨y839, hy839, hF⟩ := bind_some hF
          refine JL.callS (c_gusts_blown_bears n H3 c_0 c_0_v1 (SL.mono RInt.mono hs13 hc_0_1) c_0_v2 (SL.mono RInt.mono hs13 hc_0_2) c_1 x gone y839 hy839) rfl mz_enB (.some rfl rfl rfl hc838) rfl ?_
          refine JL.move (.some rfl rfl rfl hc838) rfl ?_
          refine JL.bin rfl rfl rfl (.some rfl rfl rfl hc838) rfl ?_
          refine JL.pick_t (b := ((band .u16 (bshr .u16 gone x) 1) == 0)) rfl hc838 .none rfl ?_
          obtain rfl := Option.some.inj hF
          exact hJ837 _ ⟨rfl, rfl, rfl, rfl, rfl, rfl, rfl, rfl, rfl, rfl⟩
        · skip
          refine JL.skip (.bool rfl rfl rfl hc838) rfl ?_
          refine JL.skip (.bool rfl rfl rfl hc838) rfl ?_
          refine JL.skip (.bool rfl rfl rfl hc838) rfl ?_
          refine JL.skip (.bool rfl rfl rfl hc838) rfl ?_
          refine JL.skip (.bool rfl rfl rfl hc838) rfl ?_
          refine JL.skip (.bool rfl rfl rfl hc838) rfl ?_
          refine JL.skip (.bool rfl rfl rfl hc838) rfl ?_
          refine JL.pick_f (b := ((band .u16 (bshr .u16 gone x) 1) == 0)) rfl hc838 .none rfl ?_
          obtain rfl := Option.some.inj hF
          exact hJ837 _ ⟨rfl, rfl, rfl, rfl, rfl, rfl, rfl, rfl, rfl, rfl⟩
      · rintro f ⟨hf0, hf1, hf2, hf4, hf5, hf6, hf10, hf11, hf12, hf30⟩
        refine (JL.norm (i := 0) hf0 (JL.norm (i := 1) hf1 (JL.norm (i := 2) hf2 (JL.norm (i := 4) hf4 (JL.norm (i := 5) hf5 (JL.norm (i := 6) hf6 (JL.norm (i := 10) hf10 (JL.norm (i := 11) hf11 (JL.norm (i := 12) hf12 (JL.norm (i := 30) hf30 ?_))))))))))
        refine JL.done hQ ?_
        refine JQ.go ?_
        obtain ⟨r844, hlr844, hKr844⟩ := bind_some hF
        refine JC.join (fun (next2 : Int) H4 f bs gs => f 0 = .func (.yield l) #[] #[] ∧ f 1 = .pointer (some ⟨c_0_b, 0, none⟩) ∧ f 2 = .pointer (some ⟨c_1_b, 0, none⟩) ∧ f 4 = .int .u16 gone ∧ f 5 = .int .u16 next2 ∧ f 10 = c_0_v1 ∧ f 11 = .int .i64 (c_0.ribs.length : Int) ∧ f 12 = .int .i64 x ∧ A s H4 bs gs ∧ HSub H3 H4 ∧ next2 = r844) ?_ ?_
        · have hF := hlr844
          rcases ite_some hF with ⟨hc845, hF⟩ | ⟨hc845, hF⟩
          · refine JC.cond_t (b := p836) rfl hc845 ?_
            refine JC.region (by rfl) ?_
            intro hQ
            refine JL.move .none rfl ?_
            refine JL.move .none rfl ?_
            obtain ⟨u846, hu846, hF⟩ := bind_some hF
            refine JL.shl rfl rfl (nneg_some hu846) .none rfl ?_
            refine JL.or rfl rfl .none rfl ?_
            refine JL.assign .none rfl ?_
            refine JL.done hQ ?_
            obtain rfl := Option.some.inj hF
            exact JQ.join (bor .u16 next (bshl .u16 1 x)) ⟨rfl, rfl, rfl, rfl, rfl, rfl, rfl, rfl, hA3, (HSub.refl _), rfl⟩
          · refine JC.cond_f (b := p836) rfl hc845 ?_
            refine JC.skip ?_
            obtain rfl := Option.some.inj hF
            exact JQ.join next ⟨rfl, rfl, rfl, rfl, rfl, rfl, rfl, rfl, hA3, (HSub.refl _), rfl⟩
        · rintro next2 H4 f bs gs ⟨hf0, hf1, hf2, hf4, hf5, hf10, hf11, hf12, hA4, hs4, rfl⟩
          have hF := hKr844
          try dsimp only at hF
          refine (JQ.norm (i := 0) hf0 (JQ.norm (i := 1) hf1 (JQ.norm (i := 2) hf2 (JQ.norm (i := 4) hf4 (JQ.norm (i := 5) hf5 (JQ.norm (i := 10) hf10 (JQ.norm (i := 11) hf11 (JQ.norm (i := 12) hf12 ?_))))))))
          refine JQ.normal_block ?_
          refine JQ.go ?_
          refine JC.region (by rfl) ?_
          intro hQ
          refine JL.bin rfl rfl rfl .none rfl ?_
          refine JL.move .none rfl ?_
          refine JL.done hQ ?_
          obtain rfl := Option.some.inj hF
          exact JQ.next rfl ⟨rfl, rfl, rfl, rfl, rfl, rfl, rfl, rfl, hA4, (HSub.trans hs3 hs4)⟩
    · refine JC.cond_f (b := decide (x < (c_0.ribs.length : Int))) rfl hc ?_
      refine JC.exit ?_
      refine JQ.exit_then ?_
      refine JQ.exit_then ?_
      refine JQ.exit_block ?_
      obtain rfl := Option.some.inj hF
      have ehr1 := hr1 _ rfl
      subst ehr1
      exact JQ.join next ⟨rfl, rfl, rfl, rfl, rfl, hA3, hs3, rfl⟩
  · rintro next H3 f bs gs ⟨hf0, hf1, hf2, hf4, hf5, hA3, hs3, rfl⟩
    have hF := hK1
    try dsimp only at hF
    refine (JQ.norm (i := 0) hf0 (JQ.norm (i := 1) hf1 (JQ.norm (i := 2) hf2 (JQ.norm (i := 4) hf4 (JQ.norm (i := 5) hf5 ?_)))))
    refine JQ.go ?_
    refine JC.seq ?_
    rcases ite_some hF with ⟨hc, hF⟩ | ⟨hc, hF⟩
    · refine JC.seq ?_
      refine JC.region (by rfl) ?_
      intro hQ
      refine JL.move .none rfl ?_
      refine JL.move .none rfl ?_
      refine JL.bin rfl rfl rfl .none rfl ?_
      refine JL.move .none rfl ?_
      refine JL.skip (.bool rfl rfl rfl hc) rfl ?_
      refine JL.skip (.bool rfl rfl rfl hc) rfl ?_
      refine JL.skip (.bool rfl rfl rfl hc) rfl ?_
      refine JL.skip (.bool rfl rfl rfl hc) rfl ?_
      refine JL.pick_t (b := (next == gone)) rfl hc .none rfl ?_
      refine JL.done hQ ?_
      refine JQ.go ?_
      refine JC.cond_t (b := true) rfl rfl ?_
      refine JC.ret ?_
      refine JQ.ret_then ?_
      refine JQ.ret_block ?_
      refine JQ.ret_then ?_
      refine JQ.ret_block ?_
      obtain rfl := Option.some.inj hF
      have e2 := hr _ rfl
      subst e2
      exact (hout H3 _ [] bs gs (hs2.trans hs3) hA3).1
    · refine JC.seq ?_
      obtain ⟨y0, hy0, hF⟩ := bind_some hF
      refine JC.regionY _ 6 rfl rfl (by rfl) ?_
      intro hQ
      refine JL.move .none rfl ?_
      refine JL.move .none rfl ?_
      refine JL.bin rfl rfl rfl .none rfl ?_
      refine JL.move .none rfl ?_
      refine JL.move (.some rfl rfl rfl hc) rfl ?_
      refine JL.move (.some rfl rfl rfl hc) rfl ?_
      refine JL.atYieldG (A := A) (Ax := Ax) (y := y0) (tl := []) hQ (by rfl) rfl rfl (.some rfl rfl rfl hc) rfl rfl (fun w hw => hY s next y0 _ [] [] H3 bs gs w hA3 hy0 ⟨rfl, rfl⟩ hw) ?_ ?_
      · rintro s' H4 fr4 gs4 rfl hs4 hA4
        refine JL.not rfl (.some rfl rfl rfl hc) rfl ?_
        refine JL.pick_f (b := (next == gone)) rfl hc .none rfl ?_
        refine JL.done hQ ?_
        refine JQ.go ?_
        refine JC.cond_f (b := !true) rfl rfl ?_
        refine JC.skip ?_
        refine JQ.go ?_
        refine JC.region (by rfl) ?_
        intro hQ
        refine JL.move .none rfl ?_
        refine JL.assign .none rfl ?_
        refine JL.done hQ ?_
        refine JQ.normal_block ?_
        obtain rfl := Option.some.inj hF
        exact JQ.next rfl ⟨rfl, rfl, rfl, rfl, hA4, (hs2.trans hs3).trans hs4⟩
      · rintro e H4 fr4 gs4 rfl hs4 hA4
        refine JL.not rfl (.some rfl rfl rfl hc) rfl ?_
        refine JL.pick_f (b := (next == gone)) rfl hc .none rfl ?_
        refine JL.done hQ ?_
        refine JQ.go ?_
        refine JC.cond_t (b := !false) rfl rfl ?_
        refine JC.ret ?_
        refine JQ.ret_then ?_
        refine JQ.ret_block ?_
        refine JQ.ret_then ?_
        refine JQ.ret_block ?_
        obtain rfl := Option.some.inj hF
        have e2 := hr _ rfl
        subst e2
        exact (hout H4 _ [] fr4 gs4 ((hs2.trans hs3).trans hs4) hA4).1
end Go.Proofs.Yteihdclpiekmaaa
