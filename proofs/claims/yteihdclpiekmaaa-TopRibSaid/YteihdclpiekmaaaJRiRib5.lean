/-
  A part of the proof of RiRib: the texts RiGenK6, RiGenK7.
-/
import Derived.Test.YteihdclpiekmaaaJRiRib4
section
set_option maxRecDepth 100000
set_option maxHeartbeats 40000000
namespace Go.Proofs.Yteihdclpiekmaaa
open Go Go.RowKit Go.Dec
set_option linter.unusedVariables false
-- 30 ferrule/frames.Opens
def F_frames_Opens_s1 (n : Nat) (f_ : Frame) : Int × Int → Option ((Int × Int) ⊕ ((Int × Int) ⊕ Int))
 | (out_64, x_65) => if decide (x_65 < (f_.Sections.length : Int)) = true then ((F_frames_stuck n f_ x_65).bind fun y70 => if (y70 == 1) = true then (some (Sum.inr (Sum.inl (2, 0)))) else ((if (y70 == 3) = true then (some 3) else (some out_64)).bind fun out_73 => some (Sum.inl (out_73, (w64 (x_65 + 1)))))) else (some (Sum.inr (Sum.inr out_64)))
def F_frames_Opens (n : Nat) (f_ : Frame) : Option (Int × Int) :=
 (F_frames_Check n f_).bind fun y2 => if (y2 != 0) = true then (some (0, y2)) else ((loopO n (F_frames_Opens_s1 n f_) (1, 0)).bind fun r41 => match r41 with | .inl o => some o | .inr out_39 => some (out_39, 0))
theorem c_frames_Opens (n : Nat) (H : Hp) (f_ : Frame) (f__v0 : Value) (hf__0 : SL H 7 R_Section f__v0 f_.Sections) (y : Int × Int) (hF : F_frames_Opens n f_ = some y) : SC Try.prog 30 [.agg [f__v0, .int .i64 f_.Low, .int .i64 f_.High, .int .i64 f_.Ease.Num, .int .i64 f_.Ease.Den, .int .i64 f_.Rod, .int .i64 f_.Case].toArray] (.tuple [.int .i64 y.1, .int .i64 y.2].toArray) H := by
 rw [F_frames_Opens] at hF
 refine SC.of (N := 27) Try.func30 rfl rfl rfl fun w => ?_
 refine JC.seq (JC.region (by rfl) ?_)
 intro hQ
 refine JL.box (cs := [f__v0, .int .i64 f_.Low, .int .i64 f_.High, .int .i64 f_.Ease.Num, .int .i64 f_.Ease.Den, .int .i64 f_.Rod, .int .i64 f_.Case]) rfl .none rfl ?_
 intro b1
 refine JL.assign .none rfl ?_
 refine JL.assign .none rfl ?_
 refine JL.done hQ (JQ.go (JC.seq (JC.seq (JC.region (by rfl) ?_))))
 intro hQ
 refine JL.loadOwn 0 az_53 rfl rfl rfl .none rfl ?_
 obtain ⟨y2, hy2, hF⟩ := bind_some hF
 refine JL.callS (c_frames_Check n H f_ f__v0 hf__0 y2 hy2) rfl en_79 .none rfl ?_
 refine JL.assign .none rfl ?_
 refine JL.done hQ (JQ.go (JC.seq (JC.region (by rfl) ?_)))
 intro hQ
 refine JL.move .none rfl ?_
 refine JL.bin rfl rfl rfl .none rfl ?_
 refine JL.done hQ (JQ.go ?_)
 rcases ite_some hF with ⟨hc3, hF⟩ | ⟨hc3, hF⟩
 ·refine JC.cond_t (b := (y2 != 0)) rfl hc3 ?_
  refine JC.seq (JC.region (by rfl) ?_)
  intro hQ
  refine JL.move .none rfl ?_
  refine JL.assign .none rfl ?_
  refine JL.assign .none rfl ?_
  refine JL.done hQ (JQ.go (JC.ret (JQ.ret_then ?_)))
  obtain rfl := Option.some.inj hF
  exact JQ.outS rfl (.tmp (.tmp .nil)) rfl
 ·refine JC.cond_f (b := (y2 != 0)) rfl hc3 ?_
  refine JC.skip (JQ.go (JC.seq (JC.region (by rfl) ?_)))
  intro hQ
  refine JL.assign .none rfl ?_
  refine JL.done hQ (JQ.go (JC.seq (JC.seq (JC.region (by rfl) ?_))))
  intro hQ
  refine JL.fieldAddr fo_53_0 rfl .none rfl ?_
  refine JL.loadOwn 0 az_49 rfl rfl rfl .none rfl ?_
  refine JL.lenSL (R := R_Section) ul_49 hf__0 .none rfl ?_
  refine JL.move .none rfl ?_
  refine JL.done hQ (JQ.go (JC.fresh (fun f => f 1 = .pointer (some ⟨b1, 0, none⟩) ∧ f 2 = .int .i64 0 ∧ f 3 = .int .i64 0 ∧ f 5 = .int .i64 1 ∧ f 14 = .int .i64 (f_.Sections.length : Int) ∧ f 15 = .int .i64 0) ⟨rfl, rfl, rfl, rfl, rfl, rfl⟩ ?_))
  rintro f ⟨hf1, hf2, hf3, hf5, hf14, hf15⟩
  refine (JC.norm (i := 1) hf1 (JC.norm (i := 2) hf2 (JC.norm (i := 3) hf3 (JC.norm (i := 5) hf5 (JC.norm (i := 14) hf14 (JC.norm (i := 15) hf15 ?_))))))
  obtain ⟨r41, hlr41, hKr41⟩ := bind_some hF
  refine JC.join (fun (out_39 : Int) H40 f bs gs => f 5 = .int .i64 out_39 ∧ bs = [] ∧ gs = [] ∧ HSub H H40 ∧ Sum.inr out_39 = r41) ?_ ?_
  ·skip
   refine JC.block (JC.loop hlr41 (fun (x : Int × Int) H66 f bs gs => match x with | (out_64, x_65) => f 1 = .pointer (some ⟨b1, 0, none⟩) ∧ f 5 = .int .i64 out_64 ∧ f 14 = .int .i64 (f_.Sections.length : Int) ∧ f 15 = .int .i64 x_65 ∧ bs = [(b1, .cells [f__v0, .int .i64 f_.Low, .int .i64 f_.High, .int .i64 f_.Ease.Num, .int .i64 f_.Ease.Den, .int .i64 f_.Rod, .int .i64 f_.Case].toArray 53)] ∧ gs = [] ∧ HSub H H66) ⟨rfl, rfl, rfl, rfl, rfl, rfl, (HSub.refl _)⟩ ?_)
   rintro ⟨out_64, x_65⟩ x68 H66 f bs gs ⟨hf1, hf5, hf14, hf15, rfl, rfl, hs66⟩ hF hr67
   rw [F_frames_Opens_s1] at hF
   refine (JC.norm (i := 1) hf1 (JC.norm (i := 5) hf5 (JC.norm (i := 14) hf14 (JC.norm (i := 15) hf15 ?_))))
   refine JC.seq (JC.region (by rfl) ?_)
   intro hQ
   refine JL.bin rfl rfl rfl .none rfl ?_
   refine JL.done hQ (JQ.go (JC.seq ?_))
   rcases ite_some hF with ⟨hc69, hF⟩ | ⟨hc69, hF⟩
   ·refine JC.cond_t (b := decide (x_65 < (f_.Sections.length : Int))) rfl hc69 ?_
    refine JC.skip (JQ.go (JC.seq (JC.block (JC.seq (JC.region (by rfl) ?_)))))
    intro hQ
    refine JL.move .none rfl ?_
    refine JL.assign .none rfl ?_
    refine JL.done hQ (JQ.go (JC.seq (JC.region (by rfl) ?_)))
    intro hQ
    refine JL.loadOwn 0 az_53 rfl rfl rfl .none rfl ?_
    refine JL.move .none rfl ?_
    obtain ⟨y70, hy70, hF⟩ := bind_some hF
    refine JL.callS (c_frames_stuck n H66 f_ f__v0 (SL.mono R_Section_mono hs66 hf__0) x_65 y70 hy70) rfl en_80 .none rfl ?_
    refine JL.done hQ (JQ.go (JC.block (JC.seq (JC.region (by rfl) ?_))))
    intro hQ
    refine JL.bin rfl rfl rfl .none rfl ?_
    refine JL.assign .none rfl ?_
    refine JL.done hQ (JQ.go ?_)
    rcases ite_some hF with ⟨hc71, hF⟩ | ⟨hc71, hF⟩
    ·refine JC.cond_t (b := (y70 == 1)) rfl hc71 ?_
     refine JC.seq (JC.region (by rfl) ?_)
     intro hQ
     refine JL.assign .none rfl ?_
     refine JL.assign .none rfl ?_
     refine JL.done hQ (JQ.go (JC.fresh (fun f => f 2 = .int .i64 2 ∧ f 3 = .int .i64 0) ⟨rfl, rfl⟩ ?_))
     rintro f ⟨hf2, hf3⟩
     refine (JC.norm (i := 2) hf2 (JC.norm (i := 3) hf3 ?_))
     refine JC.ret (JQ.ret_block (JQ.ret_block (JQ.ret_then (JQ.ret_then (JQ.ret_block (JQ.ret_join (JQ.ret_then ?_)))))))
     obtain rfl := Option.some.inj hF
     have ehr67 := hr67 _ rfl
     subst ehr67
     have hF := hKr41
     try dsimp only at hF
     obtain rfl := Option.some.inj hF
     exact JQ.outS rfl (.tmp (.tmp .nil)) rfl
    ·refine JC.cond_f (b := (y70 == 1)) rfl hc71 ?_
     refine JC.seq (JC.region (by rfl) ?_)
     intro hQ
     refine JL.bin rfl rfl rfl .none rfl ?_
     refine JL.assign .none rfl ?_
     refine JL.done hQ (JQ.go (JC.fresh (fun f => f 1 = .pointer (some ⟨b1, 0, none⟩) ∧ f 5 = .int .i64 out_64 ∧ f 14 = .int .i64 (f_.Sections.length : Int) ∧ f 15 = .int .i64 x_65 ∧ f 23 = .bool (y70 == 3)) ⟨rfl, rfl, rfl, rfl, rfl⟩ ?_))
     rintro f ⟨hf1, hf5, hf14, hf15, hf23⟩
     refine (JC.norm (i := 1) hf1 (JC.norm (i := 5) hf5 (JC.norm (i := 14) hf14 (JC.norm (i := 15) hf15 (JC.norm (i := 23) hf23 ?_)))))
     obtain ⟨r75, hlr75, hKr75⟩ := bind_some hF
     refine JC.join (fun (out_73 : Int) H74 f bs gs => f 1 = .pointer (some ⟨b1, 0, none⟩) ∧ f 5 = .int .i64 out_73 ∧ f 14 = .int .i64 (f_.Sections.length : Int) ∧ f 15 = .int .i64 x_65 ∧ bs = [(b1, .cells [f__v0, .int .i64 f_.Low, .int .i64 f_.High, .int .i64 f_.Ease.Num, .int .i64 f_.Ease.Den, .int .i64 f_.Rod, .int .i64 f_.Case].toArray 53)] ∧ gs = [] ∧ HSub H66 H74 ∧ out_73 = r75) ?_ ?_
     ·have hF := hlr75
      rcases ite_some hF with ⟨hc76, hF⟩ | ⟨hc76, hF⟩
      ·refine JC.cond_t (b := (y70 == 3)) rfl hc76 ?_
       refine JC.region (by rfl) ?_
       intro hQ
       refine JL.assign .none rfl ?_
       refine JL.done hQ ?_
       obtain rfl := Option.some.inj hF
       exact JQ.join 3 ⟨rfl, rfl, rfl, rfl, rfl, rfl, (HSub.refl _), rfl⟩
      ·refine JC.cond_f (b := (y70 == 3)) rfl hc76 ?_
       refine JC.skip ?_
       obtain rfl := Option.some.inj hF
       exact JQ.join out_64 ⟨rfl, rfl, rfl, rfl, rfl, rfl, (HSub.refl _), rfl⟩
     ·rintro out_73 H74 f bs gs ⟨hf1, hf5, hf14, hf15, rfl, rfl, hs74, rfl⟩
      have hF := hKr75
      try dsimp only at hF
      refine (JQ.norm (i := 1) hf1 (JQ.norm (i := 5) hf5 (JQ.norm (i := 14) hf14 (JQ.norm (i := 15) hf15 ?_))))
      refine JQ.normal_block (JQ.normal_block (JQ.go (JC.region (by rfl) ?_)))
      intro hQ
      refine JL.bin rfl rfl rfl .none rfl ?_
      refine JL.move .none rfl ?_
      refine JL.done hQ ?_
      obtain rfl := Option.some.inj hF
      exact JQ.next rfl ⟨rfl, rfl, rfl, rfl, rfl, rfl, (HSub.trans hs66 hs74)⟩
   ·refine JC.cond_f (b := decide (x_65 < (f_.Sections.length : Int))) rfl hc69 ?_
    refine JC.exit (JQ.exit_then (JQ.exit_then (JQ.exit_block ?_)))
    obtain rfl := Option.some.inj hF
    have ehr67 := hr67 _ rfl
    subst ehr67
    refine JQ.mask [false] [] ?_
    exact JQ.join out_64 ⟨rfl, rfl, rfl, hs66, rfl⟩
  ·rintro out_39 H40 f bs gs ⟨hf5, rfl, rfl, hs40, rfl⟩
   have hF := hKr41
   try dsimp only at hF
   refine (JQ.norm (i := 5) hf5 ?_)
   refine JQ.go (JC.seq (JC.region (by rfl) ?_))
   intro hQ
   refine JL.move .none rfl ?_
   refine JL.assign .none rfl ?_
   refine JL.assign .none rfl ?_
   refine JL.done hQ (JQ.go (JC.ret ?_))
   obtain rfl := Option.some.inj hF
   exact JQ.outS rfl (.tmp (.tmp .nil)) rfl
-- 70 ferrule/ferrulelaw07.Example
def F_law07_Example (n : Nat)  : Option Workshop :=
 some (Workshop.mk [(Spare.mk 1 2 (Span.mk 300 310)), (Spare.mk 1 3 (Span.mk 305 305)), (Spare.mk 2 1 (Span.mk 50 60)), (Spare.mk 1 2 (Span.mk 320 330))] [(Make.mk [(Slot.mk 1 [2, 3] (Span.mk 300 306)), (Slot.mk 2 [1] (Span.mk 40 58))]), (Make.mk [(Slot.mk 1 [2] (Span.mk 310 326))])] 5 [(Trial.mk 0 1 0 0)])
theorem c_law07_Example (n : Nat) (H : Hp)  (y : Workshop) (hF : F_law07_Example n = some y) : HC Try.prog 70 [] H (fun H' v => ∃ ra_v0 ra_v1 ra_v3 : Value, v = .agg [ra_v0, ra_v1, .int .i64 y.Cut, ra_v3].toArray ∧ SL H' 4 R_Spare ra_v0 y.Spares ∧ SL H' 1 R_Make ra_v1 y.Makes ∧ SL H' 4 R_Trial ra_v3 y.Table) := by
 rw [F_law07_Example] at hF
 refine HC.of (N := 27) Try.func70 rfl rfl rfl fun w => ?_
 refine JC.seq (JC.region (by rfl) ?_)
 intro hQ
 refine JL.alloc ze_48 .none rfl ?_
 intro b1
 refine JL.done hQ (JQ.go (JC.seq (JC.region (by rfl) ?_)))
 intro hQ
 refine JL.build (l := [.int .i64 300, .int .i64 310]) (by kernel_rfl) .none rfl ?_
 refine JL.build (l := [.int .i64 1, .int .i64 2, .int .i64 300, .int .i64 310]) (by kernel_rfl) .none rfl ?_
 refine JL.build (l := [.int .i64 305, .int .i64 305]) (by kernel_rfl) .none rfl ?_
 refine JL.build (l := [.int .i64 1, .int .i64 3, .int .i64 305, .int .i64 305]) (by kernel_rfl) .none rfl ?_
 refine JL.build (l := [.int .i64 50, .int .i64 60]) (by kernel_rfl) .none rfl ?_
 refine JL.build (l := [.int .i64 2, .int .i64 1, .int .i64 50, .int .i64 60]) (by kernel_rfl) .none rfl ?_
 refine JL.build (l := [.int .i64 320, .int .i64 330]) (by kernel_rfl) .none rfl ?_
 refine JL.build (l := [.int .i64 1, .int .i64 2, .int .i64 320, .int .i64 330]) (by kernel_rfl) .none rfl ?_
 refine JL.buildSlice (e := 131) (l := [.int .i64 1, .int .i64 2, .int .i64 300, .int .i64 310, .int .i64 1, .int .i64 3, .int .i64 305, .int .i64 305, .int .i64 2, .int .i64 1, .int .i64 50, .int .i64 60, .int .i64 1, .int .i64 2, .int .i64 320, .int .i64 330]) (by kernel_rfl) .none rfl ?_
 intro b2
 refine JL.buildSlice (e := 3) (l := [.int .i64 2, .int .i64 3]) (by kernel_rfl) .none rfl ?_
 intro b3
 refine JL.build (l := [.int .i64 300, .int .i64 306]) (by kernel_rfl) .none rfl ?_
 refine JL.build (l := [.int .i64 1, .slice (some ⟨b3, 0, none⟩) 2 2, .int .i64 300, .int .i64 306]) (by kernel_rfl) .none rfl ?_
 refine JL.buildSlice (e := 3) (l := [.int .i64 1]) (by kernel_rfl) .none rfl ?_
 intro b4
 refine JL.build (l := [.int .i64 40, .int .i64 58]) (by kernel_rfl) .none rfl ?_
 refine JL.build (l := [.int .i64 2, .slice (some ⟨b4, 0, none⟩) 1 1, .int .i64 40, .int .i64 58]) (by kernel_rfl) .none rfl ?_
 refine JL.buildSlice (e := 129) (l := [.int .i64 1, .slice (some ⟨b3, 0, none⟩) 2 2, .int .i64 300, .int .i64 306, .int .i64 2, .slice (some ⟨b4, 0, none⟩) 1 1, .int .i64 40, .int .i64 58]) (by kernel_rfl) .none rfl ?_
 intro b5
 refine JL.build (l := [.slice (some ⟨b5, 0, none⟩) 2 2]) (by kernel_rfl) .none rfl ?_
 refine JL.buildSlice (e := 3) (l := [.int .i64 2]) (by kernel_rfl) .none rfl ?_
 intro b6
 refine JL.build (l := [.int .i64 310, .int .i64 326]) (by kernel_rfl) .none rfl ?_
 refine JL.build (l := [.int .i64 1, .slice (some ⟨b6, 0, none⟩) 1 1, .int .i64 310, .int .i64 326]) (by kernel_rfl) .none rfl ?_
 refine JL.buildSlice (e := 129) (l := [.int .i64 1, .slice (some ⟨b6, 0, none⟩) 1 1, .int .i64 310, .int .i64 326]) (by kernel_rfl) .none rfl ?_
 intro b7
 refine JL.build (l := [.slice (some ⟨b7, 0, none⟩) 1 1]) (by kernel_rfl) .none rfl ?_
 refine JL.buildSlice (e := 127) (l := [.slice (some ⟨b5, 0, none⟩) 2 2, .slice (some ⟨b7, 0, none⟩) 1 1]) (by kernel_rfl) .none rfl ?_
 intro b8
 refine JL.build (l := [.int .i64 0, .int .i64 1, .int .i64 0, .int .i64 0]) (by kernel_rfl) .none rfl ?_
 refine JL.buildSlice (e := 55) (l := [.int .i64 0, .int .i64 1, .int .i64 0, .int .i64 0]) (by kernel_rfl) .none rfl ?_
 intro b9
 refine JL.build (l := [.slice (some ⟨b2, 0, none⟩) 4 4, .slice (some ⟨b8, 0, none⟩) 2 2, .int .i64 5, .slice (some ⟨b9, 0, none⟩) 1 1]) (by kernel_rfl) .none rfl ?_
 refine JL.storeOwn 8 (cs := [.slice (some ⟨b2, 0, none⟩) 4 4, .slice (some ⟨b8, 0, none⟩) 2 2, .int .i64 5, .slice (some ⟨b9, 0, none⟩) 1 1]) az_48 rfl rfl rfl (one_cons rfl (one_cons rfl (one_cons rfl (one_cons rfl one_nil)))) rfl rfl .none ?_
 refine JL.done hQ (JQ.go (JC.fresh (fun f => f 0 = .pointer (some ⟨b1, 0, none⟩)) rfl ?_))
 rintro f hf0
 refine (JC.norm (i := 0) hf0 ?_)
 refine JC.ret (JQ.freezeC 7 (l := [.int .i64 1, .int .i64 2, .int .i64 300, .int .i64 310, .int .i64 1, .int .i64 3, .int .i64 305, .int .i64 305, .int .i64 2, .int .i64 1, .int .i64 50, .int .i64 60, .int .i64 1, .int .i64 2, .int .i64 320, .int .i64 330]) rfl ?_)
 intro H10 hs10 hc11
 have hg12 : SL H10 4 R_Spare (.slice (some ⟨b2, 0, none⟩) 4 4) [(Spare.mk 1 2 (Span.mk 300 310)), (Spare.mk 1 3 (Span.mk 305 305)), (Spare.mk 2 1 (Span.mk 50 60)), (Spare.mk 1 2 (Span.mk 320 330))] := CH.sl (l := [(Spare.mk 1 2 (Span.mk 300 310)), (Spare.mk 1 3 (Span.mk 305 305)), (Spare.mk 2 1 (Span.mk 50 60)), (Spare.mk 1 2 (Span.mk 320 330))]) (CH.cons (cs := [.int .i64 1, .int .i64 2, .int .i64 300, .int .i64 310]) rfl rfl (CH.cons (cs := [.int .i64 1, .int .i64 3, .int .i64 305, .int .i64 305]) rfl rfl (CH.cons (cs := [.int .i64 2, .int .i64 1, .int .i64 50, .int .i64 60]) rfl rfl (CH.cons (cs := [.int .i64 1, .int .i64 2, .int .i64 320, .int .i64 330]) rfl rfl CH.nil)))) hc11 ⟨by simp, by simp⟩
 refine JQ.freezeC 6 (l := [.int .i64 2, .int .i64 3]) rfl ?_
 intro H13 hs13 hc14
 have hg15 : SL H13 1 RInt (.slice (some ⟨b3, 0, none⟩) 2 2) [2, 3] := CH.sl (l := [2, 3]) (CH.cons (cs := [.int .i64 2]) rfl rfl (CH.cons (cs := [.int .i64 3]) rfl rfl CH.nil)) hc14 ⟨by simp, by simp⟩
 refine JQ.freezeC 5 (l := [.int .i64 1]) rfl ?_
 intro H16 hs16 hc17
 have hg18 : SL H16 1 RInt (.slice (some ⟨b4, 0, none⟩) 1 1) [1] := CH.sl (l := [1]) (CH.cons (cs := [.int .i64 1]) rfl rfl CH.nil) hc17 ⟨by simp, by simp⟩
 refine JQ.freezeC 4 (l := [.int .i64 1, (.slice (some ⟨b3, 0, none⟩) 2 2), .int .i64 300, .int .i64 306, .int .i64 2, (.slice (some ⟨b4, 0, none⟩) 1 1), .int .i64 40, .int .i64 58]) rfl ?_
 intro H19 hs19 hc20
 have hg21 : SL H19 4 R_Slot (.slice (some ⟨b5, 0, none⟩) 2 2) [(Slot.mk 1 [2, 3] (Span.mk 300 306)), (Slot.mk 2 [1] (Span.mk 40 58))] := CH.sl (l := [(Slot.mk 1 [2, 3] (Span.mk 300 306)), (Slot.mk 2 [1] (Span.mk 40 58))]) (CH.cons (cs := [.int .i64 1, (.slice (some ⟨b3, 0, none⟩) 2 2), .int .i64 300, .int .i64 306]) rfl ⟨(.slice (some ⟨b3, 0, none⟩) 2 2), rfl, (SL.mono RInt.mono (HSub.trans hs16 hs19) hg15)⟩ (CH.cons (cs := [.int .i64 2, (.slice (some ⟨b4, 0, none⟩) 1 1), .int .i64 40, .int .i64 58]) rfl ⟨(.slice (some ⟨b4, 0, none⟩) 1 1), rfl, (SL.mono RInt.mono hs19 hg18)⟩ CH.nil)) hc20 ⟨by simp, by simp⟩
 refine JQ.freezeC 3 (l := [.int .i64 2]) rfl ?_
 intro H22 hs22 hc23
 have hg24 : SL H22 1 RInt (.slice (some ⟨b6, 0, none⟩) 1 1) [2] := CH.sl (l := [2]) (CH.cons (cs := [.int .i64 2]) rfl rfl CH.nil) hc23 ⟨by simp, by simp⟩
 refine JQ.freezeC 2 (l := [.int .i64 1, (.slice (some ⟨b6, 0, none⟩) 1 1), .int .i64 310, .int .i64 326]) rfl ?_
 intro H25 hs25 hc26
 have hg27 : SL H25 4 R_Slot (.slice (some ⟨b7, 0, none⟩) 1 1) [(Slot.mk 1 [2] (Span.mk 310 326))] := CH.sl (l := [(Slot.mk 1 [2] (Span.mk 310 326))]) (CH.cons (cs := [.int .i64 1, (.slice (some ⟨b6, 0, none⟩) 1 1), .int .i64 310, .int .i64 326]) rfl ⟨(.slice (some ⟨b6, 0, none⟩) 1 1), rfl, (SL.mono RInt.mono hs25 hg24)⟩ CH.nil) hc26 ⟨by simp, by simp⟩
 refine JQ.freezeC 1 (l := [(.slice (some ⟨b5, 0, none⟩) 2 2), (.slice (some ⟨b7, 0, none⟩) 1 1)]) rfl ?_
 intro H28 hs28 hc29
 have hg30 : SL H28 1 R_Make (.slice (some ⟨b8, 0, none⟩) 2 2) [(Make.mk [(Slot.mk 1 [2, 3] (Span.mk 300 306)), (Slot.mk 2 [1] (Span.mk 40 58))]), (Make.mk [(Slot.mk 1 [2] (Span.mk 310 326))])] := CH.sl (l := [(Make.mk [(Slot.mk 1 [2, 3] (Span.mk 300 306)), (Slot.mk 2 [1] (Span.mk 40 58))]), (Make.mk [(Slot.mk 1 [2] (Span.mk 310 326))])]) (CH.cons (cs := [(.slice (some ⟨b5, 0, none⟩) 2 2)]) rfl ⟨(.slice (some ⟨b5, 0, none⟩) 2 2), rfl, (SL.mono R_Slot_mono (HSub.trans hs22 (HSub.trans hs25 hs28)) hg21)⟩ (CH.cons (cs := [(.slice (some ⟨b7, 0, none⟩) 1 1)]) rfl ⟨(.slice (some ⟨b7, 0, none⟩) 1 1), rfl, (SL.mono R_Slot_mono hs28 hg27)⟩ CH.nil)) hc29 ⟨by simp, by simp⟩
 refine JQ.freezeC 0 (l := [.int .i64 0, .int .i64 1, .int .i64 0, .int .i64 0]) rfl ?_
 intro H31 hs31 hc32
 have hg33 : SL H31 4 R_Trial (.slice (some ⟨b9, 0, none⟩) 1 1) [(Trial.mk 0 1 0 0)] := CH.sl (l := [(Trial.mk 0 1 0 0)]) (CH.cons (cs := [.int .i64 0, .int .i64 1, .int .i64 0, .int .i64 0]) rfl rfl CH.nil) hc32 ⟨by simp, by simp⟩
 obtain rfl := Option.some.inj hF
 exact JQ.outH rfl (.cell 0 az_48 rfl rfl rfl .nil) ⟨(.slice (some ⟨b2, 0, none⟩) 4 4), (.slice (some ⟨b8, 0, none⟩) 2 2), (.slice (some ⟨b9, 0, none⟩) 1 1), rfl, (SL.mono R_Spare_mono (HSub.trans hs13 (HSub.trans hs16 (HSub.trans hs19 (HSub.trans hs22 (HSub.trans hs25 (HSub.trans hs28 hs31)))))) hg12), (SL.mono R_Make_mono hs31 hg30), hg33⟩
-- 123 ferrule/parts.within
def F_parts_within (n : Nat) (n_ : Int) (low : Int) (high : Int) : Option Bool :=
 some ((decide (low ≤ n_)) && (decide (n_ ≤ high)))
theorem c_parts_within (n : Nat) (H : Hp) (n_ : Int) (low : Int) (high : Int) (y : Bool) (hF : F_parts_within n n_ low high = some y) : SC Try.prog 123 [.int .i64 n_, .int .i64 low, .int .i64 high] (.bool y) H := by
 rw [F_parts_within] at hF
 refine SC.of (N := 15) Try.func123 rfl rfl rfl fun w => ?_
 refine JC.seq (JC.region (by rfl) ?_)
 intro hQ
 refine JL.assign .none rfl ?_
 refine JL.done hQ (JQ.go (JC.seq (JC.region (by rfl) ?_)))
 intro hQ
 refine JL.move .none rfl ?_
 refine JL.move .none rfl ?_
 refine JL.bin rfl rfl rfl .none rfl ?_
 refine JL.move .none rfl ?_
 refine JL.cut 4 (fun f => f 14 = .bool ((decide (low ≤ n_)) && (decide (n_ ≤ high)))) ?_ ?_
 ·intro hJ1
  rcases bcases (decide (low ≤ n_)) with hc2 | hc2
  ·skip
   refine JL.move (.some rfl rfl rfl hc2) rfl ?_
   refine JL.move (.some rfl rfl rfl hc2) rfl ?_
   refine JL.bin rfl rfl rfl (.some rfl rfl rfl hc2) rfl ?_
   refine JL.pick_t (b := decide (low ≤ n_)) rfl hc2 .none rfl ?_
   exact hJ1 _ (and_t hc2 rfl)
  ·skip
   refine JL.skip (.bool rfl rfl rfl hc2) rfl ?_
   refine JL.skip (.bool rfl rfl rfl hc2) rfl ?_
   refine JL.skip (.bool rfl rfl rfl hc2) rfl ?_
   refine JL.pick_f (b := decide (low ≤ n_)) rfl hc2 .none rfl ?_
   exact hJ1 _ (and_f hc2 rfl)
 ·rintro f hf14
  refine (JL.norm (i := 14) hf14 ?_)
  refine JL.assign .none rfl ?_
  refine JL.done hQ (JQ.go (JC.ret ?_))
  obtain rfl := Option.some.inj hF
  exact JQ.outS rfl (.tmp .nil) rfl
-- 72 ferrule/parts.isSpare
def F_parts_isSpare (n : Nat) (w_ : Workshop) (n_ : Int) : Option Bool :=
 (F_parts_within n n_ 0 (w64 ((w_.Spares.length : Int) - 1))).bind fun y2 => some y2
theorem c_parts_isSpare (n : Nat) (H : Hp) (w_ : Workshop) (w__v0 : Value) (hw__0 : SL H 4 R_Spare w__v0 w_.Spares) (w__v1 : Value) (hw__1 : SL H 1 R_Make w__v1 w_.Makes) (w__v3 : Value) (hw__3 : SL H 4 R_Trial w__v3 w_.Table) (n_ : Int) (y : Bool) (hF : F_parts_isSpare n w_ n_ = some y) : SC Try.prog 72 [.agg [w__v0, w__v1, .int .i64 w_.Cut, w__v3].toArray, .int .i64 n_] (.bool y) H := by
 rw [F_parts_isSpare] at hF
 refine SC.of (N := 11) Try.func72 rfl rfl rfl fun w => ?_
 refine JC.seq (JC.region (by rfl) ?_)
 intro hQ
 refine JL.box (cs := [w__v0, w__v1, .int .i64 w_.Cut, w__v3]) rfl .none rfl ?_
 intro b1
 refine JL.assign .none rfl ?_
 refine JL.done hQ (JQ.go (JC.seq (JC.region (by rfl) ?_)))
 intro hQ
 refine JL.move .none rfl ?_
 refine JL.fieldAddr fo_48_0 rfl .none rfl ?_
 refine JL.loadOwn 0 az_44 rfl rfl rfl .none rfl ?_
 refine JL.lenSL (R := R_Spare) ul_44 hw__0 .none rfl ?_
 refine JL.bin rfl rfl rfl .none rfl ?_
 obtain ⟨y2, hy2, hF⟩ := bind_some hF
 refine JL.callS (c_parts_within n H n_ 0 (w64 ((w_.Spares.length : Int) - 1)) y2 hy2) rfl en_123 .none rfl ?_
 refine JL.assign .none rfl ?_
 refine JL.done hQ (JQ.go (JC.ret ?_))
 obtain rfl := Option.some.inj hF
 exact JQ.outS rfl (.tmp .nil) rfl
-- 204 ferrule/parts.isMark
def F_parts_isMark (n : Nat) (n_ : Int) : Option Bool :=
 (F_parts_within n n_ 0 9).bind fun y1 => some y1
theorem c_parts_isMark (n : Nat) (H : Hp) (n_ : Int) (y : Bool) (hF : F_parts_isMark n n_ = some y) : SC Try.prog 204 [.int .i64 n_] (.bool y) H := by
 rw [F_parts_isMark] at hF
 refine SC.of (N := 5) Try.func204 rfl rfl rfl fun w => ?_
 refine JC.seq (JC.region (by rfl) ?_)
 intro hQ
 refine JL.assign .none rfl ?_
 refine JL.done hQ (JQ.go (JC.seq (JC.region (by rfl) ?_)))
 intro hQ
 refine JL.move .none rfl ?_
 obtain ⟨y1, hy1, hF⟩ := bind_some hF
 refine JL.callS (c_parts_within n H n_ 0 9 y1 hy1) rfl en_123 .none rfl ?_
 refine JL.assign .none rfl ?_
 refine JL.done hQ (JQ.go (JC.ret ?_))
 obtain rfl := Option.some.inj hF
 exact JQ.outS rfl (.tmp .nil) rfl
-- 205 ferrule/parts.isLength
def F_parts_isLength (n : Nat) (s : Span) : Option Bool :=
 (F_parts_within n s.Low 0 s.High).bind fun y2 => some (y2 && (decide (s.High ≤ 999)))
theorem c_parts_isLength (n : Nat) (H : Hp) (s : Span) (y : Bool) (hF : F_parts_isLength n s = some y) : SC Try.prog 205 [.agg [.int .i64 s.Low, .int .i64 s.High].toArray] (.bool y) H := by
 rw [F_parts_isLength] at hF
 refine SC.of (N := 13) Try.func205 rfl rfl rfl fun w => ?_
 refine JC.seq (JC.region (by rfl) ?_)
 intro hQ
 refine JL.box (cs := [.int .i64 s.Low, .int .i64 s.High]) rfl .none rfl ?_
 intro b1
 refine JL.assign .none rfl ?_
 refine JL.done hQ (JQ.go (JC.seq (JC.region (by rfl) ?_)))
 intro hQ
 refine JL.fieldAddr fo_39_0 rfl .none rfl ?_
 refine JL.loadOwn 0 az_3 rfl rfl rfl .none rfl ?_
 refine JL.fieldAddr fo_39_1 rfl .none rfl ?_
 refine JL.loadOwn 0 az_3 rfl rfl rfl .none rfl ?_
 obtain ⟨y2, hy2, hF⟩ := bind_some hF
 refine JL.callS (c_parts_within n H s.Low 0 s.High y2 hy2) rfl en_123 .none rfl ?_
 refine JL.move .none rfl ?_
 refine JL.cut 4 (fun f => f 12 = .bool (y2 && (decide (s.High ≤ 999)))) ?_ ?_
 ·intro hJ3
  rcases bcases y2 with hc4 | hc4
  ·skip
   refine JL.fieldAddr fo_39_1 rfl (.some rfl rfl rfl hc4) rfl ?_
   refine JL.loadOwn 0 az_3 rfl rfl rfl (.some rfl rfl rfl hc4) rfl ?_
   refine JL.bin rfl rfl rfl (.some rfl rfl rfl hc4) rfl ?_
   refine JL.pick_t (b := y2) rfl hc4 .none rfl ?_
   exact hJ3 _ (and_t hc4 rfl)
  ·skip
   refine JL.skip (.bool rfl rfl rfl hc4) rfl ?_
   refine JL.skip (.bool rfl rfl rfl hc4) rfl ?_
   refine JL.skip (.bool rfl rfl rfl hc4) rfl ?_
   refine JL.pick_f (b := y2) rfl hc4 .none rfl ?_
   exact hJ3 _ (and_f hc4 rfl)
 ·rintro f hf12
  refine (JL.norm (i := 12) hf12 ?_)
  refine JL.assign .none rfl ?_
  refine JL.done hQ (JQ.go (JC.ret ?_))
  obtain rfl := Option.some.inj hF
  exact JQ.outS rfl (.tmp .nil) rfl
-- 203 ferrule/parts.isWorkshop$1
def F_parts_isWorkshop_1 (n : Nat) (s : Spare) : Option Bool :=
 (F_parts_isMark n s.Kind).bind fun y2 => (if y2 = true then ((F_parts_isMark n s.Section).bind fun y7 => some y7) else (some false) : Option Bool).bind fun p4 => (if p4 = true then ((F_parts_isLength n s.Length).bind fun y12 => some y12) else (some false) : Option Bool).bind fun p9 => some p9
theorem c_parts_isWorkshop_1 (n : Nat) (H : Hp) (s : Spare) (y : Bool) (hF : F_parts_isWorkshop_1 n s = some y) : SC Try.prog 203 [.agg [.int .i64 s.Kind, .int .i64 s.Section, .int .i64 s.Length.Low, .int .i64 s.Length.High].toArray] (.bool y) H := by
 rw [F_parts_isWorkshop_1] at hF
 refine SC.of (N := 16) Try.func203 rfl rfl rfl fun w => ?_
 refine JC.seq (JC.region (by rfl) ?_)
 intro hQ
 refine JL.box (cs := [.int .i64 s.Kind, .int .i64 s.Section, .int .i64 s.Length.Low, .int .i64 s.Length.High]) rfl .none rfl ?_
 intro b1
 refine JL.assign .none rfl ?_
 refine JL.done hQ (JQ.go (JC.seq (JC.region (by rfl) ?_)))
 intro hQ
 refine JL.fieldAddr fo_131_0 rfl .none rfl ?_
 refine JL.loadOwn 0 az_3 rfl rfl rfl .none rfl ?_
 obtain ⟨y2, hy2, hF⟩ := bind_some hF
 refine JL.callS (c_parts_isMark n H s.Kind y2 hy2) rfl en_204 .none rfl ?_
 refine JL.move .none rfl ?_
 obtain ⟨p4, hp4, hF⟩ := bind_some hF
 refine JL.cut 4 (fun f => f 1 = .pointer (some ⟨b1, 0, none⟩) ∧ f 10 = .bool p4) ?_ ?_
 ·intro hJ5
  rcases ite_some hp4 with ⟨hc6, hF⟩ | ⟨hc6, hF⟩
  ·skip
   refine JL.fieldAddr fo_131_1 rfl (.some rfl rfl rfl hc6) rfl ?_
   refine JL.loadOwn 0 az_3 rfl rfl rfl (.some rfl rfl rfl hc6) rfl ?_
   obtain ⟨y7, hy7, hF⟩ := bind_some hF
   refine JL.callS (c_parts_isMark n H s.Section y7 hy7) rfl en_204 (.some rfl rfl rfl hc6) rfl ?_
   refine JL.pick_t (b := y2) rfl hc6 .none rfl ?_
   obtain rfl := Option.some.inj hF
   exact hJ5 _ ⟨rfl, rfl⟩
  ·skip
   refine JL.skip (.bool rfl rfl rfl hc6) rfl ?_
   refine JL.skip (.bool rfl rfl rfl hc6) rfl ?_
   refine JL.skip (.bool rfl rfl rfl hc6) rfl ?_
   refine JL.pick_f (b := y2) rfl hc6 .none rfl ?_
   obtain rfl := Option.some.inj hF
   exact hJ5 _ ⟨rfl, rfl⟩
 ·rintro f ⟨hf1, hf10⟩
  refine (JL.norm (i := 1) hf1 (JL.norm (i := 10) hf10 ?_))
  refine JL.move .none rfl ?_
  obtain ⟨p9, hp9, hF⟩ := bind_some hF
  refine JL.cut 4 (fun f => f 15 = .bool p9) ?_ ?_
  ·intro hJ10
   rcases ite_some hp9 with ⟨hc11, hF⟩ | ⟨hc11, hF⟩
   ·skip
    refine JL.fieldAddr fo_131_2 rfl (.some rfl rfl rfl hc11) rfl ?_
    refine JL.loadOwn 0 az_39 rfl rfl rfl (.some rfl rfl rfl hc11) rfl ?_
    obtain ⟨y12, hy12, hF⟩ := bind_some hF
    refine JL.callS (c_parts_isLength n H s.Length y12 hy12) rfl en_205 (.some rfl rfl rfl hc11) rfl ?_
    refine JL.pick_t (b := p4) rfl hc11 .none rfl ?_
    obtain rfl := Option.some.inj hF
    exact hJ10 _ (rfl)
   ·skip
    refine JL.skip (.bool rfl rfl rfl hc11) rfl ?_
    refine JL.skip (.bool rfl rfl rfl hc11) rfl ?_
    refine JL.skip (.bool rfl rfl rfl hc11) rfl ?_
    refine JL.pick_f (b := p4) rfl hc11 .none rfl ?_
    obtain rfl := Option.some.inj hF
    exact hJ10 _ (rfl)
  ·rintro f hf15
   refine (JL.norm (i := 15) hf15 ?_)
   refine JL.assign .none rfl ?_
   refine JL.done hQ (JQ.go (JC.ret ?_))
   obtain rfl := Option.some.inj hF
   exact JQ.outS rfl (.tmp .nil) rfl
-- 231 ferrule/parts.all[int]$1
def F_parts_all_int__1 (n : Nat) (x_ : Int) (c_0 : Int → Option Bool) : Option Bool :=
 (c_0 x_).bind fun y1 => some (!y1)
theorem c_parts_all_int__1 (n : Nat) (H : Hp) (x_ : Int) (c_0 : Int → Option Bool) (c_0_v0 : Value) (hc_0_0 : FN_124 H c_0_v0 c_0) (c_0_b : Nat) (c_0_c : Cells H c_0_b 0 [c_0_v0]) (y : Bool) (hF : F_parts_all_int__1 n x_ c_0 = some y) : SC Try.prog 231 [.int .i64 x_, .pointer (some ⟨c_0_b, 0, none⟩)] (.bool y) H := by
 rw [F_parts_all_int__1] at hF
 refine SC.of (N := 8) Try.func231 rfl rfl rfl fun w => ?_
 refine JC.seq (JC.region (by rfl) ?_)
 intro hQ
 refine JL.assign .none rfl ?_
 refine JL.done hQ (JQ.go (JC.seq (JC.region (by rfl) ?_)))
 intro hQ
 refine JL.loadH 0 az_124 rfl c_0_c rfl .none rfl ?_
 refine JL.move .none rfl ?_
 obtain ⟨y1, hy1, hF⟩ := bind_some hF
 obtain ⟨fk2, fc3, hv4, fe5, fh6⟩ := hc_0_0
 refine JL.callV hv4 (fh6 H (HSub.refl _) x_ y1 hy1) rfl fe5 .none rfl ?_
 refine JL.not rfl .none rfl ?_
 refine JL.assign .none rfl ?_
 refine JL.done hQ (JQ.go (JC.ret ?_))
 obtain rfl := Option.some.inj hF
 exact JQ.outS rfl (.tmp .nil) rfl
-- 178 slices.IndexFunc[[]int,int]
def F_slices_IndexFunc___int_int__s1 (n : Nat) (s : List Int) (f_ : Int → Option Bool) : Int → Option (Int ⊕ (Int ⊕ Unit))
 | x_55 => if decide (x_55 < (s.length : Int)) = true then ((geti s x_55).bind fun y60 => (f_ y60).bind fun y65 => if y65 = true then (some (Sum.inr (Sum.inl x_55))) else (some (Sum.inl (w64 (x_55 + 1))))) else (some (Sum.inr (Sum.inr ())))
def F_slices_IndexFunc___int_int_ (n : Nat) (s : List Int) (f_ : Int → Option Bool) : Option Int :=
 (loopO n (F_slices_IndexFunc___int_int__s1 n s f_) 0).bind fun r34 => match r34 with | .inl o => some o | .inr _ => some (-1)
theorem c_slices_IndexFunc___int_int_ (n : Nat) (H : Hp) (s : List Int) (s_v0 : Value) (hs_0 : SL H 1 RInt s_v0 s) (f_ : Int → Option Bool) (f__k : Nat) (f__c : List Value) (f__e : Ent Try.prog f__k) (f__h : ∀ H', HSub H H' → ∀ (a0_ : Int) (y : Bool), f_ a0_ = some y → SC Try.prog f__k ([.int .i64 a0_] ++ f__c) (.bool y) H') (y : Int) (hF : F_slices_IndexFunc___int_int_ n s f_ = some y) : SC Try.prog 178 [s_v0, .func (.func f__k) #[] f__c.toArray] (.int .i64 y) H := by
 rw [F_slices_IndexFunc___int_int_] at hF
 refine SC.of (N := 19) Try.func178 rfl rfl rfl fun w => ?_
 refine JC.seq (JC.region (by rfl) ?_)
 intro hQ
 refine JL.assign .none rfl ?_
 refine JL.done hQ (JQ.go (JC.seq (JC.seq (JC.region (by rfl) ?_))))
 intro hQ
 refine JL.move .none rfl ?_
 refine JL.lenSL (R := RInt) ul_23 hs_0 .none rfl ?_
 refine JL.move .none rfl ?_
 refine JL.done hQ (JQ.go ?_)
 obtain ⟨r34, hlr34, hKr34⟩ := bind_some hF
 refine JC.join (fun (_ : Unit) H33 f bs gs => bs = [] ∧ gs = [] ∧ HSub H H33 ∧ Sum.inr () = r34) ?_ ?_
 ·skip
  refine JC.block (JC.loop hlr34 (fun (x_55 : Int) H56 f bs gs => f 0 = s_v0 ∧ f 1 = .func (.func f__k) #[] f__c.toArray ∧ f 7 = .int .i64 (s.length : Int) ∧ f 8 = .int .i64 x_55 ∧ bs = [] ∧ gs = [] ∧ HSub H H56) ⟨rfl, rfl, rfl, rfl, rfl, rfl, (HSub.refl _)⟩ ?_)
  rintro x_55 x58 H56 f bs gs ⟨hf0, hf1, hf7, hf8, rfl, rfl, hs56⟩ hF hr57
  rw [F_slices_IndexFunc___int_int__s1] at hF
  refine (JC.norm (i := 0) hf0 (JC.norm (i := 1) hf1 (JC.norm (i := 7) hf7 (JC.norm (i := 8) hf8 ?_))))
  refine JC.seq (JC.region (by rfl) ?_)
  intro hQ
  refine JL.bin rfl rfl rfl .none rfl ?_
  refine JL.done hQ (JQ.go (JC.seq ?_))
  rcases ite_some hF with ⟨hc59, hF⟩ | ⟨hc59, hF⟩
  ·refine JC.cond_t (b := decide (x_55 < (s.length : Int))) rfl hc59 ?_
   refine JC.skip (JQ.go (JC.seq (JC.block (JC.seq (JC.region (by rfl) ?_)))))
   intro hQ
   refine JL.move .none rfl ?_
   refine JL.assign .none rfl ?_
   refine JL.done hQ (JQ.go (JC.seq (JC.region (by rfl) ?_)))
   intro hQ
   refine JL.move .none rfl ?_
   refine JL.move .none rfl ?_
   refine JL.move .none rfl ?_
   obtain ⟨y60, hy60, hF⟩ := bind_some hF
   refine JL.indexSL (R := RInt) sl_23 (SL.mono RInt.mono hs56 hs_0) rfl hy60 .none rfl ?_
   rintro b61 o62 cs63 hc64 - rfl
   refine JL.loadH 0 az_3 rfl hc64 rfl .none rfl ?_
   obtain ⟨y65, hy65, hF⟩ := bind_some hF
   refine JL.callV rfl (f__h H56 hs56 y60 y65 hy65) rfl f__e .none rfl ?_
   refine JL.done hQ (JQ.go ?_)
   rcases ite_some hF with ⟨hc66, hF⟩ | ⟨hc66, hF⟩
   ·refine JC.cond_t (b := y65) rfl hc66 ?_
    refine JC.seq (JC.region (by rfl) ?_)
    intro hQ
    refine JL.move .none rfl ?_
    refine JL.assign .none rfl ?_
    refine JL.done hQ (JQ.go (JC.fresh (fun f => f 4 = .int .i64 x_55) rfl ?_))
    rintro f hf4
    refine (JC.norm (i := 4) hf4 ?_)
    refine JC.ret (JQ.ret_block (JQ.ret_then (JQ.ret_then (JQ.ret_block (JQ.ret_join (JQ.ret_then ?_))))))
    obtain rfl := Option.some.inj hF
    have ehr57 := hr57 _ rfl
    subst ehr57
    have hF := hKr34
    try dsimp only at hF
    obtain rfl := Option.some.inj hF
    exact JQ.outS rfl (.tmp .nil) rfl
   ·refine JC.cond_f (b := y65) rfl hc66 ?_
    refine JC.skip (JQ.normal_block (JQ.go (JC.region (by rfl) ?_)))
    intro hQ
    refine JL.bin rfl rfl rfl .none rfl ?_
    refine JL.move .none rfl ?_
    refine JL.done hQ ?_
    obtain rfl := Option.some.inj hF
    exact JQ.next rfl ⟨rfl, rfl, rfl, rfl, rfl, rfl, hs56⟩
  ·refine JC.cond_f (b := decide (x_55 < (s.length : Int))) rfl hc59 ?_
   refine JC.exit (JQ.exit_then (JQ.exit_then (JQ.exit_block ?_)))
   obtain rfl := Option.some.inj hF
   have ehr57 := hr57 _ rfl
   subst ehr57
   exact JQ.join () ⟨rfl, rfl, hs56, rfl⟩
 ·rintro _ H33 f bs gs ⟨rfl, rfl, hs33, rfl⟩
  have hF := hKr34
  try dsimp only at hF
  refine JQ.go (JC.seq (JC.region (by rfl) ?_))
  intro hQ
  refine JL.assign .none rfl ?_
  refine JL.done hQ (JQ.go (JC.ret ?_))
  obtain rfl := Option.some.inj hF
  exact JQ.outS rfl (.tmp .nil) rfl
-- 140 slices.ContainsFunc[[]int,int]
def F_slices_ContainsFunc___int_int_ (n : Nat) (s : List Int) (f_ : Int → Option Bool) : Option Bool :=
 (F_slices_IndexFunc___int_int_ n s f_).bind fun y1 => some (decide (0 ≤ y1))
theorem c_slices_ContainsFunc___int_int_ (n : Nat) (H : Hp) (s : List Int) (s_v0 : Value) (hs_0 : SL H 1 RInt s_v0 s) (f_ : Int → Option Bool) (f__k : Nat) (f__c : List Value) (f__e : Ent Try.prog f__k) (f__h : ∀ H', HSub H H' → ∀ (a0_ : Int) (y : Bool), f_ a0_ = some y → SC Try.prog f__k ([.int .i64 a0_] ++ f__c) (.bool y) H') (y : Bool) (hF : F_slices_ContainsFunc___int_int_ n s f_ = some y) : SC Try.prog 140 [s_v0, .func (.func f__k) #[] f__c.toArray] (.bool y) H := by
 rw [F_slices_ContainsFunc___int_int_] at hF
 refine SC.of (N := 9) Try.func140 rfl rfl rfl fun w => ?_
 refine JC.seq (JC.region (by rfl) ?_)
 intro hQ
 refine JL.assign .none rfl ?_
 refine JL.done hQ (JQ.go (JC.seq (JC.region (by rfl) ?_)))
 intro hQ
 refine JL.move .none rfl ?_
 refine JL.move .none rfl ?_
 obtain ⟨y1, hy1, hF⟩ := bind_some hF
 refine JL.callS (c_slices_IndexFunc___int_int_ n H s s_v0 hs_0 f_ f__k f__c f__e (fun H' hs' => f__h H' hs') y1 hy1) rfl en_178 .none rfl ?_
 refine JL.bin rfl rfl rfl .none rfl ?_
 refine JL.assign .none rfl ?_
 refine JL.done hQ (JQ.go (JC.ret ?_))
 obtain rfl := Option.some.inj hF
 exact JQ.outS rfl (.tmp .nil) rfl
-- 207 ferrule/parts.all[int]
def F_parts_all_int_ (n : Nat) (l : List Int) (is : Int → Option Bool) : Option Bool :=
 (F_slices_ContainsFunc___int_int_ n l (fun a0_ => F_parts_all_int__1 n a0_ is)).bind fun y4 => some (!y4)
theorem c_parts_all_int_ (n : Nat) (H : Hp) (l : List Int) (l_v0 : Value) (hl_0 : SL H 1 RInt l_v0 l) (is : Int → Option Bool) (is_k : Nat) (is_c : List Value) (is_e : Ent Try.prog is_k) (is_h : ∀ H', HSub H H' → ∀ (a0_ : Int) (y : Bool), is a0_ = some y → SC Try.prog is_k ([.int .i64 a0_] ++ is_c) (.bool y) H') (y : Bool) (hF : F_parts_all_int_ n l is = some y) : SC Try.prog 207 [l_v0, .func (.func is_k) #[] is_c.toArray] (.bool y) H := by
 rw [F_parts_all_int_] at hF
 refine SC.of (N := 9) Try.func207 rfl rfl rfl fun w => ?_
 refine JC.seq (JC.region (by rfl) ?_)
 intro hQ
 refine JL.box (cs := [.func (.func is_k) #[] is_c.toArray]) rfl .none rfl ?_
 intro b1
 refine JL.assign .none rfl ?_
 refine JL.done hQ (JQ.go (JC.seq (JC.region (by rfl) ?_)))
 intro hQ
 refine JL.move .none rfl ?_
 refine JL.makeFunc .none rfl ?_
 refine JL.freezeC 0 (l := [.func (.func is_k) #[] is_c.toArray]) rfl ?_
 intro H2 hs2 hc3
 obtain ⟨y4, hy4, hF⟩ := bind_some hF
 refine JL.callS (c_slices_ContainsFunc___int_int_ n H2 l l_v0 (SL.mono RInt.mono hs2 hl_0) (fun a0_ => F_parts_all_int__1 n a0_ is) 231 [.pointer (some ⟨b1, 0, none⟩)] en_231 (fun H' hs' a0_ y' hy' => c_parts_all_int__1 n H' a0_ is (.func (.func is_k) #[] is_c.toArray) (FN_124.mono hs' ⟨is_k, is_c, rfl, is_e, (fun H' hs' => is_h H' (HSub.trans hs2 hs'))⟩) b1 (Cells.mono hs' hc3) y' hy') y4 hy4) rfl en_140 .none rfl ?_
 refine JL.not rfl .none rfl ?_
 refine JL.assign .none rfl ?_
 refine JL.done hQ (JQ.go (JC.ret ?_))
 obtain rfl := Option.some.inj hF
 exact JQ.outS rfl (.tmp .nil) rfl
-- 208 ferrule/parts.ascending
def F_parts_ascending_s1 (n : Nat) (l : List Int) : Int → Option (Int ⊕ (Bool ⊕ Unit))
 | i_125 => if decide (i_125 < (l.length : Int)) = true then ((geti l i_125).bind fun y140 => (geti l (w64 (i_125 - 1))).bind fun y145 => if decide (y140 ≤ y145) = true then (some (Sum.inr (Sum.inl false))) else (some (Sum.inl (w64 (i_125 + 1))))) else (some (Sum.inr (Sum.inr ())))
def F_parts_ascending (n : Nat) (l : List Int) : Option Bool :=
 (loopO n (F_parts_ascending_s1 n l) 1).bind fun r76 => match r76 with | .inl o => some o | .inr _ => some true
theorem c_parts_ascending (n : Nat) (H : Hp) (l : List Int) (l_v0 : Value) (hl_0 : SL H 1 RInt l_v0 l) (y : Bool) (hF : F_parts_ascending n l = some y) : SC Try.prog 208 [l_v0] (.bool y) H := by
 rw [F_parts_ascending] at hF
 refine SC.of (N := 20) Try.func208 rfl rfl rfl fun w => ?_
 refine JC.seq (JC.region (by rfl) ?_)
 intro hQ
 refine JL.assign .none rfl ?_
 refine JL.done hQ (JQ.go (JC.seq (JC.seq (JC.region (by rfl) ?_))))
 intro hQ
 refine JL.assign .none rfl ?_
 refine JL.done hQ (JQ.go ?_)
 obtain ⟨r76, hlr76, hKr76⟩ := bind_some hF
 refine JC.join (fun (_ : Unit) H75 f bs gs => bs = [] ∧ gs = [] ∧ HSub H H75 ∧ Sum.inr () = r76) ?_ ?_
 ·skip
  refine JC.block (JC.loop hlr76 (fun (i_125 : Int) H126 f bs gs => f 0 = l_v0 ∧ f 3 = .int .i64 i_125 ∧ bs = [] ∧ gs = [] ∧ HSub H H126) ⟨rfl, rfl, rfl, rfl, (HSub.refl _)⟩ ?_)
  rintro i_125 x128 H126 f bs gs ⟨hf0, hf3, rfl, rfl, hs126⟩ hF hr127
  rw [F_parts_ascending_s1] at hF
  refine (JC.norm (i := 0) hf0 (JC.norm (i := 3) hf3 ?_))
  refine JC.seq (JC.seq (JC.region (by rfl) ?_))
  intro hQ
  refine JL.move .none rfl ?_
  refine JL.move .none rfl ?_
  refine JL.lenSL (R := RInt) ul_23 (SL.mono RInt.mono hs126 hl_0) .none rfl ?_
  refine JL.bin rfl rfl rfl .none rfl ?_
  refine JL.done hQ (JQ.go ?_)
  rcases ite_some hF with ⟨hc129, hF⟩ | ⟨hc129, hF⟩
  ·refine JC.cond_t (b := decide (i_125 < (l.length : Int))) rfl hc129 ?_
   refine JC.skip (JQ.go (JC.seq (JC.block (JC.seq (JC.draw (by rfl) mo_ (by kernel_rfl) ?_)))))
   intro hQ
   refine JL.move .none rfl ?_
   refine JL.move .none rfl ?_
   obtain ⟨y140, hy140, hF⟩ := bind_some hF
   refine JL.indexSL (R := RInt) sl_23 (SL.mono RInt.mono hs126 hl_0) rfl hy140 .none rfl ?_
   rintro b141 o142 cs143 hc144 - rfl
   refine JL.loadH 0 az_3 rfl hc144 rfl .none rfl ?_
   refine JL.move .none rfl ?_
   refine JL.move .none rfl ?_
   refine JL.bin rfl rfl rfl .none rfl ?_
   obtain ⟨y145, hy145, hF⟩ := bind_some hF
   refine JL.indexSL (R := RInt) sl_23 (SL.mono RInt.mono hs126 hl_0) rfl hy145 .none rfl ?_
   rintro b146 o147 cs148 hc149 - rfl
   refine JL.loadH 0 az_3 rfl hc149 rfl .none rfl ?_
   refine JL.bin rfl rfl rfl .none rfl ?_
   refine JL.doneQ hQ ?_
   refine JQ.go (JC.fresh (fun f => f 0 = l_v0 ∧ f 3 = .int .i64 i_125 ∧ f 19 = .bool (decide (y140 ≤ y145))) ⟨rfl, rfl, rfl⟩ ?_)
   rintro f ⟨hf0, hf3, hf19⟩
   refine (JC.norm (i := 0) hf0 (JC.norm (i := 3) hf3 (JC.norm (i := 19) hf19 ?_)))
   rcases ite_some hF with ⟨hc150, hF⟩ | ⟨hc150, hF⟩
   ·refine JC.cond_t (b := decide (y140 ≤ y145)) rfl hc150 ?_
    refine JC.seq (JC.region (by rfl) ?_)
    intro hQ
    refine JL.assign .none rfl ?_
    refine JL.done hQ (JQ.go (JC.ret (JQ.ret_block (JQ.ret_then (JQ.ret_then (JQ.ret_block (JQ.ret_join (JQ.ret_then ?_))))))))
    obtain rfl := Option.some.inj hF
    have ehr127 := hr127 _ rfl
    subst ehr127
    have hF := hKr76
    try dsimp only at hF
    obtain rfl := Option.some.inj hF
    exact JQ.outS rfl (.tmp .nil) rfl
   ·refine JC.cond_f (b := decide (y140 ≤ y145)) rfl hc150 ?_
    refine JC.skip (JQ.normal_block (JQ.go (JC.region (by rfl) ?_)))
    intro hQ
    refine JL.move .none rfl ?_
    refine JL.bin rfl rfl rfl .none rfl ?_
    refine JL.assign .none rfl ?_
    refine JL.done hQ ?_
    obtain rfl := Option.some.inj hF
    exact JQ.next rfl ⟨rfl, rfl, rfl, rfl, hs126⟩
  ·refine JC.cond_f (b := decide (i_125 < (l.length : Int))) rfl hc129 ?_
   refine JC.exit (JQ.exit_then (JQ.exit_then (JQ.exit_block ?_)))
   obtain rfl := Option.some.inj hF
   have ehr127 := hr127 _ rfl
   subst ehr127
   exact JQ.join () ⟨rfl, rfl, hs126, rfl⟩
 ·rintro _ H75 f bs gs ⟨rfl, rfl, hs75, rfl⟩
  have hF := hKr76
  try dsimp only at hF
  refine JQ.go (JC.seq (JC.region (by rfl) ?_))
  intro hQ
  refine JL.assign .none rfl ?_
  refine JL.done hQ (JQ.go (JC.ret ?_))
  obtain rfl := Option.some.inj hF
  exact JQ.outS rfl (.tmp .nil) rfl
-- 206 ferrule/parts.isWorkshop$2
def F_parts_isWorkshop_2 (n : Nat) (s : Slot) : Option Bool :=
 (F_parts_isMark n s.Kind).bind fun y2 => (if (y2 && (decide ((s.Sections.length : Int) ≤ 4))) = true then ((F_parts_all_int_ n s.Sections (fun a0_ => F_parts_isMark n a0_)).bind fun y9 => some y9) else (some false) : Option Bool).bind fun p6 => (if p6 = true then ((F_parts_ascending n s.Sections).bind fun y14 => some y14) else (some false) : Option Bool).bind fun p11 => (if p11 = true then ((F_parts_isLength n s.Length).bind fun y19 => some y19) else (some false) : Option Bool).bind fun p16 => some p16
theorem c_parts_isWorkshop_2 (n : Nat) (H : Hp) (s : Slot) (s_v1 : Value) (hs_1 : SL H 1 RInt s_v1 s.Sections) (y : Bool) (hF : F_parts_isWorkshop_2 n s = some y) : SC Try.prog 206 [.agg [.int .i64 s.Kind, s_v1, .int .i64 s.Length.Low, .int .i64 s.Length.High].toArray] (.bool y) H := by
 rw [F_parts_isWorkshop_2] at hF
 refine SC.of (N := 27) Try.func206 rfl rfl rfl fun w => ?_
 refine JC.seq (JC.region (by rfl) ?_)
 intro hQ
 refine JL.box (cs := [.int .i64 s.Kind, s_v1, .int .i64 s.Length.Low, .int .i64 s.Length.High]) rfl .none rfl ?_
 intro b1
 refine JL.assign .none rfl ?_
 refine JL.done hQ (JQ.go (JC.seq (JC.region (by rfl) ?_)))
 intro hQ
 refine JL.fieldAddr fo_129_0 rfl .none rfl ?_
 refine JL.loadOwn 0 az_3 rfl rfl rfl .none rfl ?_
 obtain ⟨y2, hy2, hF⟩ := bind_some hF
 refine JL.callS (c_parts_isMark n H s.Kind y2 hy2) rfl en_204 .none rfl ?_
 refine JL.move .none rfl ?_
 refine JL.cut 5 (fun f => f 1 = .pointer (some ⟨b1, 0, none⟩) ∧ f 11 = .bool (y2 && (decide ((s.Sections.length : Int) ≤ 4)))) ?_ ?_
 ·intro hJ3
  rcases bcases y2 with hc4 | hc4
  ·skip
   refine JL.fieldAddr fo_129_1 rfl (.some rfl rfl rfl hc4) rfl ?_
   refine JL.loadOwn 0 az_23 rfl rfl rfl (.some rfl rfl rfl hc4) rfl ?_
   refine JL.lenSL (R := RInt) ul_23 hs_1 (.some rfl rfl rfl hc4) rfl ?_
   refine JL.bin rfl rfl rfl (.some rfl rfl rfl hc4) rfl ?_
   refine JL.pick_t (b := y2) rfl hc4 .none rfl ?_
   exact hJ3 _ ⟨rfl, and_t hc4 rfl⟩
  ·skip
   refine JL.skip (.bool rfl rfl rfl hc4) rfl ?_
   refine JL.skip (.bool rfl rfl rfl hc4) rfl ?_
   refine JL.skip (.bool rfl rfl rfl hc4) rfl ?_
   refine JL.skip (.bool rfl rfl rfl hc4) rfl ?_
   refine JL.pick_f (b := y2) rfl hc4 .none rfl ?_
   exact hJ3 _ ⟨rfl, and_f hc4 rfl⟩
 ·rintro f ⟨hf1, hf11⟩
  refine (JL.norm (i := 1) hf1 (JL.norm (i := 11) hf11 ?_))
  refine JL.move .none rfl ?_
  obtain ⟨p6, hp6, hF⟩ := bind_some hF
  refine JL.cut 4 (fun f => f 1 = .pointer (some ⟨b1, 0, none⟩) ∧ f 16 = .bool p6) ?_ ?_
  ·intro hJ7
   rcases ite_some hp6 with ⟨hc8, hF⟩ | ⟨hc8, hF⟩
   ·skip
    refine JL.fieldAddr fo_129_1 rfl (.some rfl rfl rfl hc8) rfl ?_
    refine JL.loadOwn 0 az_23 rfl rfl rfl (.some rfl rfl rfl hc8) rfl ?_
    obtain ⟨y9, hy9, hF⟩ := bind_some hF
    refine JL.callS (c_parts_all_int_ n H s.Sections s_v1 hs_1 (fun a0_ => F_parts_isMark n a0_) 204 [] en_204 (fun H' hs' a0_ y' hy' => c_parts_isMark n H' a0_ y' hy') y9 hy9) rfl en_207 (.some rfl rfl rfl hc8) rfl ?_
    refine JL.pick_t (b := (y2 && (decide ((s.Sections.length : Int) ≤ 4)))) rfl hc8 .none rfl ?_
    obtain rfl := Option.some.inj hF
    exact hJ7 _ ⟨rfl, rfl⟩
   ·skip
    refine JL.skip (.bool rfl rfl rfl hc8) rfl ?_
    refine JL.skip (.bool rfl rfl rfl hc8) rfl ?_
    refine JL.skip (.bool rfl rfl rfl hc8) rfl ?_
    refine JL.pick_f (b := (y2 && (decide ((s.Sections.length : Int) ≤ 4)))) rfl hc8 .none rfl ?_
    obtain rfl := Option.some.inj hF
    exact hJ7 _ ⟨rfl, rfl⟩
  ·rintro f ⟨hf1, hf16⟩
   refine (JL.norm (i := 1) hf1 (JL.norm (i := 16) hf16 ?_))
   refine JL.move .none rfl ?_
   obtain ⟨p11, hp11, hF⟩ := bind_some hF
   refine JL.cut 4 (fun f => f 1 = .pointer (some ⟨b1, 0, none⟩) ∧ f 21 = .bool p11) ?_ ?_
   ·intro hJ12
    rcases ite_some hp11 with ⟨hc13, hF⟩ | ⟨hc13, hF⟩
    ·skip
     refine JL.fieldAddr fo_129_1 rfl (.some rfl rfl rfl hc13) rfl ?_
     refine JL.loadOwn 0 az_23 rfl rfl rfl (.some rfl rfl rfl hc13) rfl ?_
     obtain ⟨y14, hy14, hF⟩ := bind_some hF
     refine JL.callS (c_parts_ascending n H s.Sections s_v1 hs_1 y14 hy14) rfl en_208 (.some rfl rfl rfl hc13) rfl ?_
     refine JL.pick_t (b := p6) rfl hc13 .none rfl ?_
     obtain rfl := Option.some.inj hF
     exact hJ12 _ ⟨rfl, rfl⟩
    ·skip
     refine JL.skip (.bool rfl rfl rfl hc13) rfl ?_
     refine JL.skip (.bool rfl rfl rfl hc13) rfl ?_
     refine JL.skip (.bool rfl rfl rfl hc13) rfl ?_
     refine JL.pick_f (b := p6) rfl hc13 .none rfl ?_
     obtain rfl := Option.some.inj hF
     exact hJ12 _ ⟨rfl, rfl⟩
   ·rintro f ⟨hf1, hf21⟩
    refine (JL.norm (i := 1) hf1 (JL.norm (i := 21) hf21 ?_))
    refine JL.move .none rfl ?_
    obtain ⟨p16, hp16, hF⟩ := bind_some hF
    refine JL.cut 4 (fun f => f 26 = .bool p16) ?_ ?_
    ·intro hJ17
     rcases ite_some hp16 with ⟨hc18, hF⟩ | ⟨hc18, hF⟩
     ·skip
      refine JL.fieldAddr fo_129_2 rfl (.some rfl rfl rfl hc18) rfl ?_
      refine JL.loadOwn 0 az_39 rfl rfl rfl (.some rfl rfl rfl hc18) rfl ?_
      obtain ⟨y19, hy19, hF⟩ := bind_some hF
      refine JL.callS (c_parts_isLength n H s.Length y19 hy19) rfl en_205 (.some rfl rfl rfl hc18) rfl ?_
      refine JL.pick_t (b := p11) rfl hc18 .none rfl ?_
      obtain rfl := Option.some.inj hF
      exact hJ17 _ (rfl)
     ·skip
      refine JL.skip (.bool rfl rfl rfl hc18) rfl ?_
      refine JL.skip (.bool rfl rfl rfl hc18) rfl ?_
      refine JL.skip (.bool rfl rfl rfl hc18) rfl ?_
      refine JL.pick_f (b := p11) rfl hc18 .none rfl ?_
      obtain rfl := Option.some.inj hF
      exact hJ17 _ (rfl)
    ·rintro f hf26
     refine (JL.norm (i := 26) hf26 ?_)
     refine JL.assign .none rfl ?_
     refine JL.done hQ (JQ.go (JC.ret ?_))
     obtain rfl := Option.some.inj hF
     exact JQ.outS rfl (.tmp .nil) rfl
-- 233 ferrule/parts.all[ferrule/api.Slot]$1
def F_parts_all_api_Slot__1 (n : Nat) (x_ : Slot) (c_0 : Slot → Option Bool) : Option Bool :=
 (c_0 x_).bind fun y2 => some (!y2)
theorem c_parts_all_api_Slot__1 (n : Nat) (H : Hp) (x_ : Slot) (x__v1 : Value) (hx__1 : SL H 1 RInt x__v1 x_.Sections) (c_0 : Slot → Option Bool) (c_0_v0 : Value) (hc_0_0 : FN_223 H c_0_v0 c_0) (c_0_b : Nat) (c_0_c : Cells H c_0_b 0 [c_0_v0]) (y : Bool) (hF : F_parts_all_api_Slot__1 n x_ c_0 = some y) : SC Try.prog 233 [.agg [.int .i64 x_.Kind, x__v1, .int .i64 x_.Length.Low, .int .i64 x_.Length.High].toArray, .pointer (some ⟨c_0_b, 0, none⟩)] (.bool y) H := by
 rw [F_parts_all_api_Slot__1] at hF
 refine SC.of (N := 8) Try.func233 rfl rfl rfl fun w => ?_
 refine JC.seq (JC.region (by rfl) ?_)
 intro hQ
 refine JL.box (cs := [.int .i64 x_.Kind, x__v1, .int .i64 x_.Length.Low, .int .i64 x_.Length.High]) rfl .none rfl ?_
 intro b1
 refine JL.assign .none rfl ?_
 refine JL.done hQ (JQ.go (JC.seq (JC.region (by rfl) ?_)))
 intro hQ
 refine JL.loadH 0 az_223 rfl c_0_c rfl .none rfl ?_
 refine JL.loadOwn 0 az_129 rfl rfl rfl .none rfl ?_
 obtain ⟨y2, hy2, hF⟩ := bind_some hF
 obtain ⟨fk3, fc4, hv5, fe6, fh7⟩ := hc_0_0
 refine JL.callV hv5 (fh7 H (HSub.refl _) x_ x__v1 hx__1 y2 hy2) rfl fe6 .none rfl ?_
 refine JL.not rfl .none rfl ?_
 refine JL.assign .none rfl ?_
 refine JL.done hQ (JQ.go (JC.ret ?_))
 obtain rfl := Option.some.inj hF
 exact JQ.outS rfl (.tmp .nil) rfl
-- 244 slices.IndexFunc[[]ferrule/api.Slot,ferrule/api.Slot]
def F_slices_IndexFunc___api_Slot_api_Slot__s1 (n : Nat) (s : List Slot) (f_ : Slot → Option Bool) : Int → Option (Int ⊕ (Int ⊕ Unit))
 | x_55 => if decide (x_55 < (s.length : Int)) = true then ((geti s x_55).bind fun y60 => (f_ y60).bind fun y65 => if y65 = true then (some (Sum.inr (Sum.inl x_55))) else (some (Sum.inl (w64 (x_55 + 1))))) else (some (Sum.inr (Sum.inr ())))
def F_slices_IndexFunc___api_Slot_api_Slot_ (n : Nat) (s : List Slot) (f_ : Slot → Option Bool) : Option Int :=
 (loopO n (F_slices_IndexFunc___api_Slot_api_Slot__s1 n s f_) 0).bind fun r34 => match r34 with | .inl o => some o | .inr _ => some (-1)
theorem c_slices_IndexFunc___api_Slot_api_Slot_ (n : Nat) (H : Hp) (s : List Slot) (s_v0 : Value) (hs_0 : SL H 4 R_Slot s_v0 s) (f_ : Slot → Option Bool) (f__k : Nat) (f__c : List Value) (f__e : Ent Try.prog f__k) (f__h : ∀ H', HSub H H' → ∀ (a0_ : Slot) (a0__v1 : Value) (ha0__1 : SL H' 1 RInt a0__v1 a0_.Sections) (y : Bool), f_ a0_ = some y → SC Try.prog f__k ([.agg [.int .i64 a0_.Kind, a0__v1, .int .i64 a0_.Length.Low, .int .i64 a0_.Length.High].toArray] ++ f__c) (.bool y) H') (y : Int) (hF : F_slices_IndexFunc___api_Slot_api_Slot_ n s f_ = some y) : SC Try.prog 244 [s_v0, .func (.func f__k) #[] f__c.toArray] (.int .i64 y) H := by
 rw [F_slices_IndexFunc___api_Slot_api_Slot_] at hF
 refine SC.of (N := 19) Try.func244 rfl rfl rfl fun w => ?_
 refine JC.seq (JC.region (by rfl) ?_)
 intro hQ
 refine JL.assign .none rfl ?_
 refine JL.done hQ (JQ.go (JC.seq (JC.seq (JC.region (by rfl) ?_))))
 intro hQ
 refine JL.move .none rfl ?_
 refine JL.lenSL (R := R_Slot) ul_125 hs_0 .none rfl ?_
 refine JL.move .none rfl ?_
 refine JL.done hQ (JQ.go ?_)
 obtain ⟨r34, hlr34, hKr34⟩ := bind_some hF
 refine JC.join (fun (_ : Unit) H33 f bs gs => bs = [] ∧ gs = [] ∧ HSub H H33 ∧ Sum.inr () = r34) ?_ ?_
 ·skip
  refine JC.block (JC.loop hlr34 (fun (x_55 : Int) H56 f bs gs => f 0 = s_v0 ∧ f 1 = .func (.func f__k) #[] f__c.toArray ∧ f 7 = .int .i64 (s.length : Int) ∧ f 8 = .int .i64 x_55 ∧ bs = [] ∧ gs = [] ∧ HSub H H56) ⟨rfl, rfl, rfl, rfl, rfl, rfl, (HSub.refl _)⟩ ?_)
  rintro x_55 x58 H56 f bs gs ⟨hf0, hf1, hf7, hf8, rfl, rfl, hs56⟩ hF hr57
  rw [F_slices_IndexFunc___api_Slot_api_Slot__s1] at hF
  refine (JC.norm (i := 0) hf0 (JC.norm (i := 1) hf1 (JC.norm (i := 7) hf7 (JC.norm (i := 8) hf8 ?_))))
  refine JC.seq (JC.region (by rfl) ?_)
  intro hQ
  refine JL.bin rfl rfl rfl .none rfl ?_
  refine JL.done hQ (JQ.go (JC.seq ?_))
  rcases ite_some hF with ⟨hc59, hF⟩ | ⟨hc59, hF⟩
  ·refine JC.cond_t (b := decide (x_55 < (s.length : Int))) rfl hc59 ?_
   refine JC.skip (JQ.go (JC.seq (JC.block (JC.seq (JC.region (by rfl) ?_)))))
   intro hQ
   refine JL.move .none rfl ?_
   refine JL.assign .none rfl ?_
   refine JL.done hQ (JQ.go (JC.seq (JC.region (by rfl) ?_)))
   intro hQ
   refine JL.move .none rfl ?_
   refine JL.move .none rfl ?_
   refine JL.move .none rfl ?_
   obtain ⟨y60, hy60, hF⟩ := bind_some hF
   refine JL.indexSL (R := R_Slot) sl_125 (SL.mono R_Slot_mono hs56 hs_0) rfl hy60 .none rfl ?_
   rintro b61 o62 cs63 hc64 - ⟨y60_v1, rfl, hy60_1⟩
   refine JL.loadH 0 az_129 rfl hc64 rfl .none rfl ?_
   obtain ⟨y65, hy65, hF⟩ := bind_some hF
   refine JL.callV rfl (f__h H56 hs56 y60 y60_v1 hy60_1 y65 hy65) rfl f__e .none rfl ?_
   refine JL.done hQ (JQ.go ?_)
   rcases ite_some hF with ⟨hc66, hF⟩ | ⟨hc66, hF⟩
   ·refine JC.cond_t (b := y65) rfl hc66 ?_
    refine JC.seq (JC.region (by rfl) ?_)
    intro hQ
    refine JL.move .none rfl ?_
    refine JL.assign .none rfl ?_
    refine JL.done hQ (JQ.go (JC.fresh (fun f => f 4 = .int .i64 x_55) rfl ?_))
    rintro f hf4
    refine (JC.norm (i := 4) hf4 ?_)
    refine JC.ret (JQ.ret_block (JQ.ret_then (JQ.ret_then (JQ.ret_block (JQ.ret_join (JQ.ret_then ?_))))))
    obtain rfl := Option.some.inj hF
    have ehr57 := hr57 _ rfl
    subst ehr57
    have hF := hKr34
    try dsimp only at hF
    obtain rfl := Option.some.inj hF
    exact JQ.outS rfl (.tmp .nil) rfl
   ·refine JC.cond_f (b := y65) rfl hc66 ?_
    refine JC.skip (JQ.normal_block (JQ.go (JC.region (by rfl) ?_)))
    intro hQ
    refine JL.bin rfl rfl rfl .none rfl ?_
    refine JL.move .none rfl ?_
    refine JL.done hQ ?_
    obtain rfl := Option.some.inj hF
    exact JQ.next rfl ⟨rfl, rfl, rfl, rfl, rfl, rfl, hs56⟩
  ·refine JC.cond_f (b := decide (x_55 < (s.length : Int))) rfl hc59 ?_
   refine JC.exit (JQ.exit_then (JQ.exit_then (JQ.exit_block ?_)))
   obtain rfl := Option.some.inj hF
   have ehr57 := hr57 _ rfl
   subst ehr57
   exact JQ.join () ⟨rfl, rfl, hs56, rfl⟩
 ·rintro _ H33 f bs gs ⟨rfl, rfl, hs33, rfl⟩
  have hF := hKr34
  try dsimp only at hF
  refine JQ.go (JC.seq (JC.region (by rfl) ?_))
  intro hQ
  refine JL.assign .none rfl ?_
  refine JL.done hQ (JQ.go (JC.ret ?_))
  obtain rfl := Option.some.inj hF
  exact JQ.outS rfl (.tmp .nil) rfl
end Go.Proofs.Yteihdclpiekmaaa
end
section
set_option maxRecDepth 100000
set_option maxHeartbeats 40000000
namespace Go.Proofs.Yteihdclpiekmaaa
open Go Go.RowKit Go.Dec
set_option linter.unusedVariables false
-- 232 slices.ContainsFunc[[]ferrule/api.Slot,ferrule/api.Slot]
def F_slices_ContainsFunc___api_Slot_api_Slot_ (n : Nat) (s : List Slot) (f_ : Slot → Option Bool) : Option Bool :=
 (F_slices_IndexFunc___api_Slot_api_Slot_ n s f_).bind fun y1 => some (decide (0 ≤ y1))
theorem c_slices_ContainsFunc___api_Slot_api_Slot_ (n : Nat) (H : Hp) (s : List Slot) (s_v0 : Value) (hs_0 : SL H 4 R_Slot s_v0 s) (f_ : Slot → Option Bool) (f__k : Nat) (f__c : List Value) (f__e : Ent Try.prog f__k) (f__h : ∀ H', HSub H H' → ∀ (a0_ : Slot) (a0__v1 : Value) (ha0__1 : SL H' 1 RInt a0__v1 a0_.Sections) (y : Bool), f_ a0_ = some y → SC Try.prog f__k ([.agg [.int .i64 a0_.Kind, a0__v1, .int .i64 a0_.Length.Low, .int .i64 a0_.Length.High].toArray] ++ f__c) (.bool y) H') (y : Bool) (hF : F_slices_ContainsFunc___api_Slot_api_Slot_ n s f_ = some y) : SC Try.prog 232 [s_v0, .func (.func f__k) #[] f__c.toArray] (.bool y) H := by
 rw [F_slices_ContainsFunc___api_Slot_api_Slot_] at hF
 refine SC.of (N := 9) Try.func232 rfl rfl rfl fun w => ?_
 refine JC.seq (JC.region (by rfl) ?_)
 intro hQ
 refine JL.assign .none rfl ?_
 refine JL.done hQ (JQ.go (JC.seq (JC.region (by rfl) ?_)))
 intro hQ
 refine JL.move .none rfl ?_
 refine JL.move .none rfl ?_
 obtain ⟨y1, hy1, hF⟩ := bind_some hF
 refine JL.callS (c_slices_IndexFunc___api_Slot_api_Slot_ n H s s_v0 hs_0 f_ f__k f__c f__e (fun H' hs' => f__h H' hs') y1 hy1) rfl en_244 .none rfl ?_
 refine JL.bin rfl rfl rfl .none rfl ?_
 refine JL.assign .none rfl ?_
 refine JL.done hQ (JQ.go (JC.ret ?_))
 obtain rfl := Option.some.inj hF
 exact JQ.outS rfl (.tmp .nil) rfl
-- 210 ferrule/parts.all[ferrule/api.Slot]
def F_parts_all_api_Slot_ (n : Nat) (l : List Slot) (is : Slot → Option Bool) : Option Bool :=
 (F_slices_ContainsFunc___api_Slot_api_Slot_ n l (fun a0_ => F_parts_all_api_Slot__1 n a0_ is)).bind fun y4 => some (!y4)
theorem c_parts_all_api_Slot_ (n : Nat) (H : Hp) (l : List Slot) (l_v0 : Value) (hl_0 : SL H 4 R_Slot l_v0 l) (is : Slot → Option Bool) (is_k : Nat) (is_c : List Value) (is_e : Ent Try.prog is_k) (is_h : ∀ H', HSub H H' → ∀ (a0_ : Slot) (a0__v1 : Value) (ha0__1 : SL H' 1 RInt a0__v1 a0_.Sections) (y : Bool), is a0_ = some y → SC Try.prog is_k ([.agg [.int .i64 a0_.Kind, a0__v1, .int .i64 a0_.Length.Low, .int .i64 a0_.Length.High].toArray] ++ is_c) (.bool y) H') (y : Bool) (hF : F_parts_all_api_Slot_ n l is = some y) : SC Try.prog 210 [l_v0, .func (.func is_k) #[] is_c.toArray] (.bool y) H := by
 rw [F_parts_all_api_Slot_] at hF
 refine SC.of (N := 9) Try.func210 rfl rfl rfl fun w => ?_
 refine JC.seq (JC.region (by rfl) ?_)
 intro hQ
 refine JL.box (cs := [.func (.func is_k) #[] is_c.toArray]) rfl .none rfl ?_
 intro b1
 refine JL.assign .none rfl ?_
 refine JL.done hQ (JQ.go (JC.seq (JC.region (by rfl) ?_)))
 intro hQ
 refine JL.move .none rfl ?_
 refine JL.makeFunc .none rfl ?_
 refine JL.freezeC 0 (l := [.func (.func is_k) #[] is_c.toArray]) rfl ?_
 intro H2 hs2 hc3
 obtain ⟨y4, hy4, hF⟩ := bind_some hF
 refine JL.callS (c_slices_ContainsFunc___api_Slot_api_Slot_ n H2 l l_v0 (SL.mono R_Slot_mono hs2 hl_0) (fun a0_ => F_parts_all_api_Slot__1 n a0_ is) 233 [.pointer (some ⟨b1, 0, none⟩)] en_233 (fun H' hs' a0_ a0__v1 ha0__1 y' hy' => c_parts_all_api_Slot__1 n H' a0_ a0__v1 ha0__1 is (.func (.func is_k) #[] is_c.toArray) (FN_223.mono hs' ⟨is_k, is_c, rfl, is_e, (fun H' hs' => is_h H' (HSub.trans hs2 hs'))⟩) b1 (Cells.mono hs' hc3) y' hy') y4 hy4) rfl en_232 .none rfl ?_
 refine JL.not rfl .none rfl ?_
 refine JL.assign .none rfl ?_
 refine JL.done hQ (JQ.go (JC.ret ?_))
 obtain rfl := Option.some.inj hF
 exact JQ.outS rfl (.tmp .nil) rfl
-- 209 ferrule/parts.isWorkshop$3
def F_parts_isWorkshop_3 (n : Nat) (m : Make) (c_0 : Slot → Option Bool) : Option Bool :=
 (if decide ((m.Slots.length : Int) ≤ 4) = true then ((F_parts_all_api_Slot_ n m.Slots c_0).bind fun y6 => some y6) else (some false) : Option Bool).bind fun p3 => some p3
theorem c_parts_isWorkshop_3 (n : Nat) (H : Hp) (m : Make) (m_v0 : Value) (hm_0 : SL H 4 R_Slot m_v0 m.Slots) (c_0 : Slot → Option Bool) (c_0_v0 : Value) (hc_0_0 : FN_223 H c_0_v0 c_0) (c_0_b : Nat) (c_0_c : Cells H c_0_b 0 [c_0_v0]) (y : Bool) (hF : F_parts_isWorkshop_3 n m c_0 = some y) : SC Try.prog 209 [.agg [m_v0].toArray, .pointer (some ⟨c_0_b, 0, none⟩)] (.bool y) H := by
 rw [F_parts_isWorkshop_3] at hF
 refine SC.of (N := 14) Try.func209 rfl rfl rfl fun w => ?_
 obtain ⟨c_0_k, c_0_fc, rfl, c_0_e, c_0_fh⟩ := hc_0_0
 refine JC.seq (JC.region (by rfl) ?_)
 intro hQ
 refine JL.box (cs := [m_v0]) rfl .none rfl ?_
 intro b1
 refine JL.assign .none rfl ?_
 refine JL.done hQ (JQ.go (JC.seq (JC.region (by rfl) ?_)))
 intro hQ
 refine JL.fieldAddr fo_127_0 rfl .none rfl ?_
 refine JL.loadOwn 0 az_125 rfl rfl rfl .none rfl ?_
 refine JL.lenSL (R := R_Slot) ul_125 hm_0 .none rfl ?_
 refine JL.bin rfl rfl rfl .none rfl ?_
 refine JL.move .none rfl ?_
 obtain ⟨p3, hp3, hF⟩ := bind_some hF
 refine JL.cut 5 (fun f => f 13 = .bool p3) ?_ ?_
 ·intro hJ4
  rcases ite_some hp3 with ⟨hc5, hF⟩ | ⟨hc5, hF⟩
  ·skip
   refine JL.fieldAddr fo_127_0 rfl (.some rfl rfl rfl hc5) rfl ?_
   refine JL.loadOwn 0 az_125 rfl rfl rfl (.some rfl rfl rfl hc5) rfl ?_
   refine JL.loadH 0 az_223 rfl c_0_c rfl (.some rfl rfl rfl hc5) rfl ?_
   obtain ⟨y6, hy6, hF⟩ := bind_some hF
   refine JL.callS (c_parts_all_api_Slot_ n H m.Slots m_v0 hm_0 c_0 c_0_k c_0_fc c_0_e (fun H' hs' => c_0_fh H' hs') y6 hy6) rfl en_210 (.some rfl rfl rfl hc5) rfl ?_
   refine JL.pick_t (b := decide ((m.Slots.length : Int) ≤ 4)) rfl hc5 .none rfl ?_
   obtain rfl := Option.some.inj hF
   exact hJ4 _ (rfl)
  ·skip
   refine JL.skip (.bool rfl rfl rfl hc5) rfl ?_
   refine JL.skip (.bool rfl rfl rfl hc5) rfl ?_
   refine JL.skip (.bool rfl rfl rfl hc5) rfl ?_
   refine JL.skip (.bool rfl rfl rfl hc5) rfl ?_
   refine JL.pick_f (b := decide ((m.Slots.length : Int) ≤ 4)) rfl hc5 .none rfl ?_
   obtain rfl := Option.some.inj hF
   exact hJ4 _ (rfl)
 ·rintro f hf13
  refine (JL.norm (i := 13) hf13 ?_)
  refine JL.assign .none rfl ?_
  refine JL.done hQ (JQ.go (JC.ret ?_))
  obtain rfl := Option.some.inj hF
  exact JQ.outS rfl (.tmp .nil) rfl
-- 212 ferrule/parts.isSlot
def F_parts_isSlot (n : Nat) (w_ : Workshop) (maker : Int) (slot : Int) : Option Bool :=
 (F_parts_within n maker 0 (w64 ((w_.Makes.length : Int) - 1))).bind fun y2 => (if y2 = true then ((geti w_.Makes maker).bind fun y12 => (F_parts_within n slot 0 (w64 ((y12.Slots.length : Int) - 1))).bind fun y17 => some y17) else (some false) : Option Bool).bind fun p9 => some p9
theorem c_parts_isSlot (n : Nat) (H : Hp) (w_ : Workshop) (w__v0 : Value) (hw__0 : SL H 4 R_Spare w__v0 w_.Spares) (w__v1 : Value) (hw__1 : SL H 1 R_Make w__v1 w_.Makes) (w__v3 : Value) (hw__3 : SL H 4 R_Trial w__v3 w_.Table) (maker : Int) (slot : Int) (y : Bool) (hF : F_parts_isSlot n w_ maker slot = some y) : SC Try.prog 212 [.agg [w__v0, w__v1, .int .i64 w_.Cut, w__v3].toArray, .int .i64 maker, .int .i64 slot] (.bool y) H := by
 rw [F_parts_isSlot] at hF
 refine SC.of (N := 25) Try.func212 rfl rfl rfl fun w => ?_
 refine JC.seq (JC.region (by rfl) ?_)
 intro hQ
 refine JL.box (cs := [w__v0, w__v1, .int .i64 w_.Cut, w__v3]) rfl .none rfl ?_
 intro b1
 refine JL.assign .none rfl ?_
 refine JL.done hQ (JQ.go (JC.seq (JC.region (by rfl) ?_)))
 intro hQ
 refine JL.move .none rfl ?_
 refine JL.fieldAddr fo_48_1 rfl .none rfl ?_
 refine JL.loadOwn 0 az_45 rfl rfl rfl .none rfl ?_
 refine JL.lenSL (R := R_Make) ul_45 hw__1 .none rfl ?_
 refine JL.bin rfl rfl rfl .none rfl ?_
 obtain ⟨y2, hy2, hF⟩ := bind_some hF
 refine JL.callS (c_parts_within n H maker 0 (w64 ((w_.Makes.length : Int) - 1)) y2 hy2) rfl en_123 .none rfl ?_
 refine JL.move .none rfl ?_
 obtain ⟨p9, hp9, hF⟩ := bind_some hF
 refine JL.cut 11 (fun f => f 24 = .bool p9) ?_ ?_
 ·intro hJ10
  rcases ite_some hp9 with ⟨hc11, hF⟩ | ⟨hc11, hF⟩
  ·skip
   refine JL.move (.some rfl rfl rfl hc11) rfl ?_
   refine JL.fieldAddr fo_48_1 rfl (.some rfl rfl rfl hc11) rfl ?_
   refine JL.loadOwn 0 az_45 rfl rfl rfl (.some rfl rfl rfl hc11) rfl ?_
   refine JL.move (.some rfl rfl rfl hc11) rfl ?_
   obtain ⟨y12, hy12, hF⟩ := bind_some hF
   refine JL.indexSL (R := R_Make) sl_45 hw__1 rfl hy12 (.some rfl rfl rfl hc11) rfl ?_
   rintro b13 o14 cs15 hc16 - ⟨y12_v0, rfl, hy12_0⟩
   refine JL.fieldAddr fo_127_0 rfl (.some rfl rfl rfl hc11) rfl ?_
   refine JL.loadH 0 az_125 rfl hc16 rfl (.some rfl rfl rfl hc11) rfl ?_
   refine JL.lenSL (R := R_Slot) ul_125 hy12_0 (.some rfl rfl rfl hc11) rfl ?_
   refine JL.bin rfl rfl rfl (.some rfl rfl rfl hc11) rfl ?_
   obtain ⟨y17, hy17, hF⟩ := bind_some hF
   refine JL.callS (c_parts_within n H slot 0 (w64 ((y12.Slots.length : Int) - 1)) y17 hy17) rfl en_123 (.some rfl rfl rfl hc11) rfl ?_
   refine JL.pick_t (b := y2) rfl hc11 .none rfl ?_
   obtain rfl := Option.some.inj hF
   exact hJ10 _ (rfl)
  ·skip
   refine JL.skip (.bool rfl rfl rfl hc11) rfl ?_
   refine JL.skip (.bool rfl rfl rfl hc11) rfl ?_
   refine JL.skip (.bool rfl rfl rfl hc11) rfl ?_
   refine JL.skip (.bool rfl rfl rfl hc11) rfl ?_
   refine JL.skip (.bool rfl rfl rfl hc11) rfl ?_
   refine JL.skip (.bool rfl rfl rfl hc11) rfl ?_
   refine JL.skip (.bool rfl rfl rfl hc11) rfl ?_
   refine JL.skip (.bool rfl rfl rfl hc11) rfl ?_
   refine JL.skip (.bool rfl rfl rfl hc11) rfl ?_
   refine JL.skip (.bool rfl rfl rfl hc11) rfl ?_
   refine JL.pick_f (b := y2) rfl hc11 .none rfl ?_
   obtain rfl := Option.some.inj hF
   exact hJ10 _ (rfl)
 ·rintro f hf24
  refine (JL.norm (i := 24) hf24 ?_)
  refine JL.assign .none rfl ?_
  refine JL.done hQ (JQ.go (JC.ret ?_))
  obtain rfl := Option.some.inj hF
  exact JQ.outS rfl (.tmp .nil) rfl
-- 211 ferrule/parts.isWorkshop$4
def F_parts_isWorkshop_4 (n : Nat) (t : Trial) (c_0 : Workshop) : Option Bool :=
 (F_parts_isSpare n c_0 t.Spare).bind fun y2 => (if y2 = true then ((F_parts_isSlot n c_0 t.Make t.Slot).bind fun y7 => some y7) else (some false) : Option Bool).bind fun p4 => (if p4 = true then ((F_parts_within n t.Fits 0 1).bind fun y12 => some y12) else (some false) : Option Bool).bind fun p9 => some p9
theorem c_parts_isWorkshop_4 (n : Nat) (H : Hp) (t : Trial) (c_0 : Workshop) (c_0_v0 : Value) (hc_0_0 : SL H 4 R_Spare c_0_v0 c_0.Spares) (c_0_v1 : Value) (hc_0_1 : SL H 1 R_Make c_0_v1 c_0.Makes) (c_0_v3 : Value) (hc_0_3 : SL H 4 R_Trial c_0_v3 c_0.Table) (c_0_b : Nat) (c_0_c : Cells H c_0_b 0 [c_0_v0, c_0_v1, .int .i64 c_0.Cut, c_0_v3]) (y : Bool) (hF : F_parts_isWorkshop_4 n t c_0 = some y) : SC Try.prog 211 [.agg [.int .i64 t.Spare, .int .i64 t.Make, .int .i64 t.Slot, .int .i64 t.Fits].toArray, .pointer (some ⟨c_0_b, 0, none⟩)] (.bool y) H := by
 rw [F_parts_isWorkshop_4] at hF
 refine SC.of (N := 21) Try.func211 rfl rfl rfl fun w => ?_
 refine JC.seq (JC.region (by rfl) ?_)
 intro hQ
 refine JL.box (cs := [.int .i64 t.Spare, .int .i64 t.Make, .int .i64 t.Slot, .int .i64 t.Fits]) rfl .none rfl ?_
 intro b1
 refine JL.assign .none rfl ?_
 refine JL.done hQ (JQ.go (JC.seq (JC.region (by rfl) ?_)))
 intro hQ
 refine JL.loadH 0 az_48 rfl c_0_c rfl .none rfl ?_
 refine JL.fieldAddr fo_55_0 rfl .none rfl ?_
 refine JL.loadOwn 0 az_3 rfl rfl rfl .none rfl ?_
 obtain ⟨y2, hy2, hF⟩ := bind_some hF
 refine JL.callS (c_parts_isSpare n H c_0 c_0_v0 hc_0_0 c_0_v1 hc_0_1 c_0_v3 hc_0_3 t.Spare y2 hy2) rfl en_72 .none rfl ?_
 refine JL.move .none rfl ?_
 obtain ⟨p4, hp4, hF⟩ := bind_some hF
 refine JL.cut 7 (fun f => f 2 = .pointer (some ⟨b1, 0, none⟩) ∧ f 15 = .bool p4) ?_ ?_
 ·intro hJ5
  rcases ite_some hp4 with ⟨hc6, hF⟩ | ⟨hc6, hF⟩
  ·skip
   refine JL.loadH 0 az_48 rfl c_0_c rfl (.some rfl rfl rfl hc6) rfl ?_
   refine JL.fieldAddr fo_55_1 rfl (.some rfl rfl rfl hc6) rfl ?_
   refine JL.loadOwn 0 az_3 rfl rfl rfl (.some rfl rfl rfl hc6) rfl ?_
   refine JL.fieldAddr fo_55_2 rfl (.some rfl rfl rfl hc6) rfl ?_
   refine JL.loadOwn 0 az_3 rfl rfl rfl (.some rfl rfl rfl hc6) rfl ?_
   obtain ⟨y7, hy7, hF⟩ := bind_some hF
   refine JL.callS (c_parts_isSlot n H c_0 c_0_v0 hc_0_0 c_0_v1 hc_0_1 c_0_v3 hc_0_3 t.Make t.Slot y7 hy7) rfl en_212 (.some rfl rfl rfl hc6) rfl ?_
   refine JL.pick_t (b := y2) rfl hc6 .none rfl ?_
   obtain rfl := Option.some.inj hF
   exact hJ5 _ ⟨rfl, rfl⟩
  ·skip
   refine JL.skip (.bool rfl rfl rfl hc6) rfl ?_
   refine JL.skip (.bool rfl rfl rfl hc6) rfl ?_
   refine JL.skip (.bool rfl rfl rfl hc6) rfl ?_
   refine JL.skip (.bool rfl rfl rfl hc6) rfl ?_
   refine JL.skip (.bool rfl rfl rfl hc6) rfl ?_
   refine JL.skip (.bool rfl rfl rfl hc6) rfl ?_
   refine JL.pick_f (b := y2) rfl hc6 .none rfl ?_
   obtain rfl := Option.some.inj hF
   exact hJ5 _ ⟨rfl, rfl⟩
 ·rintro f ⟨hf2, hf15⟩
  refine (JL.norm (i := 2) hf2 (JL.norm (i := 15) hf15 ?_))
  refine JL.move .none rfl ?_
  obtain ⟨p9, hp9, hF⟩ := bind_some hF
  refine JL.cut 4 (fun f => f 20 = .bool p9) ?_ ?_
  ·intro hJ10
   rcases ite_some hp9 with ⟨hc11, hF⟩ | ⟨hc11, hF⟩
   ·skip
    refine JL.fieldAddr fo_55_3 rfl (.some rfl rfl rfl hc11) rfl ?_
    refine JL.loadOwn 0 az_3 rfl rfl rfl (.some rfl rfl rfl hc11) rfl ?_
    obtain ⟨y12, hy12, hF⟩ := bind_some hF
    refine JL.callS (c_parts_within n H t.Fits 0 1 y12 hy12) rfl en_123 (.some rfl rfl rfl hc11) rfl ?_
    refine JL.pick_t (b := p4) rfl hc11 .none rfl ?_
    obtain rfl := Option.some.inj hF
    exact hJ10 _ (rfl)
   ·skip
    refine JL.skip (.bool rfl rfl rfl hc11) rfl ?_
    refine JL.skip (.bool rfl rfl rfl hc11) rfl ?_
    refine JL.skip (.bool rfl rfl rfl hc11) rfl ?_
    refine JL.pick_f (b := p4) rfl hc11 .none rfl ?_
    obtain rfl := Option.some.inj hF
    exact hJ10 _ (rfl)
  ·rintro f hf20
   refine (JL.norm (i := 20) hf20 ?_)
   refine JL.assign .none rfl ?_
   refine JL.done hQ (JQ.go (JC.ret ?_))
   obtain rfl := Option.some.inj hF
   exact JQ.outS rfl (.tmp .nil) rfl
-- 235 ferrule/parts.all[ferrule/api.Spare]$1
def F_parts_all_api_Spare__1 (n : Nat) (x_ : Spare) (c_0 : Spare → Option Bool) : Option Bool :=
 (c_0 x_).bind fun y2 => some (!y2)
theorem c_parts_all_api_Spare__1 (n : Nat) (H : Hp) (x_ : Spare) (c_0 : Spare → Option Bool) (c_0_v0 : Value) (hc_0_0 : FN_247 H c_0_v0 c_0) (c_0_b : Nat) (c_0_c : Cells H c_0_b 0 [c_0_v0]) (y : Bool) (hF : F_parts_all_api_Spare__1 n x_ c_0 = some y) : SC Try.prog 235 [.agg [.int .i64 x_.Kind, .int .i64 x_.Section, .int .i64 x_.Length.Low, .int .i64 x_.Length.High].toArray, .pointer (some ⟨c_0_b, 0, none⟩)] (.bool y) H := by
 rw [F_parts_all_api_Spare__1] at hF
 refine SC.of (N := 8) Try.func235 rfl rfl rfl fun w => ?_
 refine JC.seq (JC.region (by rfl) ?_)
 intro hQ
 refine JL.box (cs := [.int .i64 x_.Kind, .int .i64 x_.Section, .int .i64 x_.Length.Low, .int .i64 x_.Length.High]) rfl .none rfl ?_
 intro b1
 refine JL.assign .none rfl ?_
 refine JL.done hQ (JQ.go (JC.seq (JC.region (by rfl) ?_)))
 intro hQ
 refine JL.loadH 0 az_247 rfl c_0_c rfl .none rfl ?_
 refine JL.loadOwn 0 az_131 rfl rfl rfl .none rfl ?_
 obtain ⟨y2, hy2, hF⟩ := bind_some hF
 obtain ⟨fk3, fc4, hv5, fe6, fh7⟩ := hc_0_0
 refine JL.callV hv5 (fh7 H (HSub.refl _) x_ y2 hy2) rfl fe6 .none rfl ?_
 refine JL.not rfl .none rfl ?_
 refine JL.assign .none rfl ?_
 refine JL.done hQ (JQ.go (JC.ret ?_))
 obtain rfl := Option.some.inj hF
 exact JQ.outS rfl (.tmp .nil) rfl
-- 245 slices.IndexFunc[[]ferrule/api.Spare,ferrule/api.Spare]
def F_slices_IndexFunc___api_Spare_api_Spare__s1 (n : Nat) (s : List Spare) (f_ : Spare → Option Bool) : Int → Option (Int ⊕ (Int ⊕ Unit))
 | x_55 => if decide (x_55 < (s.length : Int)) = true then ((geti s x_55).bind fun y60 => (f_ y60).bind fun y65 => if y65 = true then (some (Sum.inr (Sum.inl x_55))) else (some (Sum.inl (w64 (x_55 + 1))))) else (some (Sum.inr (Sum.inr ())))
def F_slices_IndexFunc___api_Spare_api_Spare_ (n : Nat) (s : List Spare) (f_ : Spare → Option Bool) : Option Int :=
 (loopO n (F_slices_IndexFunc___api_Spare_api_Spare__s1 n s f_) 0).bind fun r34 => match r34 with | .inl o => some o | .inr _ => some (-1)
theorem c_slices_IndexFunc___api_Spare_api_Spare_ (n : Nat) (H : Hp) (s : List Spare) (s_v0 : Value) (hs_0 : SL H 4 R_Spare s_v0 s) (f_ : Spare → Option Bool) (f__k : Nat) (f__c : List Value) (f__e : Ent Try.prog f__k) (f__h : ∀ H', HSub H H' → ∀ (a0_ : Spare) (y : Bool), f_ a0_ = some y → SC Try.prog f__k ([.agg [.int .i64 a0_.Kind, .int .i64 a0_.Section, .int .i64 a0_.Length.Low, .int .i64 a0_.Length.High].toArray] ++ f__c) (.bool y) H') (y : Int) (hF : F_slices_IndexFunc___api_Spare_api_Spare_ n s f_ = some y) : SC Try.prog 245 [s_v0, .func (.func f__k) #[] f__c.toArray] (.int .i64 y) H := by
 rw [F_slices_IndexFunc___api_Spare_api_Spare_] at hF
 refine SC.of (N := 19) Try.func245 rfl rfl rfl fun w => ?_
 refine JC.seq (JC.region (by rfl) ?_)
 intro hQ
 refine JL.assign .none rfl ?_
 refine JL.done hQ (JQ.go (JC.seq (JC.seq (JC.region (by rfl) ?_))))
 intro hQ
 refine JL.move .none rfl ?_
 refine JL.lenSL (R := R_Spare) ul_44 hs_0 .none rfl ?_
 refine JL.move .none rfl ?_
 refine JL.done hQ (JQ.go ?_)
 obtain ⟨r34, hlr34, hKr34⟩ := bind_some hF
 refine JC.join (fun (_ : Unit) H33 f bs gs => bs = [] ∧ gs = [] ∧ HSub H H33 ∧ Sum.inr () = r34) ?_ ?_
 ·skip
  refine JC.block (JC.loop hlr34 (fun (x_55 : Int) H56 f bs gs => f 0 = s_v0 ∧ f 1 = .func (.func f__k) #[] f__c.toArray ∧ f 7 = .int .i64 (s.length : Int) ∧ f 8 = .int .i64 x_55 ∧ bs = [] ∧ gs = [] ∧ HSub H H56) ⟨rfl, rfl, rfl, rfl, rfl, rfl, (HSub.refl _)⟩ ?_)
  rintro x_55 x58 H56 f bs gs ⟨hf0, hf1, hf7, hf8, rfl, rfl, hs56⟩ hF hr57
  rw [F_slices_IndexFunc___api_Spare_api_Spare__s1] at hF
  refine (JC.norm (i := 0) hf0 (JC.norm (i := 1) hf1 (JC.norm (i := 7) hf7 (JC.norm (i := 8) hf8 ?_))))
  refine JC.seq (JC.region (by rfl) ?_)
  intro hQ
  refine JL.bin rfl rfl rfl .none rfl ?_
  refine JL.done hQ (JQ.go (JC.seq ?_))
  rcases ite_some hF with ⟨hc59, hF⟩ | ⟨hc59, hF⟩
  ·refine JC.cond_t (b := decide (x_55 < (s.length : Int))) rfl hc59 ?_
   refine JC.skip (JQ.go (JC.seq (JC.block (JC.seq (JC.region (by rfl) ?_)))))
   intro hQ
   refine JL.move .none rfl ?_
   refine JL.assign .none rfl ?_
   refine JL.done hQ (JQ.go (JC.seq (JC.region (by rfl) ?_)))
   intro hQ
   refine JL.move .none rfl ?_
   refine JL.move .none rfl ?_
   refine JL.move .none rfl ?_
   obtain ⟨y60, hy60, hF⟩ := bind_some hF
   refine JL.indexSL (R := R_Spare) sl_44 (SL.mono R_Spare_mono hs56 hs_0) rfl hy60 .none rfl ?_
   rintro b61 o62 cs63 hc64 - rfl
   refine JL.loadH 0 az_131 rfl hc64 rfl .none rfl ?_
   obtain ⟨y65, hy65, hF⟩ := bind_some hF
   refine JL.callV rfl (f__h H56 hs56 y60 y65 hy65) rfl f__e .none rfl ?_
   refine JL.done hQ (JQ.go ?_)
   rcases ite_some hF with ⟨hc66, hF⟩ | ⟨hc66, hF⟩
   ·refine JC.cond_t (b := y65) rfl hc66 ?_
    refine JC.seq (JC.region (by rfl) ?_)
    intro hQ
    refine JL.move .none rfl ?_
    refine JL.assign .none rfl ?_
    refine JL.done hQ (JQ.go (JC.fresh (fun f => f 4 = .int .i64 x_55) rfl ?_))
    rintro f hf4
    refine (JC.norm (i := 4) hf4 ?_)
    refine JC.ret (JQ.ret_block (JQ.ret_then (JQ.ret_then (JQ.ret_block (JQ.ret_join (JQ.ret_then ?_))))))
    obtain rfl := Option.some.inj hF
    have ehr57 := hr57 _ rfl
    subst ehr57
    have hF := hKr34
    try dsimp only at hF
    obtain rfl := Option.some.inj hF
    exact JQ.outS rfl (.tmp .nil) rfl
   ·refine JC.cond_f (b := y65) rfl hc66 ?_
    refine JC.skip (JQ.normal_block (JQ.go (JC.region (by rfl) ?_)))
    intro hQ
    refine JL.bin rfl rfl rfl .none rfl ?_
    refine JL.move .none rfl ?_
    refine JL.done hQ ?_
    obtain rfl := Option.some.inj hF
    exact JQ.next rfl ⟨rfl, rfl, rfl, rfl, rfl, rfl, hs56⟩
  ·refine JC.cond_f (b := decide (x_55 < (s.length : Int))) rfl hc59 ?_
   refine JC.exit (JQ.exit_then (JQ.exit_then (JQ.exit_block ?_)))
   obtain rfl := Option.some.inj hF
   have ehr57 := hr57 _ rfl
   subst ehr57
   exact JQ.join () ⟨rfl, rfl, hs56, rfl⟩
 ·rintro _ H33 f bs gs ⟨rfl, rfl, hs33, rfl⟩
  have hF := hKr34
  try dsimp only at hF
  refine JQ.go (JC.seq (JC.region (by rfl) ?_))
  intro hQ
  refine JL.assign .none rfl ?_
  refine JL.done hQ (JQ.go (JC.ret ?_))
  obtain rfl := Option.some.inj hF
  exact JQ.outS rfl (.tmp .nil) rfl
-- 234 slices.ContainsFunc[[]ferrule/api.Spare,ferrule/api.Spare]
def F_slices_ContainsFunc___api_Spare_api_Spare_ (n : Nat) (s : List Spare) (f_ : Spare → Option Bool) : Option Bool :=
 (F_slices_IndexFunc___api_Spare_api_Spare_ n s f_).bind fun y1 => some (decide (0 ≤ y1))
theorem c_slices_ContainsFunc___api_Spare_api_Spare_ (n : Nat) (H : Hp) (s : List Spare) (s_v0 : Value) (hs_0 : SL H 4 R_Spare s_v0 s) (f_ : Spare → Option Bool) (f__k : Nat) (f__c : List Value) (f__e : Ent Try.prog f__k) (f__h : ∀ H', HSub H H' → ∀ (a0_ : Spare) (y : Bool), f_ a0_ = some y → SC Try.prog f__k ([.agg [.int .i64 a0_.Kind, .int .i64 a0_.Section, .int .i64 a0_.Length.Low, .int .i64 a0_.Length.High].toArray] ++ f__c) (.bool y) H') (y : Bool) (hF : F_slices_ContainsFunc___api_Spare_api_Spare_ n s f_ = some y) : SC Try.prog 234 [s_v0, .func (.func f__k) #[] f__c.toArray] (.bool y) H := by
 rw [F_slices_ContainsFunc___api_Spare_api_Spare_] at hF
 refine SC.of (N := 9) Try.func234 rfl rfl rfl fun w => ?_
 refine JC.seq (JC.region (by rfl) ?_)
 intro hQ
 refine JL.assign .none rfl ?_
 refine JL.done hQ (JQ.go (JC.seq (JC.region (by rfl) ?_)))
 intro hQ
 refine JL.move .none rfl ?_
 refine JL.move .none rfl ?_
 obtain ⟨y1, hy1, hF⟩ := bind_some hF
 refine JL.callS (c_slices_IndexFunc___api_Spare_api_Spare_ n H s s_v0 hs_0 f_ f__k f__c f__e (fun H' hs' => f__h H' hs') y1 hy1) rfl en_245 .none rfl ?_
 refine JL.bin rfl rfl rfl .none rfl ?_
 refine JL.assign .none rfl ?_
 refine JL.done hQ (JQ.go (JC.ret ?_))
 obtain rfl := Option.some.inj hF
 exact JQ.outS rfl (.tmp .nil) rfl
-- 213 ferrule/parts.all[ferrule/api.Spare]
def F_parts_all_api_Spare_ (n : Nat) (l : List Spare) (is : Spare → Option Bool) : Option Bool :=
 (F_slices_ContainsFunc___api_Spare_api_Spare_ n l (fun a0_ => F_parts_all_api_Spare__1 n a0_ is)).bind fun y4 => some (!y4)
theorem c_parts_all_api_Spare_ (n : Nat) (H : Hp) (l : List Spare) (l_v0 : Value) (hl_0 : SL H 4 R_Spare l_v0 l) (is : Spare → Option Bool) (is_k : Nat) (is_c : List Value) (is_e : Ent Try.prog is_k) (is_h : ∀ H', HSub H H' → ∀ (a0_ : Spare) (y : Bool), is a0_ = some y → SC Try.prog is_k ([.agg [.int .i64 a0_.Kind, .int .i64 a0_.Section, .int .i64 a0_.Length.Low, .int .i64 a0_.Length.High].toArray] ++ is_c) (.bool y) H') (y : Bool) (hF : F_parts_all_api_Spare_ n l is = some y) : SC Try.prog 213 [l_v0, .func (.func is_k) #[] is_c.toArray] (.bool y) H := by
 rw [F_parts_all_api_Spare_] at hF
 refine SC.of (N := 9) Try.func213 rfl rfl rfl fun w => ?_
 refine JC.seq (JC.region (by rfl) ?_)
 intro hQ
 refine JL.box (cs := [.func (.func is_k) #[] is_c.toArray]) rfl .none rfl ?_
 intro b1
 refine JL.assign .none rfl ?_
 refine JL.done hQ (JQ.go (JC.seq (JC.region (by rfl) ?_)))
 intro hQ
 refine JL.move .none rfl ?_
 refine JL.makeFunc .none rfl ?_
 refine JL.freezeC 0 (l := [.func (.func is_k) #[] is_c.toArray]) rfl ?_
 intro H2 hs2 hc3
 obtain ⟨y4, hy4, hF⟩ := bind_some hF
 refine JL.callS (c_slices_ContainsFunc___api_Spare_api_Spare_ n H2 l l_v0 (SL.mono R_Spare_mono hs2 hl_0) (fun a0_ => F_parts_all_api_Spare__1 n a0_ is) 235 [.pointer (some ⟨b1, 0, none⟩)] en_235 (fun H' hs' a0_ y' hy' => c_parts_all_api_Spare__1 n H' a0_ is (.func (.func is_k) #[] is_c.toArray) (FN_247.mono hs' ⟨is_k, is_c, rfl, is_e, (fun H' hs' => is_h H' (HSub.trans hs2 hs'))⟩) b1 (Cells.mono hs' hc3) y' hy') y4 hy4) rfl en_234 .none rfl ?_
 refine JL.not rfl .none rfl ?_
 refine JL.assign .none rfl ?_
 refine JL.done hQ (JQ.go (JC.ret ?_))
 obtain rfl := Option.some.inj hF
 exact JQ.outS rfl (.tmp .nil) rfl
-- 237 ferrule/parts.all[ferrule/api.Make]$1
def F_parts_all_api_Make__1 (n : Nat) (x_ : Make) (c_0 : Make → Option Bool) : Option Bool :=
 (c_0 x_).bind fun y2 => some (!y2)
theorem c_parts_all_api_Make__1 (n : Nat) (H : Hp) (x_ : Make) (x__v0 : Value) (hx__0 : SL H 4 R_Slot x__v0 x_.Slots) (c_0 : Make → Option Bool) (c_0_v0 : Value) (hc_0_0 : FN_249 H c_0_v0 c_0) (c_0_b : Nat) (c_0_c : Cells H c_0_b 0 [c_0_v0]) (y : Bool) (hF : F_parts_all_api_Make__1 n x_ c_0 = some y) : SC Try.prog 237 [.agg [x__v0].toArray, .pointer (some ⟨c_0_b, 0, none⟩)] (.bool y) H := by
 rw [F_parts_all_api_Make__1] at hF
 refine SC.of (N := 8) Try.func237 rfl rfl rfl fun w => ?_
 refine JC.seq (JC.region (by rfl) ?_)
 intro hQ
 refine JL.box (cs := [x__v0]) rfl .none rfl ?_
 intro b1
 refine JL.assign .none rfl ?_
 refine JL.done hQ (JQ.go (JC.seq (JC.region (by rfl) ?_)))
 intro hQ
 refine JL.loadH 0 az_249 rfl c_0_c rfl .none rfl ?_
 refine JL.loadOwn 0 az_127 rfl rfl rfl .none rfl ?_
 obtain ⟨y2, hy2, hF⟩ := bind_some hF
 obtain ⟨fk3, fc4, hv5, fe6, fh7⟩ := hc_0_0
 refine JL.callV hv5 (fh7 H (HSub.refl _) x_ x__v0 hx__0 y2 hy2) rfl fe6 .none rfl ?_
 refine JL.not rfl .none rfl ?_
 refine JL.assign .none rfl ?_
 refine JL.done hQ (JQ.go (JC.ret ?_))
 obtain rfl := Option.some.inj hF
 exact JQ.outS rfl (.tmp .nil) rfl
-- 246 slices.IndexFunc[[]ferrule/api.Make,ferrule/api.Make]
def F_slices_IndexFunc___api_Make_api_Make__s1 (n : Nat) (s : List Make) (f_ : Make → Option Bool) : Int → Option (Int ⊕ (Int ⊕ Unit))
 | x_55 => if decide (x_55 < (s.length : Int)) = true then ((geti s x_55).bind fun y60 => (f_ y60).bind fun y65 => if y65 = true then (some (Sum.inr (Sum.inl x_55))) else (some (Sum.inl (w64 (x_55 + 1))))) else (some (Sum.inr (Sum.inr ())))
def F_slices_IndexFunc___api_Make_api_Make_ (n : Nat) (s : List Make) (f_ : Make → Option Bool) : Option Int :=
 (loopO n (F_slices_IndexFunc___api_Make_api_Make__s1 n s f_) 0).bind fun r34 => match r34 with | .inl o => some o | .inr _ => some (-1)
theorem c_slices_IndexFunc___api_Make_api_Make_ (n : Nat) (H : Hp) (s : List Make) (s_v0 : Value) (hs_0 : SL H 1 R_Make s_v0 s) (f_ : Make → Option Bool) (f__k : Nat) (f__c : List Value) (f__e : Ent Try.prog f__k) (f__h : ∀ H', HSub H H' → ∀ (a0_ : Make) (a0__v0 : Value) (ha0__0 : SL H' 4 R_Slot a0__v0 a0_.Slots) (y : Bool), f_ a0_ = some y → SC Try.prog f__k ([.agg [a0__v0].toArray] ++ f__c) (.bool y) H') (y : Int) (hF : F_slices_IndexFunc___api_Make_api_Make_ n s f_ = some y) : SC Try.prog 246 [s_v0, .func (.func f__k) #[] f__c.toArray] (.int .i64 y) H := by
 rw [F_slices_IndexFunc___api_Make_api_Make_] at hF
 refine SC.of (N := 19) Try.func246 rfl rfl rfl fun w => ?_
 refine JC.seq (JC.region (by rfl) ?_)
 intro hQ
 refine JL.assign .none rfl ?_
 refine JL.done hQ (JQ.go (JC.seq (JC.seq (JC.region (by rfl) ?_))))
 intro hQ
 refine JL.move .none rfl ?_
 refine JL.lenSL (R := R_Make) ul_45 hs_0 .none rfl ?_
 refine JL.move .none rfl ?_
 refine JL.done hQ (JQ.go ?_)
 obtain ⟨r34, hlr34, hKr34⟩ := bind_some hF
 refine JC.join (fun (_ : Unit) H33 f bs gs => bs = [] ∧ gs = [] ∧ HSub H H33 ∧ Sum.inr () = r34) ?_ ?_
 ·skip
  refine JC.block (JC.loop hlr34 (fun (x_55 : Int) H56 f bs gs => f 0 = s_v0 ∧ f 1 = .func (.func f__k) #[] f__c.toArray ∧ f 7 = .int .i64 (s.length : Int) ∧ f 8 = .int .i64 x_55 ∧ bs = [] ∧ gs = [] ∧ HSub H H56) ⟨rfl, rfl, rfl, rfl, rfl, rfl, (HSub.refl _)⟩ ?_)
  rintro x_55 x58 H56 f bs gs ⟨hf0, hf1, hf7, hf8, rfl, rfl, hs56⟩ hF hr57
  rw [F_slices_IndexFunc___api_Make_api_Make__s1] at hF
  refine (JC.norm (i := 0) hf0 (JC.norm (i := 1) hf1 (JC.norm (i := 7) hf7 (JC.norm (i := 8) hf8 ?_))))
  refine JC.seq (JC.region (by rfl) ?_)
  intro hQ
  refine JL.bin rfl rfl rfl .none rfl ?_
  refine JL.done hQ (JQ.go (JC.seq ?_))
  rcases ite_some hF with ⟨hc59, hF⟩ | ⟨hc59, hF⟩
  ·refine JC.cond_t (b := decide (x_55 < (s.length : Int))) rfl hc59 ?_
   refine JC.skip (JQ.go (JC.seq (JC.block (JC.seq (JC.region (by rfl) ?_)))))
   intro hQ
   refine JL.move .none rfl ?_
   refine JL.assign .none rfl ?_
   refine JL.done hQ (JQ.go (JC.seq (JC.region (by rfl) ?_)))
   intro hQ
   refine JL.move .none rfl ?_
   refine JL.move .none rfl ?_
   refine JL.move .none rfl ?_
   obtain ⟨y60, hy60, hF⟩ := bind_some hF
   refine JL.indexSL (R := R_Make) sl_45 (SL.mono R_Make_mono hs56 hs_0) rfl hy60 .none rfl ?_
   rintro b61 o62 cs63 hc64 - ⟨y60_v0, rfl, hy60_0⟩
   refine JL.loadH 0 az_127 rfl hc64 rfl .none rfl ?_
   obtain ⟨y65, hy65, hF⟩ := bind_some hF
   refine JL.callV rfl (f__h H56 hs56 y60 y60_v0 hy60_0 y65 hy65) rfl f__e .none rfl ?_
   refine JL.done hQ (JQ.go ?_)
   rcases ite_some hF with ⟨hc66, hF⟩ | ⟨hc66, hF⟩
   ·refine JC.cond_t (b := y65) rfl hc66 ?_
    refine JC.seq (JC.region (by rfl) ?_)
    intro hQ
    refine JL.move .none rfl ?_
    refine JL.assign .none rfl ?_
    refine JL.done hQ (JQ.go (JC.fresh (fun f => f 4 = .int .i64 x_55) rfl ?_))
    rintro f hf4
    refine (JC.norm (i := 4) hf4 ?_)
    refine JC.ret (JQ.ret_block (JQ.ret_then (JQ.ret_then (JQ.ret_block (JQ.ret_join (JQ.ret_then ?_))))))
    obtain rfl := Option.some.inj hF
    have ehr57 := hr57 _ rfl
    subst ehr57
    have hF := hKr34
    try dsimp only at hF
    obtain rfl := Option.some.inj hF
    exact JQ.outS rfl (.tmp .nil) rfl
   ·refine JC.cond_f (b := y65) rfl hc66 ?_
    refine JC.skip (JQ.normal_block (JQ.go (JC.region (by rfl) ?_)))
    intro hQ
    refine JL.bin rfl rfl rfl .none rfl ?_
    refine JL.move .none rfl ?_
    refine JL.done hQ ?_
    obtain rfl := Option.some.inj hF
    exact JQ.next rfl ⟨rfl, rfl, rfl, rfl, rfl, rfl, hs56⟩
  ·refine JC.cond_f (b := decide (x_55 < (s.length : Int))) rfl hc59 ?_
   refine JC.exit (JQ.exit_then (JQ.exit_then (JQ.exit_block ?_)))
   obtain rfl := Option.some.inj hF
   have ehr57 := hr57 _ rfl
   subst ehr57
   exact JQ.join () ⟨rfl, rfl, hs56, rfl⟩
 ·rintro _ H33 f bs gs ⟨rfl, rfl, hs33, rfl⟩
  have hF := hKr34
  try dsimp only at hF
  refine JQ.go (JC.seq (JC.region (by rfl) ?_))
  intro hQ
  refine JL.assign .none rfl ?_
  refine JL.done hQ (JQ.go (JC.ret ?_))
  obtain rfl := Option.some.inj hF
  exact JQ.outS rfl (.tmp .nil) rfl
-- 236 slices.ContainsFunc[[]ferrule/api.Make,ferrule/api.Make]
def F_slices_ContainsFunc___api_Make_api_Make_ (n : Nat) (s : List Make) (f_ : Make → Option Bool) : Option Bool :=
 (F_slices_IndexFunc___api_Make_api_Make_ n s f_).bind fun y1 => some (decide (0 ≤ y1))
theorem c_slices_ContainsFunc___api_Make_api_Make_ (n : Nat) (H : Hp) (s : List Make) (s_v0 : Value) (hs_0 : SL H 1 R_Make s_v0 s) (f_ : Make → Option Bool) (f__k : Nat) (f__c : List Value) (f__e : Ent Try.prog f__k) (f__h : ∀ H', HSub H H' → ∀ (a0_ : Make) (a0__v0 : Value) (ha0__0 : SL H' 4 R_Slot a0__v0 a0_.Slots) (y : Bool), f_ a0_ = some y → SC Try.prog f__k ([.agg [a0__v0].toArray] ++ f__c) (.bool y) H') (y : Bool) (hF : F_slices_ContainsFunc___api_Make_api_Make_ n s f_ = some y) : SC Try.prog 236 [s_v0, .func (.func f__k) #[] f__c.toArray] (.bool y) H := by
 rw [F_slices_ContainsFunc___api_Make_api_Make_] at hF
 refine SC.of (N := 9) Try.func236 rfl rfl rfl fun w => ?_
 refine JC.seq (JC.region (by rfl) ?_)
 intro hQ
 refine JL.assign .none rfl ?_
 refine JL.done hQ (JQ.go (JC.seq (JC.region (by rfl) ?_)))
 intro hQ
 refine JL.move .none rfl ?_
 refine JL.move .none rfl ?_
 obtain ⟨y1, hy1, hF⟩ := bind_some hF
 refine JL.callS (c_slices_IndexFunc___api_Make_api_Make_ n H s s_v0 hs_0 f_ f__k f__c f__e (fun H' hs' => f__h H' hs') y1 hy1) rfl en_246 .none rfl ?_
 refine JL.bin rfl rfl rfl .none rfl ?_
 refine JL.assign .none rfl ?_
 refine JL.done hQ (JQ.go (JC.ret ?_))
 obtain rfl := Option.some.inj hF
 exact JQ.outS rfl (.tmp .nil) rfl
-- 214 ferrule/parts.all[ferrule/api.Make]
def F_parts_all_api_Make_ (n : Nat) (l : List Make) (is : Make → Option Bool) : Option Bool :=
 (F_slices_ContainsFunc___api_Make_api_Make_ n l (fun a0_ => F_parts_all_api_Make__1 n a0_ is)).bind fun y4 => some (!y4)
theorem c_parts_all_api_Make_ (n : Nat) (H : Hp) (l : List Make) (l_v0 : Value) (hl_0 : SL H 1 R_Make l_v0 l) (is : Make → Option Bool) (is_k : Nat) (is_c : List Value) (is_e : Ent Try.prog is_k) (is_h : ∀ H', HSub H H' → ∀ (a0_ : Make) (a0__v0 : Value) (ha0__0 : SL H' 4 R_Slot a0__v0 a0_.Slots) (y : Bool), is a0_ = some y → SC Try.prog is_k ([.agg [a0__v0].toArray] ++ is_c) (.bool y) H') (y : Bool) (hF : F_parts_all_api_Make_ n l is = some y) : SC Try.prog 214 [l_v0, .func (.func is_k) #[] is_c.toArray] (.bool y) H := by
 rw [F_parts_all_api_Make_] at hF
 refine SC.of (N := 9) Try.func214 rfl rfl rfl fun w => ?_
 refine JC.seq (JC.region (by rfl) ?_)
 intro hQ
 refine JL.box (cs := [.func (.func is_k) #[] is_c.toArray]) rfl .none rfl ?_
 intro b1
 refine JL.assign .none rfl ?_
 refine JL.done hQ (JQ.go (JC.seq (JC.region (by rfl) ?_)))
 intro hQ
 refine JL.move .none rfl ?_
 refine JL.makeFunc .none rfl ?_
 refine JL.freezeC 0 (l := [.func (.func is_k) #[] is_c.toArray]) rfl ?_
 intro H2 hs2 hc3
 obtain ⟨y4, hy4, hF⟩ := bind_some hF
 refine JL.callS (c_slices_ContainsFunc___api_Make_api_Make_ n H2 l l_v0 (SL.mono R_Make_mono hs2 hl_0) (fun a0_ => F_parts_all_api_Make__1 n a0_ is) 237 [.pointer (some ⟨b1, 0, none⟩)] en_237 (fun H' hs' a0_ a0__v0 ha0__0 y' hy' => c_parts_all_api_Make__1 n H' a0_ a0__v0 ha0__0 is (.func (.func is_k) #[] is_c.toArray) (FN_249.mono hs' ⟨is_k, is_c, rfl, is_e, (fun H' hs' => is_h H' (HSub.trans hs2 hs'))⟩) b1 (Cells.mono hs' hc3) y' hy') y4 hy4) rfl en_236 .none rfl ?_
 refine JL.not rfl .none rfl ?_
 refine JL.assign .none rfl ?_
 refine JL.done hQ (JQ.go (JC.ret ?_))
 obtain rfl := Option.some.inj hF
 exact JQ.outS rfl (.tmp .nil) rfl
-- 173 ferrule/parts.all[ferrule/api.Trial]$1
def F_parts_all_api_Trial__1 (n : Nat) (x_ : Trial) (c_0 : Trial → Option Bool) : Option Bool :=
 (c_0 x_).bind fun y2 => some (!y2)
theorem c_parts_all_api_Trial__1 (n : Nat) (H : Hp) (x_ : Trial) (c_0 : Trial → Option Bool) (c_0_v0 : Value) (hc_0_0 : FN_191 H c_0_v0 c_0) (c_0_b : Nat) (c_0_c : Cells H c_0_b 0 [c_0_v0]) (y : Bool) (hF : F_parts_all_api_Trial__1 n x_ c_0 = some y) : SC Try.prog 173 [.agg [.int .i64 x_.Spare, .int .i64 x_.Make, .int .i64 x_.Slot, .int .i64 x_.Fits].toArray, .pointer (some ⟨c_0_b, 0, none⟩)] (.bool y) H := by
 rw [F_parts_all_api_Trial__1] at hF
 refine SC.of (N := 8) Try.func173 rfl rfl rfl fun w => ?_
 refine JC.seq (JC.region (by rfl) ?_)
 intro hQ
 refine JL.box (cs := [.int .i64 x_.Spare, .int .i64 x_.Make, .int .i64 x_.Slot, .int .i64 x_.Fits]) rfl .none rfl ?_
 intro b1
 refine JL.assign .none rfl ?_
 refine JL.done hQ (JQ.go (JC.seq (JC.region (by rfl) ?_)))
 intro hQ
 refine JL.loadH 0 az_191 rfl c_0_c rfl .none rfl ?_
 refine JL.loadOwn 0 az_55 rfl rfl rfl .none rfl ?_
 obtain ⟨y2, hy2, hF⟩ := bind_some hF
 obtain ⟨fk3, fc4, hv5, fe6, fh7⟩ := hc_0_0
 refine JL.callV hv5 (fh7 H (HSub.refl _) x_ y2 hy2) rfl fe6 .none rfl ?_
 refine JL.not rfl .none rfl ?_
 refine JL.assign .none rfl ?_
 refine JL.done hQ (JQ.go (JC.ret ?_))
 obtain rfl := Option.some.inj hF
 exact JQ.outS rfl (.tmp .nil) rfl
-- 216 slices.IndexFunc[[]ferrule/api.Trial,ferrule/api.Trial]
def F_slices_IndexFunc___api_Trial_api_Trial__s1 (n : Nat) (s : List Trial) (f_ : Trial → Option Bool) : Int → Option (Int ⊕ (Int ⊕ Unit))
 | x_55 => if decide (x_55 < (s.length : Int)) = true then ((geti s x_55).bind fun y60 => (f_ y60).bind fun y65 => if y65 = true then (some (Sum.inr (Sum.inl x_55))) else (some (Sum.inl (w64 (x_55 + 1))))) else (some (Sum.inr (Sum.inr ())))
def F_slices_IndexFunc___api_Trial_api_Trial_ (n : Nat) (s : List Trial) (f_ : Trial → Option Bool) : Option Int :=
 (loopO n (F_slices_IndexFunc___api_Trial_api_Trial__s1 n s f_) 0).bind fun r34 => match r34 with | .inl o => some o | .inr _ => some (-1)
theorem c_slices_IndexFunc___api_Trial_api_Trial_ (n : Nat) (H : Hp) (s : List Trial) (s_v0 : Value) (hs_0 : SL H 4 R_Trial s_v0 s) (f_ : Trial → Option Bool) (f__k : Nat) (f__c : List Value) (f__e : Ent Try.prog f__k) (f__h : ∀ H', HSub H H' → ∀ (a0_ : Trial) (y : Bool), f_ a0_ = some y → SC Try.prog f__k ([.agg [.int .i64 a0_.Spare, .int .i64 a0_.Make, .int .i64 a0_.Slot, .int .i64 a0_.Fits].toArray] ++ f__c) (.bool y) H') (y : Int) (hF : F_slices_IndexFunc___api_Trial_api_Trial_ n s f_ = some y) : SC Try.prog 216 [s_v0, .func (.func f__k) #[] f__c.toArray] (.int .i64 y) H := by
 rw [F_slices_IndexFunc___api_Trial_api_Trial_] at hF
 refine SC.of (N := 19) Try.func216 rfl rfl rfl fun w => ?_
 refine JC.seq (JC.region (by rfl) ?_)
 intro hQ
 refine JL.assign .none rfl ?_
 refine JL.done hQ (JQ.go (JC.seq (JC.seq (JC.region (by rfl) ?_))))
 intro hQ
 refine JL.move .none rfl ?_
 refine JL.lenSL (R := R_Trial) ul_46 hs_0 .none rfl ?_
 refine JL.move .none rfl ?_
 refine JL.done hQ (JQ.go ?_)
 obtain ⟨r34, hlr34, hKr34⟩ := bind_some hF
 refine JC.join (fun (_ : Unit) H33 f bs gs => bs = [] ∧ gs = [] ∧ HSub H H33 ∧ Sum.inr () = r34) ?_ ?_
 ·skip
  refine JC.block (JC.loop hlr34 (fun (x_55 : Int) H56 f bs gs => f 0 = s_v0 ∧ f 1 = .func (.func f__k) #[] f__c.toArray ∧ f 7 = .int .i64 (s.length : Int) ∧ f 8 = .int .i64 x_55 ∧ bs = [] ∧ gs = [] ∧ HSub H H56) ⟨rfl, rfl, rfl, rfl, rfl, rfl, (HSub.refl _)⟩ ?_)
  rintro x_55 x58 H56 f bs gs ⟨hf0, hf1, hf7, hf8, rfl, rfl, hs56⟩ hF hr57
  rw [F_slices_IndexFunc___api_Trial_api_Trial__s1] at hF
  refine (JC.norm (i := 0) hf0 (JC.norm (i := 1) hf1 (JC.norm (i := 7) hf7 (JC.norm (i := 8) hf8 ?_))))
  refine JC.seq (JC.region (by rfl) ?_)
  intro hQ
  refine JL.bin rfl rfl rfl .none rfl ?_
  refine JL.done hQ (JQ.go (JC.seq ?_))
  rcases ite_some hF with ⟨hc59, hF⟩ | ⟨hc59, hF⟩
  ·refine JC.cond_t (b := decide (x_55 < (s.length : Int))) rfl hc59 ?_
   refine JC.skip (JQ.go (JC.seq (JC.block (JC.seq (JC.region (by rfl) ?_)))))
   intro hQ
   refine JL.move .none rfl ?_
   refine JL.assign .none rfl ?_
   refine JL.done hQ (JQ.go (JC.seq (JC.region (by rfl) ?_)))
   intro hQ
   refine JL.move .none rfl ?_
   refine JL.move .none rfl ?_
   refine JL.move .none rfl ?_
   obtain ⟨y60, hy60, hF⟩ := bind_some hF
   refine JL.indexSL (R := R_Trial) sl_46 (SL.mono R_Trial_mono hs56 hs_0) rfl hy60 .none rfl ?_
   rintro b61 o62 cs63 hc64 - rfl
   refine JL.loadH 0 az_55 rfl hc64 rfl .none rfl ?_
   obtain ⟨y65, hy65, hF⟩ := bind_some hF
   refine JL.callV rfl (f__h H56 hs56 y60 y65 hy65) rfl f__e .none rfl ?_
   refine JL.done hQ (JQ.go ?_)
   rcases ite_some hF with ⟨hc66, hF⟩ | ⟨hc66, hF⟩
   ·refine JC.cond_t (b := y65) rfl hc66 ?_
    refine JC.seq (JC.region (by rfl) ?_)
    intro hQ
    refine JL.move .none rfl ?_
    refine JL.assign .none rfl ?_
    refine JL.done hQ (JQ.go (JC.fresh (fun f => f 4 = .int .i64 x_55) rfl ?_))
    rintro f hf4
    refine (JC.norm (i := 4) hf4 ?_)
    refine JC.ret (JQ.ret_block (JQ.ret_then (JQ.ret_then (JQ.ret_block (JQ.ret_join (JQ.ret_then ?_))))))
    obtain rfl := Option.some.inj hF
    have ehr57 := hr57 _ rfl
    subst ehr57
    have hF := hKr34
    try dsimp only at hF
    obtain rfl := Option.some.inj hF
    exact JQ.outS rfl (.tmp .nil) rfl
   ·refine JC.cond_f (b := y65) rfl hc66 ?_
    refine JC.skip (JQ.normal_block (JQ.go (JC.region (by rfl) ?_)))
    intro hQ
    refine JL.bin rfl rfl rfl .none rfl ?_
    refine JL.move .none rfl ?_
    refine JL.done hQ ?_
    obtain rfl := Option.some.inj hF
    exact JQ.next rfl ⟨rfl, rfl, rfl, rfl, rfl, rfl, hs56⟩
  ·refine JC.cond_f (b := decide (x_55 < (s.length : Int))) rfl hc59 ?_
   refine JC.exit (JQ.exit_then (JQ.exit_then (JQ.exit_block ?_)))
   obtain rfl := Option.some.inj hF
   have ehr57 := hr57 _ rfl
   subst ehr57
   exact JQ.join () ⟨rfl, rfl, hs56, rfl⟩
 ·rintro _ H33 f bs gs ⟨rfl, rfl, hs33, rfl⟩
  have hF := hKr34
  try dsimp only at hF
  refine JQ.go (JC.seq (JC.region (by rfl) ?_))
  intro hQ
  refine JL.assign .none rfl ?_
  refine JL.done hQ (JQ.go (JC.ret ?_))
  obtain rfl := Option.some.inj hF
  exact JQ.outS rfl (.tmp .nil) rfl
-- 172 slices.ContainsFunc[[]ferrule/api.Trial,ferrule/api.Trial]
def F_slices_ContainsFunc___api_Trial_api_Trial_ (n : Nat) (s : List Trial) (f_ : Trial → Option Bool) : Option Bool :=
 (F_slices_IndexFunc___api_Trial_api_Trial_ n s f_).bind fun y1 => some (decide (0 ≤ y1))
theorem c_slices_ContainsFunc___api_Trial_api_Trial_ (n : Nat) (H : Hp) (s : List Trial) (s_v0 : Value) (hs_0 : SL H 4 R_Trial s_v0 s) (f_ : Trial → Option Bool) (f__k : Nat) (f__c : List Value) (f__e : Ent Try.prog f__k) (f__h : ∀ H', HSub H H' → ∀ (a0_ : Trial) (y : Bool), f_ a0_ = some y → SC Try.prog f__k ([.agg [.int .i64 a0_.Spare, .int .i64 a0_.Make, .int .i64 a0_.Slot, .int .i64 a0_.Fits].toArray] ++ f__c) (.bool y) H') (y : Bool) (hF : F_slices_ContainsFunc___api_Trial_api_Trial_ n s f_ = some y) : SC Try.prog 172 [s_v0, .func (.func f__k) #[] f__c.toArray] (.bool y) H := by
 rw [F_slices_ContainsFunc___api_Trial_api_Trial_] at hF
 refine SC.of (N := 9) Try.func172 rfl rfl rfl fun w => ?_
 refine JC.seq (JC.region (by rfl) ?_)
 intro hQ
 refine JL.assign .none rfl ?_
 refine JL.done hQ (JQ.go (JC.seq (JC.region (by rfl) ?_)))
 intro hQ
 refine JL.move .none rfl ?_
 refine JL.move .none rfl ?_
 obtain ⟨y1, hy1, hF⟩ := bind_some hF
 refine JL.callS (c_slices_IndexFunc___api_Trial_api_Trial_ n H s s_v0 hs_0 f_ f__k f__c f__e (fun H' hs' => f__h H' hs') y1 hy1) rfl en_216 .none rfl ?_
 refine JL.bin rfl rfl rfl .none rfl ?_
 refine JL.assign .none rfl ?_
 refine JL.done hQ (JQ.go (JC.ret ?_))
 obtain rfl := Option.some.inj hF
 exact JQ.outS rfl (.tmp .nil) rfl
-- 122 ferrule/parts.all[ferrule/api.Trial]
def F_parts_all_api_Trial_ (n : Nat) (l : List Trial) (is : Trial → Option Bool) : Option Bool :=
 (F_slices_ContainsFunc___api_Trial_api_Trial_ n l (fun a0_ => F_parts_all_api_Trial__1 n a0_ is)).bind fun y4 => some (!y4)
theorem c_parts_all_api_Trial_ (n : Nat) (H : Hp) (l : List Trial) (l_v0 : Value) (hl_0 : SL H 4 R_Trial l_v0 l) (is : Trial → Option Bool) (is_k : Nat) (is_c : List Value) (is_e : Ent Try.prog is_k) (is_h : ∀ H', HSub H H' → ∀ (a0_ : Trial) (y : Bool), is a0_ = some y → SC Try.prog is_k ([.agg [.int .i64 a0_.Spare, .int .i64 a0_.Make, .int .i64 a0_.Slot, .int .i64 a0_.Fits].toArray] ++ is_c) (.bool y) H') (y : Bool) (hF : F_parts_all_api_Trial_ n l is = some y) : SC Try.prog 122 [l_v0, .func (.func is_k) #[] is_c.toArray] (.bool y) H := by
 rw [F_parts_all_api_Trial_] at hF
 refine SC.of (N := 9) Try.func122 rfl rfl rfl fun w => ?_
 refine JC.seq (JC.region (by rfl) ?_)
 intro hQ
 refine JL.box (cs := [.func (.func is_k) #[] is_c.toArray]) rfl .none rfl ?_
 intro b1
 refine JL.assign .none rfl ?_
 refine JL.done hQ (JQ.go (JC.seq (JC.region (by rfl) ?_)))
 intro hQ
 refine JL.move .none rfl ?_
 refine JL.makeFunc .none rfl ?_
 refine JL.freezeC 0 (l := [.func (.func is_k) #[] is_c.toArray]) rfl ?_
 intro H2 hs2 hc3
 obtain ⟨y4, hy4, hF⟩ := bind_some hF
 refine JL.callS (c_slices_ContainsFunc___api_Trial_api_Trial_ n H2 l l_v0 (SL.mono R_Trial_mono hs2 hl_0) (fun a0_ => F_parts_all_api_Trial__1 n a0_ is) 173 [.pointer (some ⟨b1, 0, none⟩)] en_173 (fun H' hs' a0_ y' hy' => c_parts_all_api_Trial__1 n H' a0_ is (.func (.func is_k) #[] is_c.toArray) (FN_191.mono hs' ⟨is_k, is_c, rfl, is_e, (fun H' hs' => is_h H' (HSub.trans hs2 hs'))⟩) b1 (Cells.mono hs' hc3) y' hy') y4 hy4) rfl en_172 .none rfl ?_
 refine JL.not rfl .none rfl ?_
 refine JL.assign .none rfl ?_
 refine JL.done hQ (JQ.go (JC.ret ?_))
 obtain rfl := Option.some.inj hF
 exact JQ.outS rfl (.tmp .nil) rfl
end Go.Proofs.Yteihdclpiekmaaa
end
