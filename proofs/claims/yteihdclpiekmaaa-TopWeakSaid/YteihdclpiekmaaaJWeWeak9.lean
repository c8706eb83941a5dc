/-
  A part of the proof of WeWeak: the texts WeGenK12, EngP, EngQ, EngR, WePfa, WePfb, WePfc, WePfd, WePfe, WePga.
-/
import Derived.Test.YteihdclpiekmaaaJWeWeak8
section
set_option maxRecDepth 100000
set_option maxHeartbeats 40000000
namespace Go.Proofs.Yteihdclpiekmaaa
open Go Go.RowKit Go.Dec
set_option linter.unusedVariables false
-- 98 ferrule/counts.bounds
noncomputable def F_counts_bounds_s1 (n : Nat)  : (Int × Int) → List Int × Int → Option (Int × Int)
 | (z_121, z_122), (kl130, v131) => (geti kl130 5).bind fun y144 => (geti kl130 5).bind fun y145 => some ((min z_121 y144), (max z_122 y145))
noncomputable def F_counts_bounds (n : Nat) (r : Run) (is : Bool) (asked : Blow → Int → Option Bool) : Option (Span × Int) :=
 (F_counts_open n r is asked).bind fun y3 => if (y3.2.2 != 0) = true then (some ((Span.mk 0 0), y3.2.2)) else ((neM y3.2.1).bind fun _ => ((permO (F_counts_bounds_s1 n) ((r.Blows.length : Int), 0) y3.2.1).bind fun z146 => match z146 with | (z_121, z_122) => some (z_121, z_122)).bind fun r84 => match r84 with | (z_81, z_82) => some ((Span.mk z_81 z_82), 0))
theorem c_counts_bounds (n : Nat) (H : Hp) (r : Run) (r_v0 : Value) (hr_0 : SL H 7 R_Section r_v0 r.Canopy.Frame.Sections) (r_v7 : Value) (hr_7 : SL H 2 R_Span r_v7 r.Canopy.Ribs) (r_v8 : Value) (hr_8 : SL H 1 RInt r_v8 r.Canopy.Shares) (r_v9 : Value) (hr_9 : SL H 3 R_Blow r_v9 r.Blows) (r_v10 : Value) (hr_10 : SL H 2 R_Meter r_v10 r.Meters) (is : Bool) (asked : Blow → Int → Option Bool) (asked_k : Nat) (asked_c : List Value) (asked_e : Ent Try.prog asked_k) (asked_h : ∀ H', HSub H H' → ∀ (a0_ : Blow) (a1_ : Int) (y : Bool), asked a0_ a1_ = some y → SC Try.prog asked_k ([.agg [.int .i64 a0_.At, .int .i64 a0_.Force.Low, .int .i64 a0_.Force.High].toArray, .int .i64 a1_] ++ asked_c) (.bool y) H') (y : Span × Int) (hF : F_counts_bounds n r is asked = some y) : SC Try.prog 98 [.agg [r_v0, .int .i64 r.Canopy.Frame.Low, .int .i64 r.Canopy.Frame.High, .int .i64 r.Canopy.Frame.Ease.Num, .int .i64 r.Canopy.Frame.Ease.Den, .int .i64 r.Canopy.Frame.Rod, .int .i64 r.Canopy.Frame.Case, r_v7, r_v8, r_v9, r_v10, .int .i64 r.Wrong].toArray, .bool is, .func (.func asked_k) #[] asked_c.toArray] (.tuple [.agg [.int .i64 y.1.Low, .int .i64 y.1.High].toArray, .int .i64 y.2].toArray) H := by
 rw [F_counts_bounds] at hF
 refine SC.of (N := 47) Try.func98 rfl rfl rfl fun w => ?_
 refine JC.seq (JC.region (by rfl) ?_)
 intro hQ
 refine JL.box (cs := [r_v0, .int .i64 r.Canopy.Frame.Low, .int .i64 r.Canopy.Frame.High, .int .i64 r.Canopy.Frame.Ease.Num, .int .i64 r.Canopy.Frame.Ease.Den, .int .i64 r.Canopy.Frame.Rod, .int .i64 r.Canopy.Frame.Case, r_v7, r_v8, r_v9, r_v10, .int .i64 r.Wrong]) rfl .none rfl ?_
 intro b1
 refine JL.alloc ze_39 .none rfl ?_
 intro b2
 refine JL.assign .none rfl ?_
 refine JL.done hQ (JQ.go (JC.seq (JC.region (by rfl) ?_)))
 intro hQ
 refine JL.loadOwn 1 az_90 rfl rfl rfl .none rfl ?_
 refine JL.move .none rfl ?_
 refine JL.move .none rfl ?_
 obtain ⟨y3, hy3, hF⟩ := bind_some hF
 refine JL.callH (c_counts_open n H r r_v0 hr_0 r_v7 hr_7 r_v8 hr_8 r_v9 hr_9 r_v10 hr_10 is asked asked_k asked_c asked_e (fun H' hs' => asked_h H' hs') y3 hy3) rfl en_148 .none rfl ?_
 rintro H4 vv5 hs4 ⟨y3a_v0, y3b_v0, rfl, hy3a_0, hy3b_0⟩
 refine JL.move .none rfl ?_
 refine JL.extract rfl rfl .none rfl ?_
 refine JL.extract rfl rfl .none rfl ?_
 refine JL.extract rfl rfl .none rfl ?_
 refine JL.assign .none rfl ?_
 refine JL.assign .none rfl ?_
 refine JL.assign .none rfl ?_
 refine JL.done hQ (JQ.go (JC.fresh (fun f => f 3 = .pointer (some ⟨b1, 0, none⟩) ∧ f 6 = .pointer (some ⟨b2, 0, none⟩) ∧ f 7 = .int .i64 0 ∧ f 9 = y3b_v0 ∧ f 10 = .int .i64 y3.2.2) ⟨rfl, rfl, rfl, rfl, rfl⟩ ?_))
 rintro f ⟨hf3, hf6, hf7, hf9, hf10⟩
 refine (JC.norm (i := 3) hf3 (JC.norm (i := 6) hf6 (JC.norm (i := 7) hf7 (JC.norm (i := 9) hf9 (JC.norm (i := 10) hf10 ?_)))))
 refine JC.seq (JC.seq (JC.region (by rfl) ?_))
 intro hQ
 refine JL.move .none rfl ?_
 refine JL.bin rfl rfl rfl .none rfl ?_
 refine JL.done hQ (JQ.go ?_)
 rcases ite_some hF with ⟨hc6, hF⟩ | ⟨hc6, hF⟩
 ·refine JC.cond_t (b := (y3.2.2 != 0)) rfl hc6 ?_
  refine JC.seq (JC.region (by rfl) ?_)
  intro hQ
  refine JL.build (l := [.int .i64 0, .int .i64 0]) (by kernel_rfl) .none rfl ?_
  refine JL.move .none rfl ?_
  refine JL.storeOwn 0 (cs := [.int .i64 0, .int .i64 0]) az_39 rfl rfl rfl (one_cons rfl (one_cons rfl one_nil)) rfl rfl .none ?_
  refine JL.assign .none rfl ?_
  refine JL.done hQ (JQ.go (JC.ret (JQ.ret_then ?_)))
  obtain rfl := Option.some.inj hF
  exact JQ.outS rfl (.cell 0 az_39 rfl rfl rfl (.tmp .nil)) rfl
 ·refine JC.cond_f (b := (y3.2.2 != 0)) rfl hc6 ?_
  refine JC.skip (JQ.go (JC.seq (JC.region (by rfl) ?_)))
  intro hQ
  refine JL.fieldAddr fo_90_1 rfl .none rfl ?_
  refine JL.loadOwn 1 az_87 rfl rfl rfl .none rfl ?_
  refine JL.lenSL (R := R_Blow) ul_87 (SL.mono R_Blow_mono hs4 hr_9) .none rfl ?_
  refine JL.build (l := [.int .i64 (r.Blows.length : Int), .int .i64 0]) (by kernel_rfl) .none rfl ?_
  refine JL.alloc ze_39 .none rfl ?_
  intro b7
  refine JL.storeOwn 0 (cs := [.int .i64 (r.Blows.length : Int), .int .i64 0]) az_39 rfl rfl rfl (one_cons rfl (one_cons rfl one_nil)) rfl rfl .none ?_
  refine JL.done hQ (JQ.go (JC.seq (JC.seq (JC.region (by rfl) ?_))))
  intro hQ
  refine JL.move .none rfl ?_
  obtain ⟨u13, hu13, hF⟩ := bind_some hF
  obtain ⟨mb14, es15, ck16, hv17, hH18, hm19⟩ := MD.get hy3b_0 (neM_some hu13)
  refine JL.rangeM mp_209 hv17 (.data hH18) hm19 .none rfl ?_
  intro r8 sn9 seen10 cz11 hI12
  refine JL.done hQ (JQ.go (JC.fresh (fun f => f 6 = .pointer (some ⟨b2, 0, none⟩) ∧ f 7 = .int .i64 0 ∧ f 11 = .pointer (some ⟨b7, 0, none⟩) ∧ f 30 = .pointer (some ⟨r8, 0, none⟩)) ⟨rfl, rfl, rfl, rfl⟩ ?_))
  rintro f ⟨hf6, hf7, hf11, hf30⟩
  refine (JC.norm (i := 6) hf6 (JC.norm (i := 7) hf7 (JC.norm (i := 11) hf11 (JC.norm (i := 30) hf30 ?_))))
  obtain ⟨r84, hlr84, hKr84⟩ := bind_some hF
  refine JC.join (fun (x : Int × Int) H83 f bs gs => match x with | (z_81, z_82) => f 6 = .pointer (some ⟨b2, 0, none⟩) ∧ f 11 = .pointer (some ⟨b7, 0, none⟩) ∧ bs = [(b7, .cells [.int .i64 z_81, .int .i64 z_82].toArray 39), (b2, .cells [.int .i64 0, .int .i64 0].toArray 39)] ∧ gs = [] ∧ HSub H4 H83 ∧ (z_81, z_82) = r84) ?_ ?_
  ·skip
   obtain ⟨rs124, hper125, hl126⟩ := bind_some hlr84
   refine JC.block (JC.mask [true, true, true, false] [] ?_)
   refine JC.mapLoop (srt_nodup hI12.srt) hper125 (fun (dd : Mp) (x : Int × Int) H123 f bs gs => match x with | (z_121, z_122) => ∃ (sn_r8 : Nat) (se_r8 : Array Nat) (cz_r8 : Nat), f 6 = .pointer (some ⟨b2, 0, none⟩) ∧ f 11 = .pointer (some ⟨b7, 0, none⟩) ∧ f 30 = .pointer (some ⟨r8, 0, none⟩) ∧ bs = [(r8, .mapIter (some mb14) sn_r8 se_r8 cz_r8), (b7, .cells [.int .i64 z_121, .int .i64 z_122].toArray 39), (b2, .cells [.int .i64 0, .int .i64 0].toArray 39)] ∧ gs = [] ∧ IR 6 ekA y3.2.1 y3.2.1 es15 ck16 sn_r8 se_r8 cz_r8 dd ∧ HSub H4 H123) ⟨sn9, seen10, cz11, rfl, rfl, rfl, rfl, rfl, hI12, (HSub.refl _)⟩ ?_
   rintro dd ⟨z_121, z_122⟩ H123 f bs gs ⟨sn_r8, se_r8, cz_r8, hf6, hf11, hf30, rfl, rfl, hI_r8, hs123⟩ hend127 hgo128
   refine (JC.norm (i := 6) hf6 (JC.norm (i := 11) hf11 (JC.norm (i := 30) hf30 ?_)))
   refine JC.seq (JC.region (by rfl) ?_)
   intro hQ
   refine JL.nextM 0 kt_213 rfl rfl (.data (hs123.le _ _ hH18)) hm19 hI_r8 .none rfl ?_ ?_
   ·intro hp129
    refine JL.extract rfl rfl .none rfl ?_
    refine JL.done hQ (JQ.go (JC.seq (JC.cond_f (b := false) rfl rfl ?_)))
    refine JC.exit (JQ.exit_then (JQ.exit_then (JQ.exit_block ?_)))
    have er141 := hend127 hp129
    subst er141
    obtain rfl := Option.some.inj hl126
    refine JQ.mask [false, true, true] [] ?_
    exact JQ.join (z_121, z_122) ⟨rfl, rfl, rfl, rfl, hs123, rfl⟩
   ·rintro ⟨kl130, v131⟩ seen132 cz133 hx134 hxm135 hxn136 hI137 hE138
    have kok142 := (hm19.okk _ hxm135)
    dsimp only at kok142
    obtain ⟨sp140, hst139⟩ := hgo128 (kl130, v131) hx134 hxn136
    have hF := hst139
    rw [F_counts_bounds_s1] at hF
    refine JL.extract rfl rfl .none rfl ?_
    refine JL.done hQ (JQ.go (JC.seq (JC.cond_t (b := true) rfl rfl ?_)))
    refine JC.skip (JQ.go (JC.block (JC.seq (JC.region (by rfl) ?_))))
    intro hQ
    refine JL.entryIt (y := (kl130, v131)) 0 rfl rfl (.data (hs123.le _ _ hH18)) hm19 hE138 .none rfl ?_
    refine JL.extract rfl rfl .none rfl ?_
    refine JL.alloc ze_213 .none rfl ?_
    intro b143
    refine JL.storeArr (l := [0, 0, 0, 0, 0, 0]) (l' := kl130) 0 az_213 rfl rfl rfl rfl kok142.1 .none ?_
    refine JL.done hQ (JQ.go (JC.region (by rfl) ?_))
    intro hQ
    refine JL.fieldAddr fo_39_0 rfl .none rfl ?_
    refine JL.loadOwn 2 az_3 rfl rfl rfl .none rfl ?_
    obtain ⟨y144, hy144, hF⟩ := bind_some hF
    refine JL.indexArrP (l := kl130) ar_213 az_3 rfl rfl kok142.1 hy144 .none rfl ?_
    refine JL.loadEl (j := 5) 0 az_3 rfl rfl hy144 .none rfl ?_
    refine JL.min rfl rfl .none rfl ?_
    refine JL.fieldAddr fo_39_1 rfl .none rfl ?_
    refine JL.loadOwn 2 az_3 rfl rfl rfl .none rfl ?_
    obtain ⟨y145, hy145, hF⟩ := bind_some hF
    refine JL.indexArrP (l := kl130) ar_213 az_3 rfl rfl kok142.1 hy145 .none rfl ?_
    refine JL.loadEl (j := 5) 0 az_3 rfl rfl hy145 .none rfl ?_
    refine JL.max rfl rfl .none rfl ?_
    refine JL.build (l := [.int .i64 (min z_121 y144), .int .i64 (max z_122 y145)]) (by kernel_rfl) .none rfl ?_
    refine JL.storeOwn 2 (cs := [.int .i64 (min z_121 y144), .int .i64 (max z_122 y145)]) az_39 rfl rfl rfl (one_cons rfl (one_cons rfl one_nil)) rfl rfl .none ?_
    refine JL.done hQ (JQ.normal_block ?_)
    obtain rfl := Option.some.inj hF
    refine JQ.mask [false, true, true, true] [] ?_
    exact JQ.mnext hx134 hxn136 hst139 ⟨sn_r8, seen132, cz133, rfl, rfl, rfl, rfl, rfl, hI137, hs123⟩
  ·rintro ⟨z_81, z_82⟩ H83 f bs gs ⟨hf6, hf11, rfl, rfl, hs83, rfl⟩
   have hF := hKr84
   try dsimp only at hF
   refine (JQ.norm (i := 6) hf6 (JQ.norm (i := 11) hf11 ?_))
   refine JQ.go (JC.seq (JC.region (by rfl) ?_))
   intro hQ
   refine JL.loadOwn 0 az_39 rfl rfl rfl .none rfl ?_
   refine JL.storeOwn 1 (cs := [.int .i64 z_81, .int .i64 z_82]) az_39 rfl rfl rfl (one_cons rfl (one_cons rfl one_nil)) rfl rfl .none ?_
   refine JL.assign .none rfl ?_
   refine JL.done hQ (JQ.go (JC.ret ?_))
   obtain rfl := Option.some.inj hF
   exact JQ.outS rfl (.cell 1 az_39 rfl rfl rfl (.tmp .nil)) rfl
-- 44 ferrule/counts.Harm
/-- what the function that remembers answers -/
noncomputable def F_asked (n : Nat) (d : Canopy) (surely : Bool) (b : Blow) (force : Int) : Option Bool :=
 (kok 2 [force, b.At]).bind fun _ => (F_gusts_Stands n d [Gust.mk force b.At]).bind fun y => some ((y.1 == 2) || (!surely && (y.1 == 3)))
/-- what is remembered -/
def Cached (n : Nat) (d : Canopy) (m : Mp) : Prop := Srt m ∧ ∀ p ∈ m, ∃ f a e, p.1 = [f, a] ∧ F_gusts_Stands n d [Gust.mk f a] = some (p.2, e)
theorem cached_nil {n : Nat} {d : Canopy} : Cached n d [] := ⟨List.Pairwise.nil, by simp⟩
theorem asked_ok {n : Nat} {d : Canopy} {surely : Bool} {b : Blow} {force : Int} {y : Bool} (h : F_asked n d surely b force = some y) {m0 : Mp} (hJ : Cached n d m0) : ∃ m1, Cached n d m1 ∧ F_counts_fells_1 n b force m0 d surely = some (y, m1) := by
 unfold F_asked at h
 obtain ⟨u, hu, h⟩ := bind_some h
 obtain ⟨z, hz, h⟩ := bind_some h
 cases Option.some.inj h
 obtain ⟨hs, hm⟩ := hJ
 have tail : ∀ m : Mp, mget m [force, b.At] = z.1 → ((kok 2 [force, b.At]).bind fun _ => (if ((mget m [force, b.At]) == 2) = true then (some true) else ((if (!surely) = true then ((kok 2 [force, b.At]).bind fun _ => some ((mget m [force, b.At]) == 3)) else (some false) : Option Bool).bind fun p79 => some p79) : Option Bool).bind fun p75 => some (p75, m)) = some ((z.1 == 2) || (!surely && (z.1 == 3)), m) := fun m e => by
  rw [hu, e]
  cases surely <;> cases h2 : (z.1 == 2) <;> simp
 unfold F_counts_fells_1
 rw [hu]
 simp only [Option.bind_some]
 by_cases h0 : (mget m0 [force, b.At] == 0) = true
 ·refine ⟨mput m0 [force, b.At] z.1, ⟨srt_mput hs, fun p hp => ?_⟩, ?_⟩
  ·rcases (mem_mput hs).1 hp with rfl | ⟨hp, _⟩
   ·exact ⟨force, b.At, z.2, rfl, hz⟩
   ·exact hm p hp
  ·rw [if_pos h0, hz]
   simp only [Option.bind_some]
   have := tail (mput m0 [force, b.At] z.1) (mget_mput hs)
   rw [hu] at this
   simpa only [Option.bind_some] using this
 ·have hne : mget m0 [force, b.At] ≠ 0 := by simpa using h0
  have hv : mget m0 [force, b.At] = z.1 := by
   unfold mget at hne ⊢
   cases hf : m0.find? (fun p => p.1 == [force, b.At]) with
   | none => rw [hf] at hne; exact absurd rfl hne
   | some p =>
    obtain ⟨f, a, e, h1, h2⟩ := hm p (List.mem_of_find?_eq_some hf)
    have h3 := List.find?_some hf
    simp only [beq_iff_eq] at h3
    rw [h1] at h3
    simp only [List.cons.injEq, and_true] at h3
    obtain ⟨rfl, rfl⟩ := h3
    rw [hz] at h2
    simp only [Option.some.injEq] at h2
    rw [h2]
  refine ⟨m0, ⟨hs, hm⟩, ?_⟩
  rw [if_neg h0]
  simp only [Option.bind_some]
  have := tail m0 hv
  rw [hu] at this
  simpa only [Option.bind_some] using this
theorem c_harm_bounds (n : Nat) (H : Hp) (r : Run) (r_v0 : Value) (hr_0 : SL H 7 R_Section r_v0 r.Canopy.Frame.Sections) (r_v7 : Value) (hr_7 : SL H 2 R_Span r_v7 r.Canopy.Ribs) (r_v8 : Value) (hr_8 : SL H 1 RInt r_v8 r.Canopy.Shares) (r_v9 : Value) (hr_9 : SL H 3 R_Blow r_v9 r.Blows) (r_v10 : Value) (hr_10 : SL H 2 R_Meter r_v10 r.Meters) (surely : Bool) (bm b1 b2 b3 : Nat) (hc1 : Cells H b1 0 [.map (some bm)]) (hc2 : Cells H b2 0 [r_v0, .int .i64 r.Canopy.Frame.Low, .int .i64 r.Canopy.Frame.High, .int .i64 r.Canopy.Frame.Ease.Num, .int .i64 r.Canopy.Frame.Ease.Den, .int .i64 r.Canopy.Frame.Rod, .int .i64 r.Canopy.Frame.Case, r_v7, r_v8]) (hc3 : Cells H b3 0 [.bool surely]) (y : Span × Int) (hF : F_counts_bounds n r true (F_asked n r.Canopy surely) = some y) :
  SC Try.prog 98 [.agg [r_v0, .int .i64 r.Canopy.Frame.Low, .int .i64 r.Canopy.Frame.High, .int .i64 r.Canopy.Frame.Ease.Num, .int .i64 r.Canopy.Frame.Ease.Den, .int .i64 r.Canopy.Frame.Rod, .int .i64 r.Canopy.Frame.Case, r_v7, r_v8, r_v9, r_v10, .int .i64 r.Wrong].toArray, .bool true, .func (.func 150) #[] [.pointer (some ⟨b1, 0, none⟩), .pointer (some ⟨b2, 0, none⟩), .pointer (some ⟨b3, 0, none⟩)].toArray] (.tuple [.agg [.int .i64 y.1.Low, .int .i64 y.1.High].toArray, .int .i64 y.2].toArray) (hol H bm (fun o => ∃ es ck m, o = .map es ck ∧ MR 2 ekA m es ck ∧ Cached n r.Canopy m)) :=
 c_counts_bounds n (hol H bm (fun o => ∃ es ck m, o = .map es ck ∧ MR 2 ekA m es ck ∧ Cached n r.Canopy m)) r r_v0 (SL.fsub R_Section_fz (fun _ _ h => h) hr_0) r_v7 (SL.fsub R_Span_fz (fun _ _ h => h) hr_7) r_v8 (SL.fsub RInt.fz (fun _ _ h => h) hr_8) r_v9 (SL.fsub R_Blow_fz (fun _ _ h => h) hr_9) r_v10 (SL.fsub R_Meter_fz (fun _ _ h => h) hr_10) true (F_asked n r.Canopy surely) 150 [.pointer (some ⟨b1, 0, none⟩), .pointer (some ⟨b2, 0, none⟩), .pointer (some ⟨b3, 0, none⟩)] en_150
  (fun H' hs' a0 a1 y' hy' => c_counts_fells_1 n H' a0 a1 b1 bm (Cells.mono hs' (Cells.hol hc1)) r.Canopy r_v0 (SL.mono R_Section_mono hs' (SL.fsub R_Section_fz (fun _ _ h => h) hr_0)) r_v7 (SL.mono R_Span_mono hs' (SL.fsub R_Span_fz (fun _ _ h => h) hr_7)) r_v8 (SL.mono RInt.mono hs' (SL.fsub RInt.fz (fun _ _ h => h) hr_8)) b2 (Cells.mono hs' (Cells.hol hc2)) surely b3 (Cells.mono hs' (Cells.hol hc3)) (Cached n r.Canopy) hs'.hole y' (fun m0 hJ => asked_ok hy' hJ)) y hF
noncomputable def F_counts_Harm (n : Nat) (r : Run) : Option (Span × Int) :=
 (F_counts_bounds n r true (F_asked n r.Canopy true)).bind fun y11 => if (y11.2 != 0) = true then (some ((Span.mk 0 0), y11.2)) else ((F_counts_bounds n r true (F_asked n r.Canopy false)).bind fun y42 => some ((Span.mk y11.1.Low y42.1.High), 0))
theorem c_counts_Harm (n : Nat) (H : Hp) (r : Run) (r_v0 : Value) (hr_0 : SL H 7 R_Section r_v0 r.Canopy.Frame.Sections) (r_v7 : Value) (hr_7 : SL H 2 R_Span r_v7 r.Canopy.Ribs) (r_v8 : Value) (hr_8 : SL H 1 RInt r_v8 r.Canopy.Shares) (r_v9 : Value) (hr_9 : SL H 3 R_Blow r_v9 r.Blows) (r_v10 : Value) (hr_10 : SL H 2 R_Meter r_v10 r.Meters) (y : Span × Int) (hF : F_counts_Harm n r = some y) : SC Try.prog 44 [.agg [r_v0, .int .i64 r.Canopy.Frame.Low, .int .i64 r.Canopy.Frame.High, .int .i64 r.Canopy.Frame.Ease.Num, .int .i64 r.Canopy.Frame.Ease.Den, .int .i64 r.Canopy.Frame.Rod, .int .i64 r.Canopy.Frame.Case, r_v7, r_v8, r_v9, r_v10, .int .i64 r.Wrong].toArray] (.tuple [.agg [.int .i64 y.1.Low, .int .i64 y.1.High].toArray, .int .i64 y.2].toArray) H := by
 rw [F_counts_Harm] at hF
 refine SC.of (N := 33) Try.func44 rfl rfl rfl fun w => ?_
 refine JC.seq (JC.region (by rfl) ?_)
 intro hQ
 refine JL.box (cs := [r_v0, .int .i64 r.Canopy.Frame.Low, .int .i64 r.Canopy.Frame.High, .int .i64 r.Canopy.Frame.Ease.Num, .int .i64 r.Canopy.Frame.Ease.Den, .int .i64 r.Canopy.Frame.Rod, .int .i64 r.Canopy.Frame.Case, r_v7, r_v8, r_v9, r_v10, .int .i64 r.Wrong]) rfl .none rfl ?_
 intro b1
 refine JL.alloc ze_39 .none rfl ?_
 intro b2
 refine JL.assign .none rfl ?_
 refine JL.done hQ (JQ.go (JC.seq ?_))
 obtain ⟨y11, hy11, hF⟩ := bind_some hF
 refine JC.mixed 11 11 #[false, false, false, false, false, false, false, false, false, false, false] [(b2, .cells [.int .i64 0, .int .i64 0].toArray 39), (b1, .cells [r_v0, .int .i64 r.Canopy.Frame.Low, .int .i64 r.Canopy.Frame.High, .int .i64 r.Canopy.Frame.Ease.Num, .int .i64 r.Canopy.Frame.Ease.Den, .int .i64 r.Canopy.Frame.Rod, .int .i64 r.Canopy.Frame.Case, r_v7, r_v8, r_v9, r_v10, .int .i64 r.Wrong].toArray 90)] (by rfl) mo_ (by kernel_rfl) (by kernel_rfl) ?_
 intro hQ hE
 refine JA.cut 2 #[true, true, true, true, true, true, true, true, true, false, false] (fun H32 f bs gs => ∃ (b31 : Nat), f 1 = .pointer (some ⟨b1, 0, none⟩) ∧ f 2 = .pointer (some ⟨b2, 0, none⟩) ∧ f 4 = .pointer (some ⟨b31, 0, none⟩) ∧ f 14 = .agg [.int .i64 y11.1.Low, .int .i64 y11.1.High].toArray ∧ f 15 = .int .i64 y11.2 ∧ bs = [(b31, .cells [.int .i64 0, .int .i64 0].toArray 39), (b2, .cells [.int .i64 0, .int .i64 0].toArray 39), (b1, .cells [r_v0, .int .i64 r.Canopy.Frame.Low, .int .i64 r.Canopy.Frame.High, .int .i64 r.Canopy.Frame.Ease.Num, .int .i64 r.Canopy.Frame.Ease.Den, .int .i64 r.Canopy.Frame.Rod, .int .i64 r.Canopy.Frame.Case, r_v7, r_v8, r_v9, r_v10, .int .i64 r.Wrong].toArray 90)] ∧ gs = [] ∧ HSub H H32) ?_ ?_
 ·rintro H32 f bs gs ⟨b31, hf1, hf2, hf4, hf14, hf15, rfl, rfl, hs32⟩
  refine (JA.norm (i := 1) hf1 (JA.norm (i := 2) hf2 (JA.norm (i := 4) hf4 (JA.norm (i := 14) hf14 (JA.norm (i := 15) hf15 ?_)))))
  refine JA.many [9] (by kernel_rfl) (by simp) (all_one ⟨_, #[true, true, true, true, true, true, true, true, true, true, false], rfl, (by kernel_rfl), ?_⟩)
  refine JL.storeOwn 0 (cs := [.int .i64 y11.1.Low, .int .i64 y11.1.High]) az_39 rfl rfl rfl (one_cons rfl (one_cons rfl one_nil)) rfl rfl .none ?_
  refine JA.after hE hs32 (.cons _ (.cons_cons _ (.cons_cons _ (List.nil_sublist _)))) ?_
  refine JA.take 10 (listed' := #[true, true, true, true, true, true, true, true, true, true, true]) hQ rfl (by kernel_rfl) (by kernel_rfl) (by kernel_rfl) (by kernel_rfl) (by kernel_rfl) hE hs32 (.cons _ (.cons_cons _ (.cons_cons _ (List.nil_sublist _)))) ?_
  refine JL.assign .none rfl ?_
  refine JA.cont ?_
  refine JA.done hQ (by kernel_rfl) ?_
  refine JQ.go (JC.seq (JC.seq (JC.region (by rfl) ?_)))
  intro hQ
  refine JL.move .none rfl ?_
  refine JL.bin rfl rfl rfl .none rfl ?_
  refine JL.done hQ (JQ.go ?_)
  rcases ite_some hF with ⟨hc33, hF⟩ | ⟨hc33, hF⟩
  ·refine JC.cond_t (b := (y11.2 != 0)) rfl hc33 ?_
   refine JC.seq (JC.region (by rfl) ?_)
   intro hQ
   refine JL.build (l := [.int .i64 0, .int .i64 0]) (by kernel_rfl) .none rfl ?_
   refine JL.move .none rfl ?_
   refine JL.storeOwn 1 (cs := [.int .i64 0, .int .i64 0]) az_39 rfl rfl rfl (one_cons rfl (one_cons rfl one_nil)) rfl rfl .none ?_
   refine JL.assign .none rfl ?_
   refine JL.done hQ (JQ.go (JC.ret (JQ.ret_then ?_)))
   obtain rfl := Option.some.inj hF
   exact JQ.outS rfl (.cell 1 az_39 rfl rfl rfl (.tmp .nil)) rfl
  ·refine JC.cond_f (b := (y11.2 != 0)) rfl hc33 ?_
   refine JC.skip (JQ.go (JC.seq ?_))
   obtain ⟨y42, hy42, hF⟩ := bind_some hF
   refine JC.mixed 11 11 #[false, false, false, false, false, false, false, false, false, false, false] [(b31, .cells [.int .i64 y11.1.Low, .int .i64 y11.1.High].toArray 39), (b2, .cells [.int .i64 0, .int .i64 0].toArray 39), (b1, .cells [r_v0, .int .i64 r.Canopy.Frame.Low, .int .i64 r.Canopy.Frame.High, .int .i64 r.Canopy.Frame.Ease.Num, .int .i64 r.Canopy.Frame.Ease.Den, .int .i64 r.Canopy.Frame.Rod, .int .i64 r.Canopy.Frame.Case, r_v7, r_v8, r_v9, r_v10, .int .i64 r.Wrong].toArray 90)] (by rfl) mo_ (by kernel_rfl) (by kernel_rfl) ?_
   intro hQ hE
   refine JA.cut 2 #[true, true, true, true, true, true, true, true, true, false, false] (fun H63 f bs gs => ∃ (b62 : Nat), f 2 = .pointer (some ⟨b2, 0, none⟩) ∧ f 4 = .pointer (some ⟨b31, 0, none⟩) ∧ f 6 = .pointer (some ⟨b62, 0, none⟩) ∧ f 26 = .agg [.int .i64 y42.1.Low, .int .i64 y42.1.High].toArray ∧ f 27 = .int .i64 y42.2 ∧ bs = [(b62, .cells [.int .i64 0, .int .i64 0].toArray 39), (b31, .cells [.int .i64 y11.1.Low, .int .i64 y11.1.High].toArray 39), (b2, .cells [.int .i64 0, .int .i64 0].toArray 39), (b1, .cells [r_v0, .int .i64 r.Canopy.Frame.Low, .int .i64 r.Canopy.Frame.High, .int .i64 r.Canopy.Frame.Ease.Num, .int .i64 r.Canopy.Frame.Ease.Den, .int .i64 r.Canopy.Frame.Rod, .int .i64 r.Canopy.Frame.Case, r_v7, r_v8, r_v9, r_v10, .int .i64 r.Wrong].toArray 90)] ∧ gs = [] ∧ HSub H32 H63) ?_ ?_
   ·rintro H63 f bs gs ⟨b62, hf2, hf4, hf6, hf26, hf27, rfl, rfl, hs63⟩
    refine (JA.norm (i := 2) hf2 (JA.norm (i := 4) hf4 (JA.norm (i := 6) hf6 (JA.norm (i := 26) hf26 (JA.norm (i := 27) hf27 ?_)))))
    refine JA.many [9] (by kernel_rfl) (by simp) (all_one ⟨_, #[true, true, true, true, true, true, true, true, true, true, false], rfl, (by kernel_rfl), ?_⟩)
    refine JL.storeOwn 0 (cs := [.int .i64 y42.1.Low, .int .i64 y42.1.High]) az_39 rfl rfl rfl (one_cons rfl (one_cons rfl one_nil)) rfl rfl .none ?_
    refine JA.after hE hs63 (.cons _ (.cons_cons _ (.cons_cons _ (.cons_cons _ (List.nil_sublist _))))) ?_
    refine JA.take 10 (listed' := #[true, true, true, true, true, true, true, true, true, true, true]) hQ rfl (by kernel_rfl) (by kernel_rfl) (by kernel_rfl) (by kernel_rfl) (by kernel_rfl) hE hs63 (.cons _ (.cons_cons _ (.cons_cons _ (.cons_cons _ (List.nil_sublist _))))) ?_
    refine JL.assign .none rfl ?_
    refine JA.cont ?_
    refine JA.done hQ (by kernel_rfl) ?_
    refine JQ.go (JC.seq (JC.region (by rfl) ?_))
    intro hQ
    refine JL.fieldAddr fo_39_0 rfl .none rfl ?_
    refine JL.loadOwn 1 az_3 rfl rfl rfl .none rfl ?_
    refine JL.fieldAddr fo_39_1 rfl .none rfl ?_
    refine JL.loadOwn 0 az_3 rfl rfl rfl .none rfl ?_
    refine JL.build (l := [.int .i64 y11.1.Low, .int .i64 y42.1.High]) (by kernel_rfl) .none rfl ?_
    refine JL.storeOwn 2 (cs := [.int .i64 y11.1.Low, .int .i64 y42.1.High]) az_39 rfl rfl rfl (one_cons rfl (one_cons rfl one_nil)) rfl rfl .none ?_
    refine JL.assign .none rfl ?_
    refine JL.done hQ (JQ.go (JC.ret ?_))
    obtain rfl := Option.some.inj hF
    exact JQ.outS rfl (.cell 2 az_39 rfl rfl rfl (.tmp .nil)) rfl
   intro nd62_0
   refine JA.cut 6 #[true, true, true, true, false, false, false, false, true, false, false] (fun H64 f bs gs => ∃ (b53 : Nat) (bm45 : Nat) (b46 : Nat) (b47 : Nat) (b48 : Nat), f 2 = .pointer (some ⟨b2, 0, none⟩) ∧ f 4 = .pointer (some ⟨b31, 0, none⟩) ∧ f 6 = .pointer (some ⟨b53, 0, none⟩) ∧ f 21 = .agg [r_v0, .int .i64 r.Canopy.Frame.Low, .int .i64 r.Canopy.Frame.High, .int .i64 r.Canopy.Frame.Ease.Num, .int .i64 r.Canopy.Frame.Ease.Den, .int .i64 r.Canopy.Frame.Rod, .int .i64 r.Canopy.Frame.Case, r_v7, r_v8, r_v9, r_v10, .int .i64 r.Wrong].toArray ∧ f 24 = .func (.func 150) #[] [.pointer (some ⟨b46, 0, none⟩), .pointer (some ⟨b47, 0, none⟩), .pointer (some ⟨b48, 0, none⟩)].toArray ∧ bs = [(b53, .cells [.int .i64 0, .int .i64 0].toArray 39), (bm45, .map #[] 0), (b31, .cells [.int .i64 y11.1.Low, .int .i64 y11.1.High].toArray 39), (b2, .cells [.int .i64 0, .int .i64 0].toArray 39), (b1, .cells [r_v0, .int .i64 r.Canopy.Frame.Low, .int .i64 r.Canopy.Frame.High, .int .i64 r.Canopy.Frame.Ease.Num, .int .i64 r.Canopy.Frame.Ease.Den, .int .i64 r.Canopy.Frame.Rod, .int .i64 r.Canopy.Frame.Case, r_v7, r_v8, r_v9, r_v10, .int .i64 r.Wrong].toArray 90)] ∧ gs = [] ∧ MR 2 ekA ([] : Mp) #[] 0 ∧ Cells H64 b46 0 [.map (some bm45)] ∧ Cells H64 b47 0 [r_v0, .int .i64 r.Canopy.Frame.Low, .int .i64 r.Canopy.Frame.High, .int .i64 r.Canopy.Frame.Ease.Num, .int .i64 r.Canopy.Frame.Ease.Den, .int .i64 r.Canopy.Frame.Rod, .int .i64 r.Canopy.Frame.Case, r_v7, r_v8] ∧ Cells H64 b48 0 [.bool false] ∧ HSub H32 H64) ?_ ?_
   ·rintro H64 f bs gs ⟨b53, bm45, b46, b47, b48, hf2, hf4, hf6, hf21, hf24, rfl, rfl, hm65, hm66, hm67, hm68, hs64⟩
    refine (JA.norm (i := 2) hf2 (JA.norm (i := 4) hf4 (JA.norm (i := 6) hf6 (JA.norm (i := 21) hf21 (JA.norm (i := 24) hf24 ?_)))))
    refine JA.many [4] (by kernel_rfl) (by simp) (all_one ⟨_, #[true, true, true, true, true, false, false, false, true, false, false], rfl, (by kernel_rfl), ?_⟩)
    refine JL.callHole 1 _ rfl ⟨_, _, _, rfl, MR.empty, cached_nil⟩ (c_harm_bounds n H64 r r_v0 (SL.mono R_Section_mono (HSub.trans hs32 hs64) hr_0) r_v7 (SL.mono R_Span_mono (HSub.trans hs32 hs64) hr_7) r_v8 (SL.mono RInt.mono (HSub.trans hs32 hs64) hr_8) r_v9 (SL.mono R_Blow_mono (HSub.trans hs32 hs64) hr_9) r_v10 (SL.mono R_Meter_mono (HSub.trans hs32 hs64) hr_10) false bm45 b46 b47 b48 hm66 hm67 hm68 y42 hy42) rfl en_98 .none rfl ?_
    refine JA.after hE hs64 (.cons _ (.cons_cons _ (.cons_cons _ (.cons_cons _ (List.nil_sublist _))))) ?_
    refine JA.take 5 (listed' := #[true, true, true, true, true, true, false, false, true, false, false]) hQ rfl (by kernel_rfl) (by kernel_rfl) (by kernel_rfl) (by kernel_rfl) (by kernel_rfl) hE hs64 (.cons _ (.cons_cons _ (.cons_cons _ (.cons_cons _ (List.nil_sublist _))))) ?_
    refine JL.move .none rfl ?_
    refine JA.cont ?_
    refine JA.take 6 (listed' := #[true, true, true, true, true, true, true, false, true, false, false]) hQ rfl (by kernel_rfl) (by kernel_rfl) (by kernel_rfl) (by kernel_rfl) (by kernel_rfl) hE hs64 (.cons _ (.cons_cons _ (.cons_cons _ (.cons_cons _ (List.nil_sublist _))))) ?_
    refine JL.extract rfl rfl .none rfl ?_
    refine JA.cont ?_
    refine JA.take 7 (listed' := #[true, true, true, true, true, true, true, true, true, false, false]) hQ rfl (by kernel_rfl) (by kernel_rfl) (by kernel_rfl) (by kernel_rfl) (by kernel_rfl) hE hs64 (.cons _ (.cons_cons _ (.cons_cons _ (.cons_cons _ (List.nil_sublist _))))) ?_
    refine JL.extract rfl rfl .none rfl ?_
    refine JA.cont ?_
    exact nd62_0 _ _ _ _ ⟨b53, rfl, rfl, rfl, rfl, rfl, rfl, rfl, hs64⟩
   intro nd62_1
   refine JA.take 0 (listed' := #[true, false, false, false, false, false, false, false, false, false, false]) hQ rfl (by kernel_rfl) (by kernel_rfl) (by kernel_rfl) (by kernel_rfl) (by kernel_rfl) hE (HSub.refl _) (.cons_cons _ (.cons_cons _ (.cons_cons _ (List.nil_sublist _)))) ?_
   refine JL.loadOwn 2 az_90 rfl rfl rfl .none rfl ?_
   refine JA.cont ?_
   refine JA.take 1 (listed' := #[true, true, false, false, false, false, false, false, false, false, false]) hQ rfl (by kernel_rfl) (by kernel_rfl) (by kernel_rfl) (by kernel_rfl) (by kernel_rfl) hE (HSub.refl _) (.cons_cons _ (.cons_cons _ (.cons_cons _ (List.nil_sublist _)))) ?_
   refine JL.fieldAddr fo_90_0 rfl .none rfl ?_
   refine JA.cont ?_
   refine JA.take 2 (listed' := #[true, true, true, false, false, false, false, false, false, false, false]) hQ rfl (by kernel_rfl) (by kernel_rfl) (by kernel_rfl) (by kernel_rfl) (by kernel_rfl) hE (HSub.refl _) (.cons_cons _ (.cons_cons _ (.cons_cons _ (List.nil_sublist _)))) ?_
   refine JL.loadOwn 2 az_76 rfl rfl rfl .none rfl ?_
   refine JA.cont ?_
   refine JA.many [3, 8] (by kernel_rfl) (by simp) (all_cons ⟨_, #[true, true, true, true, false, false, false, false, false, false, false], rfl, (by kernel_rfl), ?_⟩ (all_one ⟨_, #[true, true, true, false, false, false, false, false, true, false, false], rfl, (by kernel_rfl), ?_⟩))
   ·skip
    refine JL.callXB (c_counts_fells n H32 r.Canopy r_v0 (SL.mono R_Section_mono hs32 hr_0) r_v7 (SL.mono R_Span_mono hs32 hr_7) r_v8 (SL.mono RInt.mono hs32 hr_8) false) rfl en_99 .none rfl ?_
    rintro H69 _ _ hs69 ⟨bm70, b71, b72, b73, rfl, rfl, hc74, hc75, hc76⟩
    refine JA.after hE hs69 (.cons _ (.cons_cons _ (.cons_cons _ (.cons_cons _ (List.nil_sublist _))))) ?_
    refine JA.many [4, 8] (by kernel_rfl) (by simp) (all_cons ⟨_, #[true, true, true, true, true, false, false, false, false, false, false], rfl, (by kernel_rfl), ?_⟩ (all_one ⟨_, #[true, true, true, true, false, false, false, false, true, false, false], rfl, (by kernel_rfl), ?_⟩))
    ·skip
     refine JL.callHole 0 _ rfl ⟨_, _, _, rfl, MR.empty, cached_nil⟩ (c_harm_bounds n H69 r r_v0 (SL.mono R_Section_mono (HSub.trans hs32 hs69) hr_0) r_v7 (SL.mono R_Span_mono (HSub.trans hs32 hs69) hr_7) r_v8 (SL.mono RInt.mono (HSub.trans hs32 hs69) hr_8) r_v9 (SL.mono R_Blow_mono (HSub.trans hs32 hs69) hr_9) r_v10 (SL.mono R_Meter_mono (HSub.trans hs32 hs69) hr_10) false bm70 b71 b72 b73 hc74 hc75 hc76 y42 hy42) rfl en_98 .none rfl ?_
     refine JA.after hE hs69 (.cons_cons _ (.cons_cons _ (.cons_cons _ (List.nil_sublist _)))) ?_
     refine JA.take 5 (listed' := #[true, true, true, true, true, true, false, false, false, false, false]) hQ rfl (by kernel_rfl) (by kernel_rfl) (by kernel_rfl) (by kernel_rfl) (by kernel_rfl) hE hs69 (.cons_cons _ (.cons_cons _ (.cons_cons _ (List.nil_sublist _)))) ?_
     refine JL.move .none rfl ?_
     refine JA.cont ?_
     refine JA.take 6 (listed' := #[true, true, true, true, true, true, true, false, false, false, false]) hQ rfl (by kernel_rfl) (by kernel_rfl) (by kernel_rfl) (by kernel_rfl) (by kernel_rfl) hE hs69 (.cons_cons _ (.cons_cons _ (.cons_cons _ (List.nil_sublist _)))) ?_
     refine JL.extract rfl rfl .none rfl ?_
     refine JA.cont ?_
     refine JA.take 7 (listed' := #[true, true, true, true, true, true, true, true, false, false, false]) hQ rfl (by kernel_rfl) (by kernel_rfl) (by kernel_rfl) (by kernel_rfl) (by kernel_rfl) hE hs69 (.cons_cons _ (.cons_cons _ (.cons_cons _ (List.nil_sublist _)))) ?_
     refine JL.extract rfl rfl .none rfl ?_
     refine JA.cont ?_
     refine JA.many [8] (by kernel_rfl) (by simp) (all_one ⟨_, #[true, true, true, true, true, true, true, true, true, false, false], rfl, (by kernel_rfl), ?_⟩)
     refine JL.alloc ze_39 .none rfl ?_
     intro b77
     refine JA.after hE hs69 (.cons _ (.cons_cons _ (.cons_cons _ (.cons_cons _ (List.nil_sublist _))))) ?_
     exact nd62_0 _ _ _ _ ⟨b77, rfl, rfl, rfl, rfl, rfl, rfl, rfl, hs69⟩
    ·skip
     refine JL.alloc ze_39 .none rfl ?_
     intro b78
     refine JA.after hE hs69 (.cons _ (.cons _ (.cons_cons _ (.cons_cons _ (.cons_cons _ (List.nil_sublist _)))))) ?_
     exact nd62_1 _ _ _ _ ⟨b78, bm70, b71, b72, b73, rfl, rfl, rfl, rfl, rfl, rfl, rfl, MR.empty, hc74, hc75, hc76, hs69⟩
   ·skip
    refine JL.alloc ze_39 .none rfl ?_
    intro b79
    refine JA.after hE (HSub.refl _) (.cons _ (.cons_cons _ (.cons_cons _ (.cons_cons _ (List.nil_sublist _))))) ?_
    refine JA.many [3] (by kernel_rfl) (by simp) (all_one ⟨_, #[true, true, true, true, false, false, false, false, true, false, false], rfl, (by kernel_rfl), ?_⟩)
    refine JL.callXB (c_counts_fells n H32 r.Canopy r_v0 (SL.mono R_Section_mono hs32 hr_0) r_v7 (SL.mono R_Span_mono hs32 hr_7) r_v8 (SL.mono RInt.mono hs32 hr_8) false) rfl en_99 .none rfl ?_
    rintro H80 _ _ hs80 ⟨bm81, b82, b83, b84, rfl, rfl, hc85, hc86, hc87⟩
    refine JA.after hE hs80 (.cons _ (.cons _ (.cons_cons _ (.cons_cons _ (.cons_cons _ (List.nil_sublist _)))))) ?_
    refine JA.perm (swapAt_perm 0 _) ?_
    exact nd62_1 _ _ _ _ ⟨b79, bm81, b82, b83, b84, rfl, rfl, rfl, rfl, rfl, rfl, rfl, MR.empty, hc85, hc86, hc87, hs80⟩
 intro nd31_0
 refine JA.cut 6 #[true, true, true, true, false, false, false, false, true, false, false] (fun H88 f bs gs => ∃ (b22 : Nat) (bm14 : Nat) (b15 : Nat) (b16 : Nat) (b17 : Nat), f 1 = .pointer (some ⟨b1, 0, none⟩) ∧ f 2 = .pointer (some ⟨b2, 0, none⟩) ∧ f 4 = .pointer (some ⟨b22, 0, none⟩) ∧ f 9 = .agg [r_v0, .int .i64 r.Canopy.Frame.Low, .int .i64 r.Canopy.Frame.High, .int .i64 r.Canopy.Frame.Ease.Num, .int .i64 r.Canopy.Frame.Ease.Den, .int .i64 r.Canopy.Frame.Rod, .int .i64 r.Canopy.Frame.Case, r_v7, r_v8, r_v9, r_v10, .int .i64 r.Wrong].toArray ∧ f 12 = .func (.func 150) #[] [.pointer (some ⟨b15, 0, none⟩), .pointer (some ⟨b16, 0, none⟩), .pointer (some ⟨b17, 0, none⟩)].toArray ∧ bs = [(b22, .cells [.int .i64 0, .int .i64 0].toArray 39), (bm14, .map #[] 0), (b2, .cells [.int .i64 0, .int .i64 0].toArray 39), (b1, .cells [r_v0, .int .i64 r.Canopy.Frame.Low, .int .i64 r.Canopy.Frame.High, .int .i64 r.Canopy.Frame.Ease.Num, .int .i64 r.Canopy.Frame.Ease.Den, .int .i64 r.Canopy.Frame.Rod, .int .i64 r.Canopy.Frame.Case, r_v7, r_v8, r_v9, r_v10, .int .i64 r.Wrong].toArray 90)] ∧ gs = [] ∧ MR 2 ekA ([] : Mp) #[] 0 ∧ Cells H88 b15 0 [.map (some bm14)] ∧ Cells H88 b16 0 [r_v0, .int .i64 r.Canopy.Frame.Low, .int .i64 r.Canopy.Frame.High, .int .i64 r.Canopy.Frame.Ease.Num, .int .i64 r.Canopy.Frame.Ease.Den, .int .i64 r.Canopy.Frame.Rod, .int .i64 r.Canopy.Frame.Case, r_v7, r_v8] ∧ Cells H88 b17 0 [.bool true] ∧ HSub H H88) ?_ ?_
 ·rintro H88 f bs gs ⟨b22, bm14, b15, b16, b17, hf1, hf2, hf4, hf9, hf12, rfl, rfl, hm89, hm90, hm91, hm92, hs88⟩
  refine (JA.norm (i := 1) hf1 (JA.norm (i := 2) hf2 (JA.norm (i := 4) hf4 (JA.norm (i := 9) hf9 (JA.norm (i := 12) hf12 ?_)))))
  refine JA.many [4] (by kernel_rfl) (by simp) (all_one ⟨_, #[true, true, true, true, true, false, false, false, true, false, false], rfl, (by kernel_rfl), ?_⟩)
  refine JL.callHole 1 _ rfl ⟨_, _, _, rfl, MR.empty, cached_nil⟩ (c_harm_bounds n H88 r r_v0 (SL.mono R_Section_mono hs88 hr_0) r_v7 (SL.mono R_Span_mono hs88 hr_7) r_v8 (SL.mono RInt.mono hs88 hr_8) r_v9 (SL.mono R_Blow_mono hs88 hr_9) r_v10 (SL.mono R_Meter_mono hs88 hr_10) true bm14 b15 b16 b17 hm90 hm91 hm92 y11 hy11) rfl en_98 .none rfl ?_
  refine JA.after hE hs88 (.cons _ (.cons_cons _ (.cons_cons _ (List.nil_sublist _)))) ?_
  refine JA.take 5 (listed' := #[true, true, true, true, true, true, false, false, true, false, false]) hQ rfl (by kernel_rfl) (by kernel_rfl) (by kernel_rfl) (by kernel_rfl) (by kernel_rfl) hE hs88 (.cons _ (.cons_cons _ (.cons_cons _ (List.nil_sublist _)))) ?_
  refine JL.move .none rfl ?_
  refine JA.cont ?_
  refine JA.take 6 (listed' := #[true, true, true, true, true, true, true, false, true, false, false]) hQ rfl (by kernel_rfl) (by kernel_rfl) (by kernel_rfl) (by kernel_rfl) (by kernel_rfl) hE hs88 (.cons _ (.cons_cons _ (.cons_cons _ (List.nil_sublist _)))) ?_
  refine JL.extract rfl rfl .none rfl ?_
  refine JA.cont ?_
  refine JA.take 7 (listed' := #[true, true, true, true, true, true, true, true, true, false, false]) hQ rfl (by kernel_rfl) (by kernel_rfl) (by kernel_rfl) (by kernel_rfl) (by kernel_rfl) hE hs88 (.cons _ (.cons_cons _ (.cons_cons _ (List.nil_sublist _)))) ?_
  refine JL.extract rfl rfl .none rfl ?_
  refine JA.cont ?_
  exact nd31_0 _ _ _ _ ⟨b22, rfl, rfl, rfl, rfl, rfl, rfl, rfl, hs88⟩
 intro nd31_1
 refine JA.take 0 (listed' := #[true, false, false, false, false, false, false, false, false, false, false]) hQ rfl (by kernel_rfl) (by kernel_rfl) (by kernel_rfl) (by kernel_rfl) (by kernel_rfl) hE (HSub.refl _) (.cons_cons _ (.cons_cons _ (List.nil_sublist _))) ?_
 refine JL.loadOwn 1 az_90 rfl rfl rfl .none rfl ?_
 refine JA.cont ?_
 refine JA.take 1 (listed' := #[true, true, false, false, false, false, false, false, false, false, false]) hQ rfl (by kernel_rfl) (by kernel_rfl) (by kernel_rfl) (by kernel_rfl) (by kernel_rfl) hE (HSub.refl _) (.cons_cons _ (.cons_cons _ (List.nil_sublist _))) ?_
 refine JL.fieldAddr fo_90_0 rfl .none rfl ?_
 refine JA.cont ?_
 refine JA.take 2 (listed' := #[true, true, true, false, false, false, false, false, false, false, false]) hQ rfl (by kernel_rfl) (by kernel_rfl) (by kernel_rfl) (by kernel_rfl) (by kernel_rfl) hE (HSub.refl _) (.cons_cons _ (.cons_cons _ (List.nil_sublist _))) ?_
 refine JL.loadOwn 1 az_76 rfl rfl rfl .none rfl ?_
 refine JA.cont ?_
 refine JA.many [3, 8] (by kernel_rfl) (by simp) (all_cons ⟨_, #[true, true, true, true, false, false, false, false, false, false, false], rfl, (by kernel_rfl), ?_⟩ (all_one ⟨_, #[true, true, true, false, false, false, false, false, true, false, false], rfl, (by kernel_rfl), ?_⟩))
 ·skip
  refine JL.callXB (c_counts_fells n H r.Canopy r_v0 hr_0 r_v7 hr_7 r_v8 hr_8 true) rfl en_99 .none rfl ?_
  rintro H93 _ _ hs93 ⟨bm94, b95, b96, b97, rfl, rfl, hc98, hc99, hc100⟩
  refine JA.after hE hs93 (.cons _ (.cons_cons _ (.cons_cons _ (List.nil_sublist _)))) ?_
  refine JA.many [4, 8] (by kernel_rfl) (by simp) (all_cons ⟨_, #[true, true, true, true, true, false, false, false, false, false, false], rfl, (by kernel_rfl), ?_⟩ (all_one ⟨_, #[true, true, true, true, false, false, false, false, true, false, false], rfl, (by kernel_rfl), ?_⟩))
  ·skip
   refine JL.callHole 0 _ rfl ⟨_, _, _, rfl, MR.empty, cached_nil⟩ (c_harm_bounds n H93 r r_v0 (SL.mono R_Section_mono hs93 hr_0) r_v7 (SL.mono R_Span_mono hs93 hr_7) r_v8 (SL.mono RInt.mono hs93 hr_8) r_v9 (SL.mono R_Blow_mono hs93 hr_9) r_v10 (SL.mono R_Meter_mono hs93 hr_10) true bm94 b95 b96 b97 hc98 hc99 hc100 y11 hy11) rfl en_98 .none rfl ?_
   refine JA.after hE hs93 (.cons_cons _ (.cons_cons _ (List.nil_sublist _))) ?_
   refine JA.take 5 (listed' := #[true, true, true, true, true, true, false, false, false, false, false]) hQ rfl (by kernel_rfl) (by kernel_rfl) (by kernel_rfl) (by kernel_rfl) (by kernel_rfl) hE hs93 (.cons_cons _ (.cons_cons _ (List.nil_sublist _))) ?_
   refine JL.move .none rfl ?_
   refine JA.cont ?_
   refine JA.take 6 (listed' := #[true, true, true, true, true, true, true, false, false, false, false]) hQ rfl (by kernel_rfl) (by kernel_rfl) (by kernel_rfl) (by kernel_rfl) (by kernel_rfl) hE hs93 (.cons_cons _ (.cons_cons _ (List.nil_sublist _))) ?_
   refine JL.extract rfl rfl .none rfl ?_
   refine JA.cont ?_
   refine JA.take 7 (listed' := #[true, true, true, true, true, true, true, true, false, false, false]) hQ rfl (by kernel_rfl) (by kernel_rfl) (by kernel_rfl) (by kernel_rfl) (by kernel_rfl) hE hs93 (.cons_cons _ (.cons_cons _ (List.nil_sublist _))) ?_
   refine JL.extract rfl rfl .none rfl ?_
   refine JA.cont ?_
   refine JA.many [8] (by kernel_rfl) (by simp) (all_one ⟨_, #[true, true, true, true, true, true, true, true, true, false, false], rfl, (by kernel_rfl), ?_⟩)
   refine JL.alloc ze_39 .none rfl ?_
   intro b101
   refine JA.after hE hs93 (.cons _ (.cons_cons _ (.cons_cons _ (List.nil_sublist _)))) ?_
   exact nd31_0 _ _ _ _ ⟨b101, rfl, rfl, rfl, rfl, rfl, rfl, rfl, hs93⟩
  ·skip
   refine JL.alloc ze_39 .none rfl ?_
   intro b102
   refine JA.after hE hs93 (.cons _ (.cons _ (.cons_cons _ (.cons_cons _ (List.nil_sublist _))))) ?_
   exact nd31_1 _ _ _ _ ⟨b102, bm94, b95, b96, b97, rfl, rfl, rfl, rfl, rfl, rfl, rfl, MR.empty, hc98, hc99, hc100, hs93⟩
 ·skip
  refine JL.alloc ze_39 .none rfl ?_
  intro b103
  refine JA.after hE (HSub.refl _) (.cons _ (.cons_cons _ (.cons_cons _ (List.nil_sublist _)))) ?_
  refine JA.many [3] (by kernel_rfl) (by simp) (all_one ⟨_, #[true, true, true, true, false, false, false, false, true, false, false], rfl, (by kernel_rfl), ?_⟩)
  refine JL.callXB (c_counts_fells n H r.Canopy r_v0 hr_0 r_v7 hr_7 r_v8 hr_8 true) rfl en_99 .none rfl ?_
  rintro H104 _ _ hs104 ⟨bm105, b106, b107, b108, rfl, rfl, hc109, hc110, hc111⟩
  refine JA.after hE hs104 (.cons _ (.cons _ (.cons_cons _ (.cons_cons _ (List.nil_sublist _))))) ?_
  refine JA.perm (swapAt_perm 0 _) ?_
  exact nd31_1 _ _ _ _ ⟨b103, bm105, b106, b107, b108, rfl, rfl, rfl, rfl, rfl, rfl, rfl, MR.empty, hc109, hc110, hc111, hs104⟩
-- 46 ferrule/counts.Stood
noncomputable def F_counts_Stood (n : Nat) (r : Run) : Option (Int × Int) :=
 (F_counts_Harm n r).bind fun y2 => if (y2.2 != 0) = true then (some (0, y2.2)) else (if (y2.1.High == 0) = true then (some (1, 0)) else (if decide (0 < y2.1.Low) = true then (some (2, 0)) else (some (3, 0))))
theorem c_counts_Stood (n : Nat) (H : Hp) (r : Run) (r_v0 : Value) (hr_0 : SL H 7 R_Section r_v0 r.Canopy.Frame.Sections) (r_v7 : Value) (hr_7 : SL H 2 R_Span r_v7 r.Canopy.Ribs) (r_v8 : Value) (hr_8 : SL H 1 RInt r_v8 r.Canopy.Shares) (r_v9 : Value) (hr_9 : SL H 3 R_Blow r_v9 r.Blows) (r_v10 : Value) (hr_10 : SL H 2 R_Meter r_v10 r.Meters) (y : Int × Int) (hF : F_counts_Stood n r = some y) : SC Try.prog 46 [.agg [r_v0, .int .i64 r.Canopy.Frame.Low, .int .i64 r.Canopy.Frame.High, .int .i64 r.Canopy.Frame.Ease.Num, .int .i64 r.Canopy.Frame.Ease.Den, .int .i64 r.Canopy.Frame.Rod, .int .i64 r.Canopy.Frame.Case, r_v7, r_v8, r_v9, r_v10, .int .i64 r.Wrong].toArray] (.tuple [.int .i64 y.1, .int .i64 y.2].toArray) H := by
 rw [F_counts_Stood] at hF
 refine SC.of (N := 23) Try.func46 rfl rfl rfl fun w => ?_
 refine JC.seq (JC.region (by rfl) ?_)
 intro hQ
 refine JL.box (cs := [r_v0, .int .i64 r.Canopy.Frame.Low, .int .i64 r.Canopy.Frame.High, .int .i64 r.Canopy.Frame.Ease.Num, .int .i64 r.Canopy.Frame.Ease.Den, .int .i64 r.Canopy.Frame.Rod, .int .i64 r.Canopy.Frame.Case, r_v7, r_v8, r_v9, r_v10, .int .i64 r.Wrong]) rfl .none rfl ?_
 intro b1
 refine JL.assign .none rfl ?_
 refine JL.assign .none rfl ?_
 refine JL.done hQ (JQ.go (JC.seq (JC.region (by rfl) ?_)))
 intro hQ
 refine JL.loadOwn 0 az_90 rfl rfl rfl .none rfl ?_
 obtain ⟨y2, hy2, hF⟩ := bind_some hF
 refine JL.callS (c_counts_Harm n H r r_v0 hr_0 r_v7 hr_7 r_v8 hr_8 r_v9 hr_9 r_v10 hr_10 y2 hy2) rfl en_44 .none rfl ?_
 refine JL.move .none rfl ?_
 refine JL.extract rfl rfl .none rfl ?_
 refine JL.extract rfl rfl .none rfl ?_
 refine JL.alloc ze_39 .none rfl ?_
 intro b3
 refine JL.storeOwn 0 (cs := [.int .i64 y2.1.Low, .int .i64 y2.1.High]) az_39 rfl rfl rfl (one_cons rfl (one_cons rfl one_nil)) rfl rfl .none ?_
 refine JL.assign .none rfl ?_
 refine JL.done hQ (JQ.go (JC.seq (JC.block (JC.seq (JC.region (by rfl) ?_)))))
 intro hQ
 refine JL.move .none rfl ?_
 refine JL.bin rfl rfl rfl .none rfl ?_
 refine JL.assign .none rfl ?_
 refine JL.done hQ (JQ.go (JC.fresh (fun f => f 2 = .int .i64 0 ∧ f 3 = .int .i64 0 ∧ f 4 = .pointer (some ⟨b3, 0, none⟩) ∧ f 5 = .int .i64 y2.2 ∧ f 11 = .bool (y2.2 != 0)) ⟨rfl, rfl, rfl, rfl, rfl⟩ ?_))
 rintro f ⟨hf2, hf3, hf4, hf5, hf11⟩
 refine (JC.norm (i := 2) hf2 (JC.norm (i := 3) hf3 (JC.norm (i := 4) hf4 (JC.norm (i := 5) hf5 (JC.norm (i := 11) hf11 ?_)))))
 rcases ite_some hF with ⟨hc4, hF⟩ | ⟨hc4, hF⟩
 ·refine JC.cond_t (b := (y2.2 != 0)) rfl hc4 ?_
  refine JC.seq (JC.region (by rfl) ?_)
  intro hQ
  refine JL.move .none rfl ?_
  refine JL.assign .none rfl ?_
  refine JL.assign .none rfl ?_
  refine JL.done hQ (JQ.go (JC.ret (JQ.ret_block (JQ.ret_then ?_))))
  obtain rfl := Option.some.inj hF
  exact JQ.outS rfl (.tmp (.tmp .nil)) rfl
 ·refine JC.cond_f (b := (y2.2 != 0)) rfl hc4 ?_
  refine JC.seq (JC.region (by rfl) ?_)
  intro hQ
  refine JL.fieldAddr fo_39_1 rfl .none rfl ?_
  refine JL.loadOwn 0 az_3 rfl rfl rfl .none rfl ?_
  refine JL.bin rfl rfl rfl .none rfl ?_
  refine JL.assign .none rfl ?_
  refine JL.done hQ (JQ.go ?_)
  rcases ite_some hF with ⟨hc5, hF⟩ | ⟨hc5, hF⟩
  ·refine JC.cond_t (b := (y2.1.High == 0)) rfl hc5 ?_
   refine JC.seq (JC.region (by rfl) ?_)
   intro hQ
   refine JL.assign .none rfl ?_
   refine JL.assign .none rfl ?_
   refine JL.done hQ (JQ.go (JC.ret (JQ.ret_block (JQ.ret_then ?_))))
   obtain rfl := Option.some.inj hF
   exact JQ.outS rfl (.tmp (.tmp .nil)) rfl
  ·refine JC.cond_f (b := (y2.1.High == 0)) rfl hc5 ?_
   refine JC.seq (JC.region (by rfl) ?_)
   intro hQ
   refine JL.fieldAddr fo_39_0 rfl .none rfl ?_
   refine JL.loadOwn 0 az_3 rfl rfl rfl .none rfl ?_
   refine JL.bin rfl rfl rfl .none rfl ?_
   refine JL.assign .none rfl ?_
   refine JL.done hQ (JQ.go ?_)
   rcases ite_some hF with ⟨hc6, hF⟩ | ⟨hc6, hF⟩
   ·refine JC.cond_t (b := decide (0 < y2.1.Low)) rfl hc6 ?_
    refine JC.seq (JC.region (by rfl) ?_)
    intro hQ
    refine JL.assign .none rfl ?_
    refine JL.assign .none rfl ?_
    refine JL.done hQ (JQ.go (JC.ret (JQ.ret_block (JQ.ret_then ?_))))
    obtain rfl := Option.some.inj hF
    exact JQ.outS rfl (.tmp (.tmp .nil)) rfl
   ·refine JC.cond_f (b := decide (0 < y2.1.Low)) rfl hc6 ?_
    refine JC.skip (JQ.normal_block (JQ.go (JC.seq (JC.region (by rfl) ?_))))
    intro hQ
    refine JL.assign .none rfl ?_
    refine JL.assign .none rfl ?_
    refine JL.done hQ (JQ.go (JC.ret ?_))
    obtain rfl := Option.some.inj hF
    exact JQ.outS rfl (.tmp (.tmp .nil)) rfl
end Go.Proofs.Yteihdclpiekmaaa
end
section
namespace Go.Dec
/-- from some fuel on it yields y -/
def Ev {β : Type} (F : Nat → Option β) (y : β) : Prop := ∃ N, ∀ n, N ≤ n → F n = some y
theorem Ev.some {β : Type} (y : β) : Ev (fun _ => Option.some y) y := ⟨0, fun _ _ => rfl⟩
theorem Ev.of {β : Type} {F : Nat → Option β} {y : β} (h : ∀ n, F n = Option.some y) : Ev F y := ⟨0, fun n _ => h n⟩
theorem Ev.bind {α β : Type} {F : Nat → Option α} {K : Nat → α → Option β} {x : α} {y : β} (h : Ev F x) (k : Ev (fun n => K n x) y) : Ev (fun n => (F n).bind (K n)) y := by
  obtain ⟨N, hN⟩ := h
  obtain ⟨M, hM⟩ := k
  refine ⟨max N M, fun n hn => ?_⟩
  show (F n).bind (K n) = _
  rw [hN n (by omega)]
  exact hM n (by omega)
theorem Ev.get {β : Type} {F : Nat → Option β} {y : β} (h : Ev F y) : ∃ n, F n = Option.some y := let ⟨N, hN⟩ := h; ⟨N, hN N (Nat.le_refl _)⟩
/-- loops: the step's fuel and the loop's own -/
def EvL {S R : Type} (step : Nat → S → Option (S ⊕ R)) (s : S) (r : R) : Prop := ∃ N, ∀ n m, N ≤ n → N ≤ m → loopO m (step n) s = Option.some r
theorem EvL.done {S R : Type} {step : Nat → S → Option (S ⊕ R)} {s : S} {r : R} (h : Ev (fun n => step n s) (.inr r)) : EvL step s r := by
  obtain ⟨N, hN⟩ := h
  refine ⟨N + 1, fun n m hn hm => ?_⟩
  obtain ⟨m, rfl⟩ : ∃ k, m = k + 1 := ⟨m - 1, by omega⟩
  unfold loopO
  have := hN n (by omega)
  simp only at this
  rw [this]
theorem EvL.next {S R : Type} {step : Nat → S → Option (S ⊕ R)} {s s' : S} {r : R} (h : Ev (fun n => step n s) (.inl s')) (k : EvL step s' r) : EvL step s r := by
  obtain ⟨N, hN⟩ := h
  obtain ⟨M, hM⟩ := k
  refine ⟨max N M + 1, fun n m hn hm => ?_⟩
  obtain ⟨m, rfl⟩ : ∃ k, m = k + 1 := ⟨m - 1, by omega⟩
  unfold loopO
  have := hN n (by omega)
  simp only at this
  rw [this]
  exact hM n m (by omega) (by omega)
theorem EvL.ev {S R : Type} {step : Nat → S → Option (S ⊕ R)} {s : S} {r : R} (h : EvL step s r) : Ev (fun n => loopO n (step n) s) r :=
  let ⟨N, hN⟩ := h; ⟨N, fun n hn => hN n n hn hn⟩
/-- a loop over an index from i to k: s i is the state before round i; all rounds go on -/
theorem EvL.upto {S R : Type} {step : Nat → S → Option (S ⊕ R)} (s : Nat → S) {r : R} : ∀ (k i : Nat), i ≤ k → (∀ j, i ≤ j → j < k → Ev (fun n => step n (s j)) (.inl (s (j + 1)))) → Ev (fun n => step n (s k)) (.inr r) → EvL step (s i) r := by
  intro k i hik h hd
  obtain ⟨d, rfl⟩ : ∃ d, k = i + d := ⟨k - i, by omega⟩
  clear hik
  induction d generalizing i with
  | zero => exact .done hd
  | succ d ih =>
    refine .next (h i (Nat.le_refl _) (by omega)) (ih (i + 1) (fun j h1 h2 => h j (by omega) (by omega)) ?_)
    have : i + 1 + d = i + (d + 1) := by omega
    rw [this]; exact hd
/-- a loop that is left in round k -/
theorem EvL.left {S R : Type} {step : Nat → S → Option (S ⊕ R)} (s : Nat → S) {r : R} (k : Nat) (h : ∀ j, j < k → Ev (fun n => step n (s j)) (.inl (s (j + 1)))) (hd : Ev (fun n => step n (s k)) (.inr r)) : EvL step (s 0) r :=
  EvL.upto s k 0 (Nat.zero_le _) (fun j _ h2 => h j h2) hd
theorem geti_nat {α : Type} (l : List α) (i : Nat) : geti l (i : Int) = l[i]? := by
  unfold geti
  rw [if_pos (by omega)]
  simp
theorem w64_id {n : Int} (h1 : -9223372036854775808 ≤ n) (h2 : n ≤ 9223372036854775807) : w64 n = n := by
  have : w64 n = if n % 18446744073709551616 ≥ 9223372036854775808 then n % 18446744073709551616 - 18446744073709551616 else n % 18446744073709551616 := by
    simp [w64, Go.IntKind.wrap, Go.IntKind.signed, Go.IntKind.bits]
  rw [this]
  split <;> omega
def MonoF {β : Type} (F : Nat → Option β) : Prop := ∀ n m y, n ≤ m → F n = some y → F m = some y
theorem MonoF.const {β : Type} (o : Option β) : MonoF (fun _ => o) := fun _ _ _ _ h => h
theorem MonoF.bind {α β : Type} {F : Nat → Option α} {K : Nat → α → Option β} (h : MonoF F) (k : ∀ x, MonoF (fun n => K n x)) : MonoF (fun n => (F n).bind (K n)) := fun n m y hn hy => by
  obtain ⟨x, h1, h2⟩ := bind_some hy
  show (F m).bind (K m) = _
  rw [h n m x hn h1]
  exact k x n m y hn h2
theorem MonoF.loop {S R : Type} {step : Nat → S → Option (S ⊕ R)} (h : ∀ s, MonoF (fun n => step n s)) (s : S) : MonoF (fun n => loopO n (step n) s) := by
  have key : ∀ (k n m j : Nat) (s : S) (r : R), n ≤ m → k ≤ j → loopO k (step n) s = some r → loopO j (step m) s = some r := by
    intro k
    induction k with
    | zero => intro n m j s r _ _ h; simp [loopO] at h
    | succ k ih =>
      intro n m j s r hn hj hl
      obtain ⟨j, rfl⟩ : ∃ i, j = i + 1 := ⟨j - 1, by omega⟩
      unfold loopO at hl ⊢
      cases hs : step n s with
      | none => rw [hs] at hl; cases hl
      | some x =>
        rw [hs] at hl
        have := h s n m x hn hs
        simp only at this
        rw [this]
        cases x with
        | inl s' => exact ih n m j s' r hn (by omega) hl
        | inr r' => exact hl
  exact fun n m y hn hy => key n n m m s y hn hn hy
theorem MonoF.ev {β : Type} {F : Nat → Option β} (h : MonoF F) {n : Nat} {y : β} (hy : F n = some y) : Ev F y := ⟨n, fun m hm => h n m y hm hy⟩
end Go.Dec
end
section
namespace Go.Dec
theorem w64_nat {i : Nat} (h : i ≤ 4611686018427387904) : w64 ((i : Int) + 1) = ((i + 1 : Nat) : Int) := by
  rw [w64_id] <;> omega
theorem lim_ok {α : Type} {l : List α} (h : l.length ≤ 4294967296) : lim l = some l := by simp [lim, h]
section
variable {S R : Type} {step : S → Option (S ⊕ R)}
theorem loopO_succ {n : Nat} {s : S} : loopO (n + 1) step s = (match step s with | none => none | some (.inl s') => loopO n step s' | some (.inr r) => some r) := by
  rw [loopO]; rcases step s with _ | (_ | _) <;> rfl
theorem loop_done {n : Nat} {s : S} {r : R} (h : step s = some (.inr r)) (hn : 0 < n) : loopO n step s = some r := by
  obtain ⟨m, rfl⟩ : ∃ k, n = k + 1 := ⟨n - 1, by omega⟩
  rw [loopO_succ, h]
/-- a run of states -/
theorem loop_run (s : Nat → S) {r : R} : ∀ (k i n : Nat), (∀ j, i ≤ j → j < i + k → step (s j) = some (.inl (s (j + 1)))) → step (s (i + k)) = some (.inr r) → k < n → loopO n step (s i) = some r := by
  intro k
  induction k with
  | zero => intro i n _ h hn; exact loop_done h hn
  | succ k ih =>
    intro i n h hd hn
    obtain ⟨m, rfl⟩ : ∃ k, n = k + 1 := ⟨n - 1, by omega⟩
    rw [loopO_succ, h i (Nat.le_refl _) (by omega)]
    exact ih (i + 1) m (fun j h1 h2 => h j (by omega) (by omega)) (by rw [show i + 1 + k = i + (k + 1) by omega]; exact hd) (by omega)
/-- a loop that folds a list; I: what is so of the state before round i -/
theorem loop_fold {α β : Type} (l : List α) (enc : Nat → β → S) (g : β → α → β) (fin : β → R) (I : Nat → β → Prop) {n : Nat} (b0 : β) (h0 : I 0 b0)
    (h : ∀ i x b, l[i]? = some x → I i b → step (enc i b) = some (.inl (enc (i + 1) (g b x))) ∧ I (i + 1) (g b x))
    (hd : ∀ b, I l.length b → step (enc l.length b) = some (.inr (fin b))) (hn : l.length < n) : loopO n step (enc 0 b0) = some (fin (l.foldl g b0)) ∧ I l.length (l.foldl g b0) := by
  have key : ∀ (k i : Nat) (b : β) (n : Nat), i + k = l.length → I i b → k < n → loopO n step (enc i b) = some (fin ((l.drop i).foldl g b)) ∧ I l.length ((l.drop i).foldl g b) := by
    intro k
    induction k with
    | zero =>
      intro i b n hi hI hn
      have e : i = l.length := by omega
      subst e
      rw [List.drop_length]
      exact ⟨loop_done (hd b hI) hn, hI⟩
    | succ k ih =>
      intro i b n hi hI hn
      obtain ⟨m, rfl⟩ : ∃ k, n = k + 1 := ⟨n - 1, by omega⟩
      have hlt : i < l.length := by omega
      obtain ⟨h1, h2⟩ := h i l[i] b (List.getElem?_eq_getElem hlt) hI
      rw [loopO_succ, h1, List.drop_eq_getElem_cons hlt, List.foldl_cons]
      exact ih (i + 1) _ m (by omega) h2 (by omega)
  have := key l.length 0 b0 n (by omega) h0 hn
  rwa [List.drop_zero] at this
/-- .. with nothing to be remembered -/
theorem loop_foldl {α β : Type} (l : List α) (enc : Nat → β → S) (g : β → α → β) (fin : β → R) {n : Nat} (b0 : β)
    (h : ∀ i x b, l[i]? = some x → i < l.length → step (enc i b) = some (.inl (enc (i + 1) (g b x))))
    (hd : ∀ b, step (enc l.length b) = some (.inr (fin b))) (hn : l.length < n) : loopO n step (enc 0 b0) = some (fin (l.foldl g b0)) :=
  (loop_fold l enc g fin (fun _ _ => True) b0 trivial (fun i x b hx _ => ⟨h i x b hx (List.getElem?_eq_some_iff.1 hx).1, trivial⟩) (fun b _ => hd b) hn).1
/-- a search by index -/
theorem loop_all {ρ : Type} {step : Int → Option (Int ⊕ (ρ ⊕ Unit))} (k : Nat) (p : Nat → Bool) (r : ρ) {n : Nat} (hk : k ≤ 4611686018427387904)
    (h : ∀ i, i < k → step (i : Int) = some (bif p i then .inl ((i + 1 : Nat) : Int) else .inr (.inl r))) (hd : step (k : Int) = some (.inr (.inr ()))) (hn : k < n) :
    loopO n step 0 = some (bif (List.range k).all p then .inr () else .inl r) := by
  have key : ∀ (m i n : Nat), i + m = k → m < n → loopO n step (i : Int) = some (bif (List.range' i m).all p then .inr () else .inl r) := by
    intro m
    induction m with
    | zero => intro i n hi hn; have : i = k := by omega
              subst this; rw [loop_done hd (by omega)]; simp
    | succ m ih =>
      intro i n hi hn
      obtain ⟨m', rfl⟩ : ∃ k, n = k + 1 := ⟨n - 1, by omega⟩
      rw [loopO_succ, h i (by omega), List.range'_succ, List.all_cons]
      cases hp : p i with
      | false => simp
      | true => simp only [cond_true, Bool.true_and]; exact ih (i + 1) m' (by omega) (by omega)
  have := key k 0 n (by omega) hn
  rw [List.range_eq_range']
  exact this
/-- a search in a list -/
theorem loop_all_l {α ρ : Type} {step : Int → Option (Int ⊕ (ρ ⊕ Unit))} (l : List α) (p : α → Bool) (r : ρ) {n : Nat} (hk : l.length ≤ 4611686018427387904)
    (h : ∀ i x, l[i]? = some x → i < l.length → step (i : Int) = some (bif p x then .inl ((i + 1 : Nat) : Int) else .inr (.inl r))) (hd : step (l.length : Int) = some (.inr (.inr ()))) (hn : l.length < n) :
    loopO n step 0 = some (bif l.all p then .inr () else .inl r) := by
  have := loop_all l.length (fun i => match l[i]? with | some x => p x | none => true) r hk (fun i hi => by
    rw [h i l[i] (List.getElem?_eq_getElem hi) hi]; simp [hi]) hd hn
  rw [this]
  have e : (List.range l.length).all (fun i => match l[i]? with | some x => p x | none => true) = l.all p := by
    rw [Bool.eq_iff_iff]
    simp only [List.all_eq_true, List.mem_range]
    constructor
    · intro h x hx
      obtain ⟨i, hi⟩ := List.mem_iff_getElem?.1 hx
      have := h i (List.getElem?_eq_some_iff.1 hi).1
      simpa [hi] using this
    · intro h i hi
      simpa [hi] using h _ (List.getElem_mem hi)
  rw [e]
end
/-- the first one that is such -/
theorem first_of {α : Type} {p : α → Bool} : ∀ {s : List α}, s.any p = true → ∃ i : Nat, ∃ x, s[i]? = some x ∧ p x = true ∧ ∀ (j : Nat) y, j < i → s[j]? = some y → p y = false
  | [], h => by simp at h
  | a :: s, h => by
    by_cases ha : p a = true
    · exact ⟨0, a, rfl, ha, by intros; omega⟩
    · have hs : s.any p = true := by simpa [ha] using h
      obtain ⟨i, x, h1, h2, h3⟩ := first_of hs
      refine ⟨i + 1, x, by simpa using h1, h2, fun j y hj hy => ?_⟩
      cases j with
      | zero => simp at hy; subst hy; simpa using ha
      | succ j => exact h3 j y (by omega) (by simpa using hy)
/-- a walk over what an iterator yields -/
def foldO {σ ρ α : Type} (cs : σ → α → Option (σ ⊕ ρ)) : σ → List α → Option (σ ⊕ ρ)
  | s, [] => some (.inl s)
  | s, a :: l => (cs s a).bind fun y => match y with | .inl s' => foldO cs s' l | .inr r => some (.inr r)
theorem foldO_foldl {σ ρ α : Type} {cs : σ → α → Option (σ ⊕ ρ)} (g : σ → α → σ) (I : Nat → σ → Prop) : ∀ (l : List α) (k : Nat) (s : σ), I k s → (∀ i s a, i < k + l.length → a ∈ l → I i s → cs s a = some (.inl (g s a)) ∧ I (i + 1) (g s a)) →
    foldO cs s l = some (.inl (l.foldl g s)) ∧ I (k + l.length) (l.foldl g s)
  | [], k, s, h, _ => ⟨rfl, h⟩
  | a :: l, k, s, h, hs => by
    obtain ⟨h1, h2⟩ := hs k s a (by simp) (List.mem_cons_self ..) h
    obtain ⟨h3, h4⟩ := foldO_foldl g I l (k + 1) _ h2 (fun i s a hi ha => hs i s a (by rw [List.length_cons]; omega) (List.mem_cons_of_mem _ ha))
    refine ⟨by simp [foldO, h1, h3], ?_⟩
    rw [List.length_cons, show k + (l.length + 1) = k + 1 + l.length by omega]
    exact h4
theorem foldO_append {σ ρ α : Type} {cs : σ → α → Option (σ ⊕ ρ)} : ∀ (l m : List α) (s : σ), foldO cs s (l ++ m) = (foldO cs s l).bind fun y => match y with | .inl s' => foldO cs s' m | .inr r => some (.inr r)
  | [], m, s => by simp [foldO]
  | a :: l, m, s => by
    simp only [List.cons_append, foldO]
    cases cs s a with
    | none => rfl
    | some y => cases y with
      | inl s' => simp [foldO_append l m s']
      | inr r => simp
theorem foldl_filter_append {α : Type} (p : α → Bool) : ∀ (l out : List α), l.foldl (fun o x => if p x = true then o ++ [x] else o) out = out ++ l.filter p
  | [], out => by simp
  | a :: l, out => by
    rw [List.foldl_cons, foldl_filter_append p l]
    cases h : p a <;> simp [h]
theorem foldl_count {α : Type} (p : α → Bool) : ∀ (l : List α) (k : Int), l.foldl (fun o x => if p x = true then o + 1 else o) k = k + (l.countP p : Nat)
  | [], k => by simp
  | a :: l, k => by
    rw [List.foldl_cons, foldl_count p l]
    cases h : p a <;> simp [h, List.countP_cons]; omega
theorem foldl_append_map {α β : Type} (f : α → β) : ∀ (l : List α) (out : List β), l.foldl (fun o x => o ++ [f x]) out = out ++ l.map f
  | [], out => by simp
  | a :: l, out => by rw [List.foldl_cons, foldl_append_map f l]; simp
theorem foldl_pair {α β γ : Type} (f : β → α → β) (g : γ → α → γ) : ∀ (l : List α) (b : β) (c : γ), l.foldl (fun s x => (f s.1 x, g s.2 x)) (b, c) = (l.foldl f b, l.foldl g c)
  | [], _, _ => rfl
  | a :: l, b, c => by simp only [List.foldl_cons]; exact foldl_pair f g l _ _
end Go.Dec
end
section
namespace Go.Dec
def span (a b : Int) : List Int := (List.range (b + 1 - a).toNat).map fun j : Nat => a + j
def down (b a : Int) : List Int := (List.range (b + 1 - a).toNat).map fun j : Nat => b - j
theorem span_mem' {a b x : Int} : x ∈ span a b ↔ a ≤ x ∧ x ≤ b := by
  simp only [span, List.mem_map, List.mem_range]
  constructor
  · rintro ⟨j, h, rfl⟩; omega
  · intro h; exact ⟨(x - a).toNat, by omega, by omega⟩
theorem span_len (a b : Int) : (span a b).length = (b + 1 - a).toNat := by simp [span]
theorem span_nil {a b : Int} (h : b < a) : span a b = [] := by
  have : (b + 1 - a).toNat = 0 := by omega
  simp [span, this]
theorem span_cons {a b : Int} (h : a ≤ b) : span a b = a :: span (a + 1) b := by
  have : (b + 1 - a).toNat = (b + 1 - (a + 1)).toNat + 1 := by omega
  unfold span
  rw [this, List.range_succ_eq_map, List.map_cons, List.map_map]
  simp only [Int.natCast_zero, Int.add_zero]
  congr 1
  apply List.map_congr_left
  intro j _
  simp only [Function.comp]
  omega
/-- an iterator that counts up -/
theorem loop_up {σ ρ : Type} (cs : σ → Int → Option (σ ⊕ ρ)) {step : Int × σ → Option ((Int × σ) ⊕ (σ ⊕ ρ))} {hi : Int} : ∀ (k : Nat) (lo : Int) (s : σ) (n : Nat), (hi + 1 - lo).toNat = k →
    (∀ b s, lo ≤ b → b ≤ hi → step (b, s) = (cs s b).bind fun y => match y with | .inl s' => some (.inl (b + 1, s')) | .inr e => some (.inr (.inr e))) → (∀ b s, hi < b → b ≤ max lo (hi + 1) → step (b, s) = some (.inr (.inl s))) → k < n →
    loopO n step (lo, s) = foldO cs s (span lo hi) := by
  intro k
  induction k with
  | zero =>
    intro lo s n hk _ hd hn
    rw [span_nil (by omega), loop_done (hd lo s (by omega) (by omega)) hn]
    rfl
  | succ k ih =>
    intro lo s n hk h hd hn
    obtain ⟨m, rfl⟩ : ∃ k, n = k + 1 := ⟨n - 1, by omega⟩
    rw [span_cons (by omega), loopO_succ, h lo s (by omega) (by omega)]
    simp only [foldO]
    cases cs s lo with
    | none => rfl
    | some y => cases y with
      | inl s' =>
        simp only [Option.bind_some]
        exact ih (lo + 1) s' m (by omega) (fun b s h1 h2 => h b s (by omega) h2) (fun b s h1 h2 => hd b s h1 (by omega)) (by omega)
      | inr e => rfl
theorem foldO_flatMap {σ ρ α β : Type} {cs : σ → α → Option (σ ⊕ ρ)} (f : β → List α) : ∀ (l : List β) (s : σ), foldO cs s (l.flatMap f) = foldO (fun s b => foldO cs s (f b)) s l
  | [], s => by simp [foldO]
  | b :: l, s => by
    rw [List.flatMap_cons, foldO_append, foldO]
    congr 1
    funext y
    cases y with
    | inl s' => exact foldO_flatMap f l s'
    | inr r => rfl
theorem foldO_map {σ ρ α β : Type} {cs : σ → α → Option (σ ⊕ ρ)} (f : β → α) : ∀ (l : List β) (s : σ), foldO cs s (l.map f) = foldO (fun s b => cs s (f b)) s l
  | [], s => by simp [foldO]
  | b :: l, s => by
    rw [List.map_cons, foldO, foldO]
    congr 1
    funext y
    cases y with
    | inl s' => exact foldO_map f l s'
    | inr r => rfl
/-- a loop over a span that folds -/
theorem loop_span_fold {S R β : Type} {step : S → Option (S ⊕ R)} (enc : Int → β → S) (g : β → Int → β) (fin : β → R) (I : Int → β → Prop) {hi : Int} : ∀ (k : Nat) (lo : Int) (b0 : β) (n : Nat), (hi + 1 - lo).toNat = k → I lo b0 →
    (∀ i b, lo ≤ i → i ≤ hi → I i b → step (enc i b) = some (.inl (enc (i + 1) (g b i))) ∧ I (i + 1) (g b i)) → (∀ i b, hi < i → i ≤ max lo (hi + 1) → I i b → step (enc i b) = some (.inr (fin b))) → k < n →
    loopO n step (enc lo b0) = some (fin ((span lo hi).foldl g b0)) ∧ I (max lo (hi + 1)) ((span lo hi).foldl g b0) := by
  intro k
  induction k with
  | zero =>
    intro lo b0 n hk h0 _ hd hn
    rw [span_nil (by omega), loop_done (hd lo b0 (by omega) (by omega) h0) hn]
    rw [show max lo (hi + 1) = lo by omega]
    exact ⟨rfl, h0⟩
  | succ k ih =>
    intro lo b0 n hk h0 h hd hn
    obtain ⟨m, rfl⟩ : ∃ k, n = k + 1 := ⟨n - 1, by omega⟩
    obtain ⟨h1, h2⟩ := h lo b0 (by omega) (by omega) h0
    rw [span_cons (by omega), loopO_succ, h1, List.foldl_cons]
    have := ih (lo + 1) (g b0 lo) m (by omega) h2 (fun i b h1 h2 => h i b (by omega) h2) (fun i b h1 h2 => hd i b h1 (by omega)) (by omega)
    rw [show max (lo + 1) (hi + 1) = max lo (hi + 1) by omega] at this
    exact this
theorem loop_gcd {step : Int × Int → Option ((Int × Int) ⊕ Int)} (h0 : ∀ a, step (a, 0) = some (.inr a)) (h : ∀ a b, b ≠ 0 → step (a, b) = some (.inl (b, a.tmod b))) : ∀ (y x n : Nat), y < n → loopO n step ((x : Int), (y : Int)) = some ((Nat.gcd x y : Nat) : Int) := by
  intro y
  induction y using Nat.strongRecOn with
  | _ y ih =>
    intro x n hn
    obtain ⟨m, rfl⟩ : ∃ k, n = k + 1 := ⟨n - 1, by omega⟩
    rw [loopO_succ]
    by_cases hy : y = 0
    · subst hy
      have := h0 (x : Int)
      simp only [Int.natCast_zero] at *
      rw [this]; simp
    · rw [h _ _ (by omega)]
      simp only
      rw [← Int.ofNat_tmod]
      have hlt := Nat.mod_lt x (Nat.pos_of_ne_zero hy)
      rw [ih (x % y) hlt y m (by omega)]
      rw [Nat.gcd_comm x y, Nat.gcd_rec y x, Nat.gcd_comm]
theorem mul_in {x y A C : Int} (h1 : 0 ≤ x) (h2 : x ≤ A) (h3 : 0 ≤ y) (h4 : y ≤ C) : 0 ≤ x * y ∧ x * y ≤ A * C := by
  refine ⟨Int.mul_nonneg h1 h3, ?_⟩
  have a := Int.mul_le_mul_of_nonneg_right h2 h3
  have b := Int.mul_le_mul_of_nonneg_left h4 (show 0 ≤ A by omega)
  omega
theorem mul_abs {x y A C : Int} (h1 : -A ≤ x) (h2 : x ≤ A) (h3 : 0 ≤ y) (h4 : y ≤ C) : -(A * C) ≤ x * y ∧ x * y ≤ A * C := by
  have hA : 0 ≤ A := by omega
  have a := Int.mul_le_mul_of_nonneg_right h2 h3
  have a' := Int.mul_le_mul_of_nonneg_right h1 h3
  have b := Int.mul_le_mul_of_nonneg_left h4 hA
  rw [Int.neg_mul] at a'
  omega
end Go.Dec
end
section
namespace Go.Proofs.Yteihdclpiekmaaa
open Go Go.RowKit Go.Dec
set_option linter.unusedVariables false
theorem or_br (c b : Bool) : (if c = true then some true else some b) = some (c || b) := by cases c <;> rfl
theorem and_br (c b : Bool) : (if c = true then some b else some false) = some (c && b) := by cases c <;> rfl
theorem lt_nat (i k : Nat) : decide ((i : Int) < (k : Int)) = decide (i < k) := by simp
def wi (n lo hi : Int) : Bool := decide (lo ≤ n) && decide (n ≤ hi)
theorem wi_t {n lo hi : Int} : wi n lo hi = true ↔ lo ≤ n ∧ n ≤ hi := by simp [wi]
theorem p_within (n : Nat) (a b c : Int) : F_frames_within n a b c = some (wi a b c) := rfl
def okSpan (s : Span) : Bool := wi s.Low 1 s.High && decide (s.High ≤ 2000) && decide (w64 (s.High - s.Low) ≤ 6)
def okShare (x : Frac) : Bool := wi x.Den 1 20 && wi x.Num 0 x.Den
def okSec (s : Section) : Bool := okSpan s.Arm && okSpan s.Stretch && wi s.Base 0 2000 && okShare s.Gear
def okF (f : Frame) : Bool := wi f.Sections.length 1 3 && f.Sections.all okSec && (wi f.Low 1 f.High && decide (f.High ≤ 2000) && decide (w64 (f.High - f.Low) ≤ 200)) && okShare f.Ease && wi f.Rod 0 4000 && wi f.Case 0 4000
structure SecOk (s : Section) : Prop where
  a : 1 ≤ s.Arm.Low ∧ s.Arm.Low ≤ s.Arm.High ∧ s.Arm.High ≤ 2000 ∧ s.Arm.High - s.Arm.Low ≤ 6
  b : 1 ≤ s.Stretch.Low ∧ s.Stretch.Low ≤ s.Stretch.High ∧ s.Stretch.High ≤ 2000 ∧ s.Stretch.High - s.Stretch.Low ≤ 6
  c : 0 ≤ s.Base ∧ s.Base ≤ 2000
  d : 1 ≤ s.Gear.Den ∧ s.Gear.Den ≤ 20 ∧ 0 ≤ s.Gear.Num ∧ s.Gear.Num ≤ s.Gear.Den
structure FOk (f : Frame) : Prop where
  n : 1 ≤ f.Sections.length ∧ f.Sections.length ≤ 3
  s : ∀ s ∈ f.Sections, SecOk s
  r : 1 ≤ f.Low ∧ f.Low ≤ f.High ∧ f.High ≤ 2000 ∧ f.High - f.Low ≤ 200
  e : 1 ≤ f.Ease.Den ∧ f.Ease.Den ≤ 20 ∧ 0 ≤ f.Ease.Num ∧ f.Ease.Num ≤ f.Ease.Den
  rod : 0 ≤ f.Rod ∧ f.Rod ≤ 4000
  case : 0 ≤ f.Case ∧ f.Case ≤ 4000
theorem okSpan_iff {s : Span} : okSpan s = true ↔ 1 ≤ s.Low ∧ s.Low ≤ s.High ∧ s.High ≤ 2000 ∧ s.High - s.Low ≤ 6 := by
  simp only [okSpan, Bool.and_eq_true, wi_t, decide_eq_true_eq]
  constructor
  · rintro ⟨⟨⟨h1, h2⟩, h3⟩, h4⟩
    rw [w64_id (by omega) (by omega)] at h4
    exact ⟨h1, h2, h3, h4⟩
  · rintro ⟨h1, h2, h3, h4⟩
    refine ⟨⟨⟨h1, h2⟩, h3⟩, ?_⟩
    rw [w64_id (by omega) (by omega)]; exact h4
theorem okShare_iff {x : Frac} : okShare x = true ↔ 1 ≤ x.Den ∧ x.Den ≤ 20 ∧ 0 ≤ x.Num ∧ x.Num ≤ x.Den := by
  simp only [okShare, Bool.and_eq_true, wi_t]
  constructor
  · rintro ⟨⟨h1, h2⟩, h3, h4⟩; exact ⟨h1, h2, h3, h4⟩
  · rintro ⟨h1, h2, h3, h4⟩; exact ⟨⟨h1, h2⟩, h3, h4⟩
theorem okSec_iff {s : Section} : okSec s = true ↔ SecOk s := by
  simp only [okSec, Bool.and_eq_true, okSpan_iff, okShare_iff, wi_t]
  constructor
  · rintro ⟨⟨⟨h1, h2⟩, h3⟩, h4⟩; exact ⟨h1, h2, h3, h4⟩
  · rintro ⟨h1, h2, h3, h4⟩; exact ⟨⟨⟨h1, h2⟩, h3⟩, h4⟩
theorem okF_iff {f : Frame} : okF f = true ↔ FOk f := by
  simp only [okF, Bool.and_eq_true, okShare_iff, wi_t, List.all_eq_true, okSec_iff, decide_eq_true_eq]
  constructor
  · rintro ⟨⟨⟨⟨⟨h1, h2⟩, ⟨h3, h4⟩, h5⟩, h6⟩, h7⟩, h8⟩
    rw [w64_id (by omega) (by omega)] at h5
    exact ⟨by omega, h2, by omega, h6, h7, h8⟩
  · rintro ⟨h1, h2, h3, h4, h5, h6⟩
    refine ⟨⟨⟨⟨⟨by omega, h2⟩, ⟨by omega, by omega⟩, ?_⟩, h4⟩, h5⟩, h6⟩
    rw [w64_id (by omega) (by omega)]; omega
section
variable {n : Nat} (hn : 100000000 ≤ n)
include hn
theorem p_ContainsSec (s : List Section) (f : Section → Option Bool) (p : Section → Bool) (hf : ∀ x, x ∈ s → f x = some (p x)) (hs : s.length ≤ 1000) : F_slices_ContainsFunc___api_Section_api_Section_ n s f = some (s.any p) := by
  have : ∃ k, F_slices_IndexFunc___api_Section_api_Section_ n s f = some k ∧ decide (0 ≤ k) = s.any p := by
    by_cases h : s.any p = true
    · have : ∃ i : Nat, ∃ x, s[i]? = some x ∧ p x = true ∧ ∀ (j : Nat) y, j < i → s[j]? = some y → p y = false := first_of h
      obtain ⟨i, x, h1, h2, h3⟩ := this
      have hil := (List.getElem?_eq_some_iff.1 h1).1
      refine ⟨i, ?_, by rw [h]; simp⟩
      have := loop_run (step := F_slices_IndexFunc___api_Section_api_Section__s1 n s f) (fun j => (j : Int)) (r := .inl (i : Int)) i 0 n (fun j _ hj => ?_) ?_ (by omega)
      · unfold F_slices_IndexFunc___api_Section_api_Section_
        simp only [Int.natCast_zero] at this
        rw [this]; rfl
      · have hj' : j < s.length := by omega
        have e : s[j]? = some s[j] := List.getElem?_eq_getElem hj'
        simp only [F_slices_IndexFunc___api_Section_api_Section__s1, geti_nat, e, Option.bind_some, hf _ (List.getElem_mem hj'), h3 j _ (by omega) e, lt_nat, hj', decide_true, if_true, Bool.false_eq_true, if_false, w64_nat (show j ≤ 4611686018427387904 by omega)]
      · simp only [Nat.zero_add, F_slices_IndexFunc___api_Section_api_Section__s1, geti_nat, h1, Option.bind_some, hf _ (List.mem_of_getElem? h1), h2, lt_nat, hil, decide_true, if_true]
    · have hno : ∀ x ∈ s, p x = false := fun x hx => by
        cases hp : p x with
        | false => rfl
        | true => exact absurd (List.any_eq_true.2 ⟨x, hx, hp⟩) h
      refine ⟨-1, ?_, by simp only [Bool.not_eq_true] at h; rw [h]; rfl⟩
      have := loop_all_l (step := F_slices_IndexFunc___api_Section_api_Section__s1 n s f) s (fun _ => true) (0 : Int) (n := n) (by omega) (fun i x hx hi => ?_) ?_ (by omega)
      · unfold F_slices_IndexFunc___api_Section_api_Section_; rw [this, show (s.all fun _ => true) = true by simp]; rfl
      · simp only [F_slices_IndexFunc___api_Section_api_Section__s1, geti_nat, hx, Option.bind_some, hf _ (List.mem_of_getElem? hx), hno _ (List.mem_of_getElem? hx), lt_nat, hi, decide_true, if_true, cond_true, Bool.false_eq_true, if_false, w64_nat (show i ≤ 4611686018427387904 by omega)]
      · simp [F_slices_IndexFunc___api_Section_api_Section__s1]
  obtain ⟨k, h1, h2⟩ := this
  simp only [F_slices_ContainsFunc___api_Section_api_Section_, h1, Option.bind_some, h2]
theorem p_Check_1 (s : Section) : F_frames_Check_1 n s = some (!okSec s) := by
  have _hn := hn
  simp only [F_frames_Check_1, F_frames_isPart, F_frames_isShare, p_within, Option.bind_some, and_br, or_br]
  have e : (!(wi s.Arm.Low 1 s.Arm.High && decide (s.Arm.High ≤ 2000) && decide (w64 (s.Arm.High - s.Arm.Low) ≤ 6)) || !(wi s.Stretch.Low 1 s.Stretch.High && decide (s.Stretch.High ≤ 2000) && decide (w64 (s.Stretch.High - s.Stretch.Low) ≤ 6)) || !wi s.Base 0 2000 || !(wi s.Gear.Den 1 20 && wi s.Gear.Num 0 s.Gear.Den)) = !okSec s := by
    simp only [okSec, okSpan, okShare, Bool.not_and, Bool.or_assoc]
  rw [e]
theorem p_Check {f : Frame} (hl : f.Sections.length ≤ 1000) : F_frames_Check n f = some (if okF f = true then 0 else 10) := by
  simp only [F_frames_Check, F_frames_isShare, p_within, Option.bind_some, and_br, or_br, p_ContainsSec hn f.Sections (fun a => F_frames_Check_1 n a) (fun s => !okSec s) (fun s _ => p_Check_1 hn s) hl]
  have e0 : (f.Sections.any fun s => !okSec s) = !f.Sections.all okSec := by simp [List.any_eq_not_all_not]
  rw [e0]
  have e : (!wi f.Sections.length 1 3 || !f.Sections.all okSec || !(wi f.Low 1 f.High && decide (f.High ≤ 2000) && decide (w64 (f.High - f.Low) ≤ 200)) || !(wi f.Ease.Den 1 20 && wi f.Ease.Num 0 f.Ease.Den) || !wi f.Rod 0 4000 || !wi f.Case 0 4000) = !okF f := by
    simp only [okF, okShare, Bool.not_and, Bool.or_assoc]
  rw [e]
  cases okF f <;> rfl
end
def gearStep (r : Int) (s : Section) : Int := s.Base + (r * s.Gear.Num).tdiv s.Gear.Den
def dist (f : Frame) (i : Nat) (r : Int) : Int := ((f.Sections.take (i + 1)).drop 1).foldl gearStep r
theorem gear_in {s : Section} (hs : SecOk s) {r A : Int} (h0 : 0 ≤ r) (hA : r ≤ A) : 0 ≤ gearStep r s ∧ gearStep r s ≤ 2000 + A ∧ 0 ≤ r * s.Gear.Num ∧ r * s.Gear.Num ≤ A * 20 ∧ 0 ≤ (r * s.Gear.Num).tdiv s.Gear.Den ∧ (r * s.Gear.Num).tdiv s.Gear.Den ≤ A := by
  obtain ⟨_, _, hc, hd⟩ := hs
  have h1 := mul_in h0 hA hd.2.2.1 (show s.Gear.Num ≤ 20 by omega)
  have h2 : r * s.Gear.Num ≤ r * s.Gear.Den := Int.mul_le_mul_of_nonneg_left hd.2.2.2 h0
  have h3 : (r * s.Gear.Num).tdiv s.Gear.Den = r * s.Gear.Num / s.Gear.Den := Int.tdiv_eq_ediv_of_nonneg h1.1
  have h4 : 0 ≤ r * s.Gear.Num / s.Gear.Den := Int.ediv_nonneg h1.1 (by omega)
  have h5 : r * s.Gear.Num / s.Gear.Den ≤ r := Int.ediv_le_of_le_mul (by omega) h2
  rw [h3]
  unfold gearStep
  rw [h3]
  refine ⟨by omega, by omega, h1.1, h1.2, h4, by omega⟩
theorem fold_in : ∀ (l : List Section) (r A : Int), (∀ s ∈ l, SecOk s) → 0 ≤ r → r ≤ A → 0 ≤ l.foldl gearStep r ∧ l.foldl gearStep r ≤ A + 2000 * l.length
  | [], r, A, _, h1, h2 => by simp; omega
  | s :: l, r, A, hs, h1, h2 => by
    obtain ⟨k1, k2, _⟩ := gear_in (hs s (List.mem_cons_self ..)) h1 h2
    have := fold_in l (gearStep r s) (2000 + A) (fun x hx => hs x (List.mem_cons_of_mem _ hx)) k1 k2
    simp only [List.foldl_cons, List.length_cons]
    omega
theorem dist_in {f : Frame} (hf : FOk f) {r : Int} (hr : 0 ≤ r ∧ r ≤ 2000) (i : Nat) : 0 ≤ dist f i r ∧ dist f i r ≤ 6000 := by
  have h := fold_in ((f.Sections.take (i + 1)).drop 1) r 2000 (fun s hs => hf.s s (List.mem_of_mem_take (List.mem_of_mem_drop hs))) hr.1 hr.2
  have hl : ((f.Sections.take (i + 1)).drop 1).length ≤ 2 := by
    have := hf.n
    simp only [List.length_drop, List.length_take]
    omega
  unfold dist
  omega
section
variable {n : Nat} (hn : 100000000 ≤ n)
include hn
theorem p_distance {f : Frame} (hf : FOk f) {i : Nat} (hi : i < f.Sections.length) {r : Int} (hr : 0 ≤ r ∧ r ≤ 2000) : F_frames_distance n f i r = some (dist f i r) := by
  have hl := hf.n
  have e1 : w64 ((i : Int) + 1) = ((i + 1 : Nat) : Int) := w64_nat (by omega)
  have e2 : slc f.Sections 1 (((i + 1 : Nat) : Int)) = some ((f.Sections.take (i + 1)).drop 1) := by
    unfold slc
    rw [if_pos (by omega)]
    simp
  simp only [F_frames_distance, e1, e2, Option.bind_some]
  have hlen : ((f.Sections.take (i + 1)).drop 1).length ≤ 2 := by simp; omega
  have := loop_fold (step := F_frames_distance_s1 n ((f.Sections.take (i + 1)).drop 1)) ((f.Sections.take (i + 1)).drop 1) (fun j r => (r, (j : Int))) gearStep (fun r => r) (fun j r => 0 ≤ r ∧ r ≤ 2000 + 2000 * j) (n := n) r (by omega) (fun j s b hj hb => by
    have hjl := (List.getElem?_eq_some_iff.1 hj).1
    have hs := hf.s s (List.mem_of_mem_take (List.mem_of_mem_drop (List.mem_of_getElem? hj)))
    obtain ⟨k1, k2, k3, k4, k5, k6⟩ := gear_in hs hb.1 hb.2
    refine ⟨?_, k1, by omega⟩
    have hd := hs.d
    have hc := hs.c
    have hnz : nz s.Gear.Den = some () := by unfold nz; rw [if_neg (by omega)]
    have hge : gearStep b s = s.Base + (b * s.Gear.Num).tdiv s.Gear.Den := rfl
    simp only [F_frames_distance_s1, geti_nat, hj, Option.bind_some, hnz, lt_nat, hjl, decide_true, if_true, w64_nat (show j ≤ 4611686018427387904 by omega)]
    rw [w64_id (n := b * s.Gear.Num) (by omega) (by omega), w64_id (n := (b * s.Gear.Num).tdiv s.Gear.Den) (by omega) (by omega), w64_id (by omega) (by omega), hge]) (fun b _ => by simp [F_frames_distance_s1]) (by omega)
  simp only [Int.natCast_zero] at this
  rw [this.1]
  rfl
end
def sidesL (s : Section) : List frames_sides := (span s.Arm.Low s.Arm.High).flatMap fun a => (span s.Stretch.Low s.Stretch.High).map fun b => ⟨a, b⟩
theorem sides_mem {s : Section} {x : frames_sides} : x ∈ sidesL s ↔ (s.Arm.Low ≤ x.arm ∧ x.arm ≤ s.Arm.High) ∧ (s.Stretch.Low ≤ x.stretch ∧ x.stretch ≤ s.Stretch.High) := by
  simp only [sidesL, List.mem_flatMap, List.mem_map, span_mem']
  constructor
  · rintro ⟨a, ha, b, hb, rfl⟩; exact ⟨ha, hb⟩
  · rintro ⟨ha, hb⟩; exact ⟨x.arm, ha, x.stretch, hb, rfl⟩
def cosF (d : Int) (x : frames_sides) : Frac := ⟨d * d + x.arm * x.arm - x.stretch * x.stretch, 2 * d * x.arm⟩
def ltF (x y : Frac) : Bool := decide (x.Num * y.Den < y.Num * x.Den)
structure XOk (x : frames_sides) : Prop where
  a : 1 ≤ x.arm ∧ x.arm ≤ 2000
  b : 1 ≤ x.stretch ∧ x.stretch ≤ 2000
theorem sides_ok {s : Section} (hs : SecOk s) {x : frames_sides} (h : x ∈ sidesL s) : XOk x := by
  have := sides_mem.1 h
  have := hs.a; have := hs.b
  exact ⟨by omega, by omega⟩
/-- a cosine's numbers stay small -/
def FracOk (x : Frac) : Prop := (1 ≤ x.Den ∧ x.Den ≤ 24000000) ∧ -40000000 ≤ x.Num ∧ x.Num ≤ 40000000
theorem cos_ok {d : Int} (hd : 1 ≤ d ∧ d ≤ 6000) {x : frames_sides} (hx : XOk x) : FracOk (cosF d x) ∧ (0 ≤ d * d ∧ d * d ≤ 36000000) ∧ (0 ≤ x.arm * x.arm ∧ x.arm * x.arm ≤ 4000000) ∧ (0 ≤ x.stretch * x.stretch ∧ x.stretch * x.stretch ≤ 4000000) := by
  have h1 := mul_in (show 0 ≤ d by omega) hd.2 (show 0 ≤ d by omega) hd.2
  have h2 := mul_in (show 0 ≤ x.arm by have := hx.a; omega) hx.a.2 (show 0 ≤ x.arm by have := hx.a; omega) hx.a.2
  have h3 := mul_in (show 0 ≤ x.stretch by have := hx.b; omega) hx.b.2 (show 0 ≤ x.stretch by have := hx.b; omega) hx.b.2
  have h4 := mul_in (show 0 ≤ 2 * d by omega) (show 2 * d ≤ 12000 by omega) (show 0 ≤ x.arm by have := hx.a; omega) hx.a.2
  have h5 : 1 * 1 ≤ 2 * d * x.arm := Int.mul_le_mul (by omega) hx.a.1 (by omega) (by omega)
  refine ⟨⟨⟨by simp only [cosF]; omega, by simp only [cosF]; omega⟩, by simp only [cosF]; omega, by simp only [cosF]; omega⟩, by omega, by omega, by omega⟩
theorem p_cosine (n : Nat) {d : Int} (hd : 1 ≤ d ∧ d ≤ 6000) {x : frames_sides} (hx : XOk x) : F_frames_sides_cosine n x d = some (cosF d x) := by
  obtain ⟨⟨⟨k1, k2⟩, k3, k4⟩, h1, h2, h3⟩ := cos_ok hd hx
  simp only [cosF] at k1 k2 k3 k4
  simp only [F_frames_sides_cosine, cosF]
  rw [w64_id (n := d * d) (by omega) (by omega), w64_id (n := x.arm * x.arm) (by omega) (by omega), w64_id (n := x.stretch * x.stretch) (by omega) (by omega), w64_id (n := 2 * d) (by omega) (by omega), w64_id (n := 2 * d * x.arm) (by omega) (by omega), w64_id (n := d * d + x.arm * x.arm) (by omega) (by omega), w64_id (by omega) (by omega)]
def cmpF (x y : Frac) : Int := if x.Num * y.Den < y.Num * x.Den then -1 else if y.Num * x.Den < x.Num * y.Den then 1 else 0
theorem p_compare (n : Nat) {x y : Frac} (h1 : -40000000 ≤ x.Num ∧ x.Num ≤ 40000000 ∧ 0 ≤ x.Den ∧ x.Den ≤ 24000000) (h2 : -40000000 ≤ y.Num ∧ y.Num ≤ 40000000 ∧ 0 ≤ y.Den ∧ y.Den ≤ 24000000) : F_frames_compare n x y = some (cmpF x y) := by
  have a := mul_abs h1.1 h1.2.1 h2.2.2.1 h2.2.2.2
  have b := mul_abs h2.1 h2.2.1 h1.2.2.1 h1.2.2.2
  simp only [F_frames_compare, F_cmp_Compare_int_, F_cmp_isNaN_int_, Option.bind_some, bne_self_eq_false, Bool.false_eq_true, if_false]
  rw [w64_id (n := x.Num * y.Den) (by omega) (by omega), w64_id (n := y.Num * x.Den) (by omega) (by omega)]
  unfold cmpF
  by_cases h : x.Num * y.Den < y.Num * x.Den
  · simp [h]
  · by_cases h' : y.Num * x.Den < x.Num * y.Den
    · simp [h, h']
    · simp [h, h']
theorem cmp_lt {x y : Frac} : (cmpF x y < 0) ↔ ltF x y = true := by
  unfold cmpF ltF
  split
  · simp [*]
  · split
    · simp [*]
    · simp [*]
theorem cmp_gt {x y : Frac} : (0 < cmpF x y) ↔ ltF y x = true := by
  unfold cmpF ltF
  split
  · rename_i h
    simp; omega
  · split
    · simp [*]
    · simp [*]
def red (x : Frac) : Frac := ⟨x.Num.tdiv (Int.gcd x.Num x.Den : Nat), x.Den.tdiv (Int.gcd x.Num x.Den : Nat)⟩
theorem red_spec {x : Frac} (h : 1 ≤ x.Den) : ∃ g : Int, 1 ≤ g ∧ g = (Int.gcd x.Num x.Den : Nat) ∧ x.Num = g * (red x).Num ∧ x.Den = g * (red x).Den ∧ 1 ≤ (red x).Den := by
  have hg : 0 < Int.gcd x.Num x.Den := Int.gcd_pos_of_ne_zero_right _ (by omega)
  obtain ⟨a, ha⟩ := Int.gcd_dvd_left x.Num x.Den
  obtain ⟨b, hb⟩ := Int.gcd_dvd_right x.Num x.Den
  have hne : ((Int.gcd x.Num x.Den : Nat) : Int) ≠ 0 := by omega
  have ea : (red x).Num = a := by
    show x.Num.tdiv _ = a
    conv => lhs; arg 1; rw [ha]
    exact Int.mul_tdiv_cancel_left _ hne
  have eb : (red x).Den = b := by
    show x.Den.tdiv _ = b
    conv => lhs; arg 1; rw [hb]
    exact Int.mul_tdiv_cancel_left _ hne
  refine ⟨(Int.gcd x.Num x.Den : Nat), by omega, rfl, by rw [ea]; exact ha, by rw [eb]; exact hb, ?_⟩
  rw [eb]
  rcases Int.lt_or_le 0 b with h' | h'
  · omega
  · exfalso
    have := Int.mul_le_mul_of_nonneg_left h' (show 0 ≤ ((Int.gcd x.Num x.Den : Nat) : Int) by omega)
    omega
/-- reduced numbers are no greater -/
theorem red_ok {x : Frac} (h : FracOk x) : FracOk (red x) := by
  obtain ⟨⟨h1, h2⟩, h3, h4⟩ := h
  obtain ⟨g, k1, _, k2, k3, k4⟩ := red_spec h1
  refine ⟨⟨k4, ?_⟩, ?_, ?_⟩
  · have := Int.mul_le_mul_of_nonneg_right k1 (show 0 ≤ (red x).Den by omega)
    omega
  · rcases Int.lt_or_le (red x).Num 0 with h | h
    · have := Int.mul_le_mul_of_nonneg_right k1 (show 0 ≤ -(red x).Num by omega)
      rw [Int.mul_neg, Int.mul_neg] at this
      omega
    · omega
  · rcases Int.lt_or_le (red x).Num 0 with h | h
    · omega
    · have := Int.mul_le_mul_of_nonneg_right k1 h
      omega
theorem gcd_abs (a b : Int) (hb : 0 ≤ b) : (Nat.gcd a.natAbs b.toNat : Nat) = Int.gcd a b := by
  unfold Int.gcd
  congr 1
  omega
theorem p_gcd {n : Nat} (hn : 100000000 ≤ n) {x : Frac} (h : FracOk x) (step : Int × Int → Option ((Int × Int) ⊕ Int)) (h0 : ∀ a, step (a, 0) = some (.inr a)) (hs : ∀ a b, b ≠ 0 → step (a, b) = some (.inl (b, a.tmod b))) :
    loopO n step (max x.Num (w64 (-x.Num)), x.Den) = some ((Int.gcd x.Num x.Den : Nat) : Int) := by
  obtain ⟨⟨h1, h2⟩, h3, h4⟩ := h
  have e : max x.Num (w64 (-x.Num)) = (x.Num.natAbs : Int) := by rw [w64_id (by omega) (by omega)]; omega
  have e2 : x.Den = (x.Den.toNat : Int) := by omega
  rw [e]
  conv => lhs; arg 3; rw [e2]
  rw [loop_gcd h0 hs x.Den.toNat x.Num.natAbs n (by omega), gcd_abs _ _ (by omega)]
theorem red_w {x : Frac} (h : FracOk x) : w64 (x.Num.tdiv (Int.gcd x.Num x.Den : Nat)) = (red x).Num ∧ w64 (x.Den.tdiv (Int.gcd x.Num x.Den : Nat)) = (red x).Den ∧ nz ((Int.gcd x.Num x.Den : Nat) : Int) = some () := by
  obtain ⟨⟨h1, h2⟩, h3, h4⟩ := red_ok h
  obtain ⟨g, k1, k2, _⟩ := red_spec h.1.1
  refine ⟨w64_id (n := (red x).Num) (by omega) (by omega), w64_id (n := (red x).Den) (by omega) (by omega), ?_⟩
  unfold nz; rw [if_neg (by omega)]
theorem p_reduced {n : Nat} (hn : 100000000 ≤ n) {x : Frac} (h : FracOk x) : F_frames_reduced n x = some (red x) := by
  have := p_gcd hn h (F_frames_reduced_s1 n) (fun a => by simp [F_frames_reduced_s1]) (fun a b hb => by
    have hz : nz b = some () := by unfold nz; rw [if_neg hb]
    simp [F_frames_reduced_s1, hb, hz])
  obtain ⟨h1, h2, h3⟩ := red_w h
  simp only [F_frames_reduced, this, Option.bind_some, h1, h2, h3]
end Go.Proofs.Yteihdclpiekmaaa
end
section
namespace Go.Proofs.Yteihdclpiekmaaa
open Go Go.RowKit Go.Dec
set_option linter.unusedVariables false
def knownI (so all : Nat) : Int := if (so : Int) == (all : Int) then 1 else if (so : Int) == 0 then 2 else 3
def K (s : Section) (p : frames_sides → Bool) : Int := knownI ((sidesL s).countP p) (sidesL s).length
def secAt (f : Frame) (i : Nat) : Section := (f.Sections[i]?).getD ⟨⟨0, 0⟩, ⟨0, 0⟩, 0, ⟨0, 0⟩⟩
def askT (f : Frame) (sec r : Int) : Int := if okF f = true then (if (wi sec 0 ((f.Sections.length : Int) - 1) && wi r f.Low f.High) = true then 0 else 1) else 10
def lowF (d : Int) : List frames_sides → Frac
  | [] => ⟨0, 0⟩
  | a :: l => l.foldl (fun m x => if ltF (cosF d x) m = true then cosF d x else m) (cosF d a)
def highF (d : Int) : List frames_sides → Frac
  | [] => ⟨0, 0⟩
  | a :: l => l.foldl (fun m x => if ltF m (cosF d x) = true then cosF d x else m) (cosF d a)
def cosineT (f : Frame) (sec r : Int) : Frac × Frac × Int :=
  if askT f sec r = 0 then (if dist f sec.toNat r = 0 then (⟨0, 0⟩, ⟨0, 0⟩, 3) else (red (lowF (dist f sec.toNat r) (sidesL (secAt f sec.toNat))), red (highF (dist f sec.toNat r) (sidesL (secAt f sec.toNat))), 0)) else (⟨0, 0⟩, ⟨0, 0⟩, askT f sec r)
theorem secAt_get {f : Frame} {i : Nat} (h : i < f.Sections.length) : f.Sections[i]? = some (secAt f i) := by simp [secAt, h]
theorem secAt_mem {f : Frame} {i : Nat} (h : i < f.Sections.length) : secAt f i ∈ f.Sections := List.mem_of_getElem? (secAt_get h)
theorem askT_ok {f : Frame} {sec r : Int} (h : askT f sec r = 0) : FOk f ∧ (sec = (sec.toNat : Int) ∧ sec.toNat < f.Sections.length) ∧ f.Low ≤ r ∧ r ≤ f.High := by
  unfold askT at h
  by_cases ho : okF f = true
  · rw [if_pos ho] at h
    by_cases hc : (wi sec 0 ((f.Sections.length : Int) - 1) && wi r f.Low f.High) = true
    · simp only [Bool.and_eq_true, wi_t] at hc
      exact ⟨okF_iff.1 ho, ⟨by omega, by omega⟩, hc.2⟩
    · rw [if_neg hc] at h; cases h
  · rw [if_neg ho] at h; cases h
theorem low_ok {d : Int} (hd : 1 ≤ d ∧ d ≤ 6000) : ∀ (l : List frames_sides), (∀ x ∈ l, XOk x) → l ≠ [] → FracOk (lowF d l) ∧ FracOk (highF d l)
  | [], _, h => absurd rfl h
  | a :: l, hx, _ => by
    have ha := (cos_ok hd (hx a (List.mem_cons_self ..))).1
    have key : ∀ (l : List frames_sides) (m m' : Frac), (∀ x ∈ l, XOk x) → FracOk m → FracOk m' → FracOk (l.foldl (fun m x => if ltF (cosF d x) m = true then cosF d x else m) m) ∧ FracOk (l.foldl (fun m x => if ltF m (cosF d x) = true then cosF d x else m) m') := by
      intro l
      induction l with
      | nil => intro m m' _ h1 h2; exact ⟨h1, h2⟩
      | cons b l ih =>
        intro m m' hx h1 h2
        have hb := (cos_ok hd (hx b (List.mem_cons_self ..))).1
        simp only [List.foldl_cons]
        exact ih _ _ (fun x h => hx x (List.mem_cons_of_mem _ h)) (by split <;> assumption) (by split <;> assumption)
    exact key l _ _ (fun x h => hx x (List.mem_cons_of_mem _ h)) ha ha
theorem sides_ne {s : Section} (hs : SecOk s) : sidesL s ≠ [] := fun e => by
  have := hs.a; have := hs.b
  have : (⟨s.Arm.Low, s.Stretch.Low⟩ : frames_sides) ∈ sidesL s := sides_mem.2 ⟨by simp only; omega, by simp only; omega⟩
  rw [e] at this; cases this
section
variable {n : Nat} (hn : 100000000 ≤ n)
include hn
theorem p_truths {s : Section} (hs : SecOk s) {σ ρ : Type} (cs : σ → frames_sides → Option (σ ⊕ ρ)) (st : σ) : I_frames_truths_1 n s cs st = foldO cs st (sidesL s) := by
  have ha := hs.a; have hb := hs.b
  have inner : ∀ (a : Int) (st : σ), loopO n (I_frames_truths_1_s2 s a cs) (s.Stretch.Low, st) = foldO cs st ((span s.Stretch.Low s.Stretch.High).map fun b => (⟨a, b⟩ : frames_sides)) := fun a st => by
    rw [foldO_map]
    refine loop_up (fun st b => cs st ⟨a, b⟩) _ _ _ _ rfl (fun b st h1 h2 => ?_) (fun b st h1 h2 => ?_) (by omega)
    · simp only [I_frames_truths_1_s2]
      rw [if_pos (by simpa using h2), w64_id (by omega) (by omega)]
      rfl
    · simp only [I_frames_truths_1_s2]
      rw [if_neg (by simp; omega)]
  unfold I_frames_truths_1
  rw [show sidesL s = (span s.Arm.Low s.Arm.High).flatMap fun a => (span s.Stretch.Low s.Stretch.High).map fun b => (⟨a, b⟩ : frames_sides) from rfl, foldO_flatMap]
  refine loop_up (fun st a => foldO cs st ((span s.Stretch.Low s.Stretch.High).map fun b => (⟨a, b⟩ : frames_sides))) _ _ _ _ rfl (fun b st h1 h2 => ?_) (fun b st h1 h2 => ?_) (by omega)
  · simp only [I_frames_truths_1_s1]
    rw [if_pos (by simpa using h2), inner, w64_id (by omega) (by omega)]
    rfl
  · simp only [I_frames_truths_1_s1]
    rw [if_neg (by simp; omega)]
theorem p_ask {f : Frame} (hl : f.Sections.length ≤ 1000) (sec r : Int) : F_frames_ask n f sec r = some (askT f sec r) := by
  simp only [F_frames_ask, p_Check hn hl, p_within, Option.bind_some, or_br, askT]
  by_cases ho : okF f = true
  · simp only [ho, if_true]
    rw [w64_id (by omega) (by omega)]
    cases wi sec 0 ((f.Sections.length : Int) - 1) <;> cases wi r f.Low f.High <;> rfl
  · simp [ho]
theorem p_Cosine {f : Frame} (hl : f.Sections.length ≤ 1000) (sec r : Int) : F_frames_Cosine n f sec r = some (cosineT f sec r) := by
  simp only [F_frames_Cosine, p_ask hn hl, Option.bind_some, cosineT]
  by_cases h : askT f sec r = 0
  · obtain ⟨h1, ⟨h2, h3⟩, h4⟩ := askT_ok h
    have hr := h1.r
    have hs := h1.s _ (secAt_mem h3)
    have e := p_distance hn h1 h3 (r := r) (by omega)
    rw [← h2] at e
    have hd := dist_in h1 (r := r) (by omega) sec.toNat
    have e2 : geti f.Sections sec = some (secAt f sec.toNat) := by
      have := secAt_get h3
      rw [← geti_nat, ← h2] at this
      exact this
    simp only [h, bne_self_eq_false, Bool.false_eq_true, if_false, if_true, e, Option.bind_some]
    by_cases h0 : dist f sec.toNat r = 0
    · simp [h0]
    · have h0' : (dist f sec.toNat r == 0) = false := by simpa using h0
      simp only [h0', Bool.false_eq_true, if_false, h0, e2, Option.bind_some, F_frames_truths, p_truths hn hs]
      generalize dist f sec.toNat r = d at *
      have hd' : 1 ≤ d ∧ d ≤ 6000 := by omega
      have hx : ∀ x ∈ sidesL (secAt f sec.toNat), XOk x := fun x hx => sides_ok hs hx
      have hne := sides_ne hs
      generalize sidesL (secAt f sec.toNat) = l at *
      cases l with
      | nil => exact absurd rfl hne
      | cons a tl =>
        obtain ⟨⟨⟨c1, c2⟩, c3, c4⟩, _⟩ := cos_ok hd' (hx a (List.mem_cons_self ..))
        have s0 : F_frames_Cosine_s1 n d (0, 0, 0, 0) a = some (.inl ((cosF d a).Num, (cosF d a).Den, (cosF d a).Num, (cosF d a).Den)) := by
          simp [F_frames_Cosine_s1, p_cosine n hd' (hx a (List.mem_cons_self ..))]
        obtain ⟨k1, k2⟩ := foldO_foldl (ρ := Unit) (cs := F_frames_Cosine_s1 n d) (fun (z : Int × Int × Int × Int) x => ((if ltF ⟨z.1, z.2.1⟩ (cosF d x) = true then (cosF d x).Num else z.1), (if ltF ⟨z.1, z.2.1⟩ (cosF d x) = true then (cosF d x).Den else z.2.1), (if ltF (cosF d x) ⟨z.2.2.1, z.2.2.2⟩ = true then (cosF d x).Num else z.2.2.1), (if ltF (cosF d x) ⟨z.2.2.1, z.2.2.2⟩ = true then (cosF d x).Den else z.2.2.2))) (fun i z => FracOk ⟨z.1, z.2.1⟩ ∧ FracOk ⟨z.2.2.1, z.2.2.2⟩) tl 0 ((cosF d a).Num, (cosF d a).Den, (cosF d a).Num, (cosF d a).Den) ⟨⟨⟨c1, c2⟩, c3, c4⟩, ⟨⟨c1, c2⟩, c3, c4⟩⟩ (fun i z x _ hxm hz => by
          have hxo := hx x (List.mem_cons_of_mem _ hxm)
          obtain ⟨⟨b1, b2⟩, b3, b4⟩ := (cos_ok hd' hxo).1
          obtain ⟨z1, z2, z3, z4⟩ := z
          obtain ⟨⟨⟨q1, q2⟩, q3, q4⟩, ⟨w1, w2⟩, w3, w4⟩ := hz
          simp only at q1 q2 q3 q4 w1 w2 w3 w4
          refine ⟨?_, ?_⟩
          · have n2 : (z2 == 0) = false := by simp; omega
            have n4 : (z4 == 0) = false := by simp; omega
            have e5 : decide (cmpF (cosF d x) ⟨z3, z4⟩ < 0) = ltF (cosF d x) ⟨z3, z4⟩ := by
              rw [Bool.eq_iff_iff]; simp only [decide_eq_true_eq, cmp_lt]
            have e6 : decide (0 < cmpF (cosF d x) ⟨z1, z2⟩) = ltF ⟨z1, z2⟩ (cosF d x) := by
              rw [Bool.eq_iff_iff]; simp only [decide_eq_true_eq, cmp_gt]
            simp only [F_frames_Cosine_s1, p_cosine n hd' hxo, Option.bind_some, n2, n4, Bool.false_eq_true, if_false, p_compare n ⟨b3, b4, by omega, b2⟩ (show -40000000 ≤ (Frac.mk z3 z4).Num ∧ (Frac.mk z3 z4).Num ≤ 40000000 ∧ 0 ≤ (Frac.mk z3 z4).Den ∧ (Frac.mk z3 z4).Den ≤ 24000000 by simp only; omega), p_compare n ⟨b3, b4, by omega, b2⟩ (show -40000000 ≤ (Frac.mk z1 z2).Num ∧ (Frac.mk z1 z2).Num ≤ 40000000 ∧ 0 ≤ (Frac.mk z1 z2).Den ∧ (Frac.mk z1 z2).Den ≤ 24000000 by simp only; omega), e5, e6]
            cases ltF (cosF d x) ⟨z3, z4⟩ <;> cases ltF ⟨z1, z2⟩ (cosF d x) <;> rfl
          · constructor
            · simp only
              cases ltF ⟨z1, z2⟩ (cosF d x)
              · exact ⟨⟨q1, q2⟩, q3, q4⟩
              · exact ⟨⟨b1, b2⟩, b3, b4⟩
            · simp only
              cases ltF (cosF d x) ⟨z3, z4⟩
              · exact ⟨⟨w1, w2⟩, w3, w4⟩
              · exact ⟨⟨b1, b2⟩, b3, b4⟩)
        have key : ∀ (tl : List frames_sides) (h l : Frac), tl.foldl (fun (z : Int × Int × Int × Int) x => ((if ltF ⟨z.1, z.2.1⟩ (cosF d x) = true then (cosF d x).Num else z.1), (if ltF ⟨z.1, z.2.1⟩ (cosF d x) = true then (cosF d x).Den else z.2.1), (if ltF (cosF d x) ⟨z.2.2.1, z.2.2.2⟩ = true then (cosF d x).Num else z.2.2.1), (if ltF (cosF d x) ⟨z.2.2.1, z.2.2.2⟩ = true then (cosF d x).Den else z.2.2.2))) (h.Num, h.Den, l.Num, l.Den) =
            ((tl.foldl (fun m x => if ltF m (cosF d x) = true then cosF d x else m) h).Num, (tl.foldl (fun m x => if ltF m (cosF d x) = true then cosF d x else m) h).Den, (tl.foldl (fun m x => if ltF (cosF d x) m = true then cosF d x else m) l).Num, (tl.foldl (fun m x => if ltF (cosF d x) m = true then cosF d x else m) l).Den) := by
          intro tl
          induction tl with
          | nil => intro h l; rfl
          | cons b tl ih =>
            intro h l
            simp only [List.foldl_cons]
            rw [← ih]
            congr 1
            cases ltF h (cosF d b) <;> cases ltF (cosF d b) l <;> rfl
        rw [foldO, s0]
        simp only [Option.bind_some]
        rw [k1, key]
        have hlo := low_ok hd' (a :: tl) hx (by simp)
        have e7 : tl.foldl (fun m x => if ltF m (cosF d x) = true then cosF d x else m) (cosF d a) = highF d (a :: tl) := rfl
        have e8 : tl.foldl (fun m x => if ltF (cosF d x) m = true then cosF d x else m) (cosF d a) = lowF d (a :: tl) := rfl
        rw [e7, e8]
        simp only [Option.bind_some, p_reduced hn hlo.1, p_reduced hn hlo.2]
  · simp [h]
end
end Go.Proofs.Yteihdclpiekmaaa
end
section
namespace Go.Proofs.Yteihdclpiekmaaa
open Go Go.RowKit Go.Dec
set_option linter.unusedVariables false
theorem p_within01 (n : Nat) (a b c : Int) : F_ref01_Within n a b c = some (wi a b c) := rfl
section
variable {n : Nat} (hn : 100000000 ≤ n)
include hn
theorem p_Check01 {f : Frame} (hl : f.Sections.length ≤ 1000) : F_ref01_Check n f = some (if okF f = true then 0 else 10) := by
  have h1 := loop_all_l (step := F_ref01_Check_s1 n f) f.Sections okSec (10 : Int) (n := n) (by omega) (fun i x hx hi => by
    simp only [F_ref01_Check_s1, F_ref01_isLong, F_ref01_isShare, geti_nat, hx, Option.bind_some, p_within01, and_br, or_br, lt_nat, hi, decide_true, if_true, w64_nat (show i ≤ 4611686018427387904 by omega)]
    have e : (!(wi x.Arm.Low 1 x.Arm.High && decide (x.Arm.High ≤ 2000) && decide (w64 (x.Arm.High - x.Arm.Low) ≤ 6)) || !(wi x.Stretch.Low 1 x.Stretch.High && decide (x.Stretch.High ≤ 2000) && decide (w64 (x.Stretch.High - x.Stretch.Low) ≤ 6)) || !wi x.Base 0 2000 || !(wi x.Gear.Den 1 20 && wi x.Gear.Num 0 x.Gear.Den)) = !okSec x := by
      simp only [okSec, okSpan, okShare, Bool.not_and, Bool.or_assoc]
    rw [e]
    cases okSec x <;> rfl) (by simp [F_ref01_Check_s1]) (by omega)
  simp only [F_ref01_Check, h1, Option.bind_some]
  cases ha : f.Sections.all okSec with
  | false =>
    have : okF f = false := by simp [okF, ha]
    rw [this]; rfl
  | true =>
    simp only [cond_true, F_ref01_isShare, p_within01, Option.bind_some, and_br, or_br]
    have e : (!wi f.Sections.length 1 3 || !wi f.Low 1 f.High || decide (2000 < f.High) || decide (200 < w64 (f.High - f.Low)) || !(wi f.Ease.Den 1 20 && wi f.Ease.Num 0 f.Ease.Den) || !wi f.Rod 0 4000 || !wi f.Case 0 4000) = !okF f := by
      simp only [okF, okShare, ha, Bool.not_and, Bool.or_assoc, Bool.not_true, Bool.false_or, ← decide_not, Int.not_le]
    rw [e]
    cases okF f <;> rfl
end
end Go.Proofs.Yteihdclpiekmaaa
end
section
namespace Go.Proofs.Yteihdclpiekmaaa
open Go Go.RowKit Go.Dec
set_option linter.unusedVariables false
section
variable {n : Nat} (hn : 100000000 ≤ n)
include hn
theorem p_Copy01 {f : Frame} (hl : f.Sections.length ≤ 1000) : F_ref01_Copy n f = some f := by
  have _hn := hn
  simp only [F_ref01_Copy, List.nil_append]
  rw [lim_ok (by omega)]
  rfl
end
end Go.Proofs.Yteihdclpiekmaaa
end
section
namespace Go.Proofs.Yteihdclpiekmaaa
open Go Go.RowKit Go.Dec
set_option linter.unusedVariables false
/-- x ≥ y, y ≥ z: x ≥ z -/
theorem ltF_trans {x y z : Frac} (hx : 1 ≤ x.Den) (hy : 1 ≤ y.Den) (hz : 1 ≤ z.Den) (h1 : ltF x y = false) (h2 : ltF y z = false) : ltF x z = false := by
  simp only [ltF, decide_eq_false_iff_not, Int.not_lt] at *
  have a := Int.mul_le_mul_of_nonneg_right h1 (show 0 ≤ z.Den by omega)
  have b := Int.mul_le_mul_of_nonneg_right h2 (show 0 ≤ x.Den by omega)
  have e1 : y.Num * x.Den * z.Den = y.Num * z.Den * x.Den := by rw [Int.mul_assoc, Int.mul_comm x.Den, ← Int.mul_assoc]
  have e2 : z.Num * y.Den * x.Den = z.Num * x.Den * y.Den := by rw [Int.mul_assoc, Int.mul_comm y.Den, ← Int.mul_assoc]
  have e3 : x.Num * y.Den * z.Den = x.Num * z.Den * y.Den := by rw [Int.mul_assoc, Int.mul_comm y.Den, ← Int.mul_assoc]
  rw [e1, e3] at a
  rw [e2] at b
  exact Int.le_of_mul_le_mul_right (Int.le_trans b a) (by omega)
theorem ltF_irrefl (x : Frac) : ltF x x = false := by simp [ltF]
theorem ltF_asymm {x y : Frac} (h : ltF x y = true) : ltF y x = false := by
  simp only [ltF, decide_eq_true_eq, decide_eq_false_iff_not] at *; omega
/-- the least and the greatest cosine -/
theorem low_spec {d : Int} (hd : 1 ≤ d ∧ d ≤ 6000) : ∀ (l : List frames_sides), (∀ x ∈ l, XOk x) → l ≠ [] →
    ((∃ x ∈ l, lowF d l = cosF d x) ∧ ∀ x ∈ l, ltF (cosF d x) (lowF d l) = false) ∧ ((∃ x ∈ l, highF d l = cosF d x) ∧ ∀ x ∈ l, ltF (highF d l) (cosF d x) = false)
  | [], _, h => absurd rfl h
  | a :: l, hx, _ => by
    have key : ∀ (l : List frames_sides) (m m' : frames_sides), (∀ x ∈ l, XOk x) → XOk m → XOk m' →
        ((∃ x ∈ m :: l, l.foldl (fun m x => if ltF (cosF d x) m = true then cosF d x else m) (cosF d m) = cosF d x) ∧ ∀ x ∈ m :: l, ltF (cosF d x) (l.foldl (fun m x => if ltF (cosF d x) m = true then cosF d x else m) (cosF d m)) = false) ∧
        ((∃ x ∈ m' :: l, l.foldl (fun m x => if ltF m (cosF d x) = true then cosF d x else m) (cosF d m') = cosF d x) ∧ ∀ x ∈ m' :: l, ltF (l.foldl (fun m x => if ltF m (cosF d x) = true then cosF d x else m) (cosF d m')) (cosF d x) = false) := by
      intro l
      induction l with
      | nil =>
        intro m m' _ _ _
        refine ⟨⟨⟨m, by simp, rfl⟩, fun x h => ?_⟩, ⟨⟨m', by simp, rfl⟩, fun x h => ?_⟩⟩
        · simp at h; subst h; exact ltF_irrefl _
        · simp at h; subst h; exact ltF_irrefl _
      | cons b l ih =>
        intro m m' hx hm hm'
        have hb := hx b (List.mem_cons_self ..)
        simp only [List.foldl_cons]
        have e1 : (if ltF (cosF d b) (cosF d m) = true then cosF d b else cosF d m) = cosF d (if ltF (cosF d b) (cosF d m) = true then b else m) := by split <;> rfl
        have e2 : (if ltF (cosF d m') (cosF d b) = true then cosF d b else cosF d m') = cosF d (if ltF (cosF d m') (cosF d b) = true then b else m') := by split <;> rfl
        rw [e1, e2]
        obtain ⟨⟨⟨x1, hx1, q1⟩, q2⟩, ⟨x2, hx2, q3⟩, q4⟩ := ih (if ltF (cosF d b) (cosF d m) = true then b else m) (if ltF (cosF d m') (cosF d b) = true then b else m') (fun x h => hx x (List.mem_cons_of_mem _ h)) (by split <;> assumption) (by split <;> assumption)
        have hall : ∀ x ∈ b :: l, XOk x := hx
        refine ⟨⟨⟨x1, ?_, q1⟩, fun x h => ?_⟩, ⟨⟨x2, ?_, q3⟩, fun x h => ?_⟩⟩
        · rcases List.mem_cons.1 hx1 with h | h
          · rw [h]; split <;> simp
          · simp [h]
        · have h0 := q2 _ (List.mem_cons_self ..)
          have hx1' : XOk x1 := by
            rcases List.mem_cons.1 hx1 with h | h
            · rw [h]; split <;> assumption
            · exact hx x1 (List.mem_cons_of_mem _ h)
          by_cases hl : x ∈ l
          · exact q2 x (List.mem_cons_of_mem _ hl)
          · have hxo : XOk x := by
              rcases List.mem_cons.1 h with rfl | h
              · exact hm
              · exact hx x h
            have hmid : XOk (if ltF (cosF d b) (cosF d m) = true then b else m) := by split <;> assumption
            have hstep : ltF (cosF d x) (cosF d (if ltF (cosF d b) (cosF d m) = true then b else m)) = false := by
              rcases List.mem_cons.1 h with rfl | h
              · split
                · rename_i hc; exact ltF_asymm hc
                · exact ltF_irrefl _
              · rcases List.mem_cons.1 h with rfl | h
                · split
                  · exact ltF_irrefl _
                  · rename_i hc; simpa using hc
                · exact absurd h hl
            rw [q1] at h0 ⊢
            exact ltF_trans (cos_ok hd hxo).1.1.1 (cos_ok hd hmid).1.1.1 (cos_ok hd hx1').1.1.1 hstep h0
        · rcases List.mem_cons.1 hx2 with h | h
          · rw [h]; split <;> simp
          · simp [h]
        · have h0 := q4 _ (List.mem_cons_self ..)
          have hx2' : XOk x2 := by
            rcases List.mem_cons.1 hx2 with h | h
            · rw [h]; split <;> assumption
            · exact hx x2 (List.mem_cons_of_mem _ h)
          by_cases hl : x ∈ l
          · exact q4 x (List.mem_cons_of_mem _ hl)
          · have hxo : XOk x := by
              rcases List.mem_cons.1 h with rfl | h
              · exact hm'
              · exact hx x h
            have hmid : XOk (if ltF (cosF d m') (cosF d b) = true then b else m') := by split <;> assumption
            have hstep : ltF (cosF d (if ltF (cosF d m') (cosF d b) = true then b else m')) (cosF d x) = false := by
              rcases List.mem_cons.1 h with rfl | h
              · split
                · rename_i hc; exact ltF_asymm hc
                · exact ltF_irrefl _
              · rcases List.mem_cons.1 h with rfl | h
                · split
                  · exact ltF_irrefl _
                  · rename_i hc; simpa using hc
                · exact absurd h hl
            rw [q3] at h0 ⊢
            exact ltF_trans (cos_ok hd hx2').1.1.1 (cos_ok hd hmid).1.1.1 (cos_ok hd hxo).1.1.1 h0 hstep
    exact key l a a (fun x h => hx x (List.mem_cons_of_mem _ h)) (hx a (List.mem_cons_self ..)) (hx a (List.mem_cons_self ..))
theorem ask_zero {f : Frame} (ho : okF f = true) {sec r : Int} (h : (wi sec 0 ((f.Sections.length : Int) - 1) && wi r f.Low f.High) = true) : askT f sec r = 0 := by
  unfold askT; rw [if_pos ho, if_pos h]
end Go.Proofs.Yteihdclpiekmaaa
end
section
namespace Go.Proofs.Yteihdclpiekmaaa
open Go Go.RowKit Go.Dec
set_option linter.unusedVariables false
theorem u16_wrap {x : Nat} (h2 : x < 65536) : IntKind.wrap .u16 (x : Int) = x := by
  simp [IntKind.wrap, IntKind.bits, IntKind.signed]; omega
theorem bshr_nat {m i : Nat} (hi : i < 16) : bshr .u16 (m : Int) (i : Int) = ((m / 2 ^ i : Nat) : Int) := by
  unfold bshr
  have h : min (i : Int).toNat (IntKind.bits .u16) = i := by simp [IntKind.bits]; omega
  rw [h, Int.fdiv_eq_ediv_of_nonneg _ (Int.pow_nonneg (by decide))]
  simp
theorem band_nat {a b : Nat} (ha : a < 65536) (hb : b < 65536) : band .u16 (a : Int) (b : Int) = ((a &&& b : Nat) : Int) := by
  unfold band
  have hh : (BitVec.ofInt (IntKind.bits .u16) (a : Int) &&& BitVec.ofInt (IntKind.bits .u16) (b : Int)).toNat = a &&& b := by
    rw [BitVec.toNat_and]
    simp [IntKind.bits, BitVec.ofInt_natCast]
    rw [Nat.mod_eq_of_lt ha, Nat.mod_eq_of_lt hb]
  rw [hh]
  exact u16_wrap (Nat.lt_of_le_of_lt Nat.and_le_left ha)
theorem bor_nat {a b : Nat} (ha : a < 65536) (hb : b < 65536) : bor .u16 (a : Int) (b : Int) = ((a ||| b : Nat) : Int) := by
  unfold bor
  have hh : (BitVec.ofInt (IntKind.bits .u16) (a : Int) ||| BitVec.ofInt (IntKind.bits .u16) (b : Int)).toNat = a ||| b := by
    rw [BitVec.toNat_or]
    simp [IntKind.bits, BitVec.ofInt_natCast]
    rw [Nat.mod_eq_of_lt ha, Nat.mod_eq_of_lt hb]
  rw [hh]
  exact u16_wrap (Nat.or_lt_two_pow (n := 16) ha hb)
theorem bshl_one {i : Nat} (hi : i < 16) : bshl .u16 1 (i : Int) = ((2 ^ i : Nat) : Int) := by
  unfold bshl
  have h : min (i : Int).toNat (IntKind.bits .u16) = i := by simp [IntKind.bits]; omega
  rw [h, Int.one_mul]
  have : (2 : Int) ^ i = ((2 ^ i : Nat) : Int) := by simp
  rw [this]
  exact u16_wrap (Nat.lt_of_lt_of_le (Nat.pow_lt_pow_right (by decide) hi) (by decide))
theorem bit_at {m i : Nat} (hm : m < 65536) (hi : i < 16) : band .u16 (bshr .u16 (m : Int) (i : Int)) 1 = if m.testBit i = true then 1 else 0 := by
  have hd : m / 2 ^ i < 65536 := Nat.lt_of_le_of_lt (Nat.div_le_self _ _) hm
  rw [bshr_nat hi]
  have := band_nat (a := m / 2 ^ i) (b := 1) hd (by decide)
  rw [show ((1 : Nat) : Int) = 1 from rfl] at this
  rw [this, Nat.and_one_is_mod, Nat.testBit_eq_decide_div_mod_eq]
  rcases Nat.mod_two_eq_zero_or_one (m / 2 ^ i) with h | h <;> simp [h]
theorem bit_eq0 {m i : Nat} (hm : m < 65536) (hi : i < 16) : (band .u16 (bshr .u16 (m : Int) (i : Int)) 1 == 0) = !m.testBit i := by
  rw [bit_at hm hi]; cases m.testBit i <;> rfl
theorem bit_eq1 {m i : Nat} (hm : m < 65536) (hi : i < 16) : (band .u16 (bshr .u16 (m : Int) (i : Int)) 1 == 1) = m.testBit i := by
  rw [bit_at hm hi]; cases m.testBit i <;> rfl
def enc (n : Nat) (p : Nat → Bool) : Nat := (List.range n).foldl (fun a i => if p i = true then a ||| 2 ^ i else a) 0
theorem enc_fold (p : Nat → Bool) : ∀ (l : List Nat) (a j : Nat), (l.foldl (fun a i => if p i = true then a ||| 2 ^ i else a) a).testBit j = (a.testBit j || (l.contains j && p j))
  | [], a, j => by simp
  | i :: l, a, j => by
    rw [List.foldl_cons, enc_fold p l]
    by_cases hp : p i = true
    · rw [if_pos hp, Nat.testBit_or, Nat.testBit_two_pow]
      by_cases hij : i = j
      · subst hij; simp [hp]
      · have : (j == i) = false := by simp; exact fun e => hij e.symm
        have h3 : ¬ j = i := fun e => hij e.symm
        simp [hij, h3, List.contains_cons, this]
    · rw [if_neg hp]
      by_cases hij : i = j
      · subst hij; simp [hp]
      · have : (j == i) = false := by simp; exact fun e => hij e.symm
        have h3 : ¬ j = i := fun e => hij e.symm
        simp [h3, List.contains_cons, this]
theorem enc_bit (n : Nat) (p : Nat → Bool) (j : Nat) : (enc n p).testBit j = (decide (j < n) && p j) := by
  unfold enc
  rw [enc_fold]
  simp [List.contains_eq_mem]
theorem enc_lt {n : Nat} (p : Nat → Bool) : enc n p < 2 ^ n := by
  refine Nat.lt_pow_two_of_testBit _ fun i hi => ?_
  rw [enc_bit]; simp; omega
theorem enc_16 {n : Nat} (hn : n ≤ 10) (p : Nat → Bool) : enc n p < 65536 := Nat.lt_of_lt_of_le (enc_lt p) (Nat.le_trans (Nat.pow_le_pow_right (by decide) hn) (by decide))
theorem enc_eq {n m : Nat} {p : Nat → Bool} (h : ∀ j, m.testBit j = (decide (j < n) && p j)) : m = enc n p := Nat.eq_of_testBit_eq fun j => by rw [h, enc_bit]
theorem enc_inj {n : Nat} {p q : Nat → Bool} : enc n p = enc n q ↔ ∀ i, i < n → p i = q i := by
  constructor
  · intro h i hi
    have := congrArg (fun m => m.testBit i) h
    simpa [enc_bit, hi] using this
  · intro h
    exact enc_eq fun j => by
      rw [enc_bit]
      by_cases hj : j < n
      · simp [hj, h j hj]
      · simp [hj]
theorem enc_zero {n : Nat} {p : Nat → Bool} : enc n p = 0 ↔ ∀ i, i < n → p i = false := by
  have h0 : (0 : Nat) = enc n fun _ => false := enc_eq fun j => by simp
  rw [h0, enc_inj]
def path (n rib st : Nat) : List Nat := (List.range' 1 (n - 1)).map fun k => (rib + k * st) % n
def sideS (L : Nat → Int) (p : Nat → Bool) (l : List Nat) : Int := ((l.takeWhile p).map L).foldl (· + ·) 0
def bearsS (L : Nat → Int) (p : Nat → Bool) (n i : Nat) : Int := L i + (sideS L p (path n i 1)).tdiv 2 + (sideS L p (path n i (n - 1))).tdiv 2
def stepS (L S : Nat → Int) (n : Nat) (p : Nat → Bool) : Nat → Bool := fun i => p i || (decide (i < n) && decide (S i < bearsS L p n i))
def G (L S : Nat → Int) (n : Nat) : Nat → Nat → Bool
  | 0 => fun _ => false
  | k + 1 => stepS L S n (G L S n k)
theorem sum_acc (L : Nat → Int) : ∀ (l : List Nat) (a : Int), (l.map L).foldl (· + ·) a = a + (l.map L).foldl (· + ·) 0
  | [], a => by simp
  | x :: l, a => by
    simp only [List.map_cons, List.foldl_cons]
    rw [sum_acc L l (a + L x), sum_acc L l (0 + L x)]; omega
theorem sideS_cons {L : Nat → Int} {p : Nat → Bool} {a : Nat} {l : List Nat} : sideS L p (a :: l) = if p a = true then L a + sideS L p l else 0 := by
  unfold sideS
  by_cases h : p a = true
  · rw [if_pos h, List.takeWhile_cons_of_pos h, List.map_cons, List.foldl_cons, sum_acc]; omega
  · rw [if_neg h, List.takeWhile_cons_of_neg h]; rfl
theorem sideS_nil {L : Nat → Int} {p : Nat → Bool} : sideS L p [] = 0 := rfl
theorem sideS_in {L : Nat → Int} {M : Int} (p : Nat → Bool) : ∀ (l : List Nat), (∀ i ∈ l, 0 ≤ L i ∧ L i ≤ M) → 0 ≤ sideS L p l ∧ sideS L p l ≤ M * l.length
  | [], _ => by simp [sideS_nil]
  | a :: l, h => by
    obtain ⟨h1, h2⟩ := sideS_in p l fun i hi => h i (List.mem_cons_of_mem _ hi)
    obtain ⟨h3, h4⟩ := h a (List.mem_cons_self ..)
    have hM : M * ((a :: l).length : Nat) = M * l.length + M := by
      rw [List.length_cons]; push_cast; rw [Int.mul_add, Int.mul_one]
    have hm : 0 ≤ M * (l.length : Int) := Int.mul_nonneg (by omega) (by omega)
    rw [sideS_cons, hM]
    split <;> omega
theorem path_lt {n rib st : Nat} (hn : 0 < n) {i : Nat} (h : i ∈ path n rib st) : i < n := by
  obtain ⟨k, _, rfl⟩ := List.mem_map.1 h
  exact Nat.mod_lt _ hn
theorem path_len (n rib st : Nat) : (path n rib st).length = n - 1 := by simp [path]
/-- loads are known to be small -/
def LOk (L : Nat → Int) (n : Nat) : Prop := ∀ i, i < n → 0 ≤ L i ∧ L i ≤ 20000
theorem side_in {L : Nat → Int} {n : Nat} (hL : LOk L n) (hn : 0 < n) (hn2 : n ≤ 10) (p : Nat → Bool) (i st : Nat) : 0 ≤ sideS L p (path n i st) ∧ sideS L p (path n i st) ≤ 200000 := by
  obtain ⟨h1, h2⟩ := sideS_in (L := L) (M := 20000) p (path n i st) fun j hj => hL j (path_lt hn hj)
  rw [path_len] at h2
  omega
theorem side_mono {L L' : Nat → Int} {p p' : Nat → Bool} : ∀ (l : List Nat), (∀ i ∈ l, 0 ≤ L i ∧ L i ≤ L' i) → (∀ i ∈ l, p i = true → p' i = true) → sideS L p l ≤ sideS L' p' l
  | [], _, _ => by simp [sideS_nil]
  | a :: l, h, hp => by
    have ih := side_mono l (fun i hi => h i (List.mem_cons_of_mem _ hi)) fun i hi => hp i (List.mem_cons_of_mem _ hi)
    have h0 := (sideS_in (L := L) (M := l.foldl (fun m i => max m (L i)) 0) p [] (by simp)).1
    obtain ⟨h3, h4⟩ := h a (List.mem_cons_self ..)
    rw [sideS_cons, sideS_cons]
    by_cases hpa : p a = true
    · rw [if_pos hpa, if_pos (hp a (List.mem_cons_self ..) hpa)]; omega
    · rw [if_neg hpa]
      split
      · have : ∀ (l : List Nat), (∀ i ∈ l, 0 ≤ L' i) → 0 ≤ sideS L' p' l := by
          intro l
          induction l with
          | nil => intro _; simp [sideS_nil]
          | cons b l ih => intro h; rw [sideS_cons]; have := ih fun i hi => h i (List.mem_cons_of_mem _ hi); have := h b (List.mem_cons_self ..); split <;> omega
        have := this l fun i hi => by have := h i (List.mem_cons_of_mem _ hi); omega
        omega
      · omega
theorem tdiv2_mono {a b : Int} (h0 : 0 ≤ a) (h : a ≤ b) : a.tdiv 2 ≤ b.tdiv 2 := by
  rw [Int.tdiv_eq_ediv_of_nonneg h0, Int.tdiv_eq_ediv_of_nonneg (by omega)]; omega
theorem tdiv2_in {a : Int} (h0 : 0 ≤ a) (h : a ≤ 200000) : 0 ≤ a.tdiv 2 ∧ a.tdiv 2 ≤ 100000 := by
  rw [Int.tdiv_eq_ediv_of_nonneg h0]; omega
theorem bears_mono {L L' : Nat → Int} {n : Nat} (hn : 0 < n) (hL : ∀ i, i < n → 0 ≤ L i ∧ L i ≤ L' i) {p p' : Nat → Bool} (hp : ∀ i, i < n → p i = true → p' i = true) {i : Nat} (hi : i < n) : bearsS L p n i ≤ bearsS L' p' n i := by
  have key : ∀ st, 0 ≤ sideS L p (path n i st) ∧ sideS L p (path n i st) ≤ sideS L' p' (path n i st) := fun st => by
    refine ⟨?_, side_mono _ (fun j hj => hL j (path_lt hn hj)) fun j hj => hp j (path_lt hn hj)⟩
    have := side_mono (L := fun _ => 0) (L' := L) (p := fun _ => false) (p' := p) (path n i st) (fun j hj => ⟨Int.le_refl _, (hL j (path_lt hn hj)).1⟩) fun _ _ h => by simp at h
    have h0 : sideS (fun _ => 0) (fun _ => false) (path n i st) = 0 := by
      cases path n i st with
      | nil => rfl
      | cons a l => rw [sideS_cons]; rfl
    omega
  have h1 := tdiv2_mono (key 1).1 (key 1).2
  have h2 := tdiv2_mono (key (n - 1)).1 (key (n - 1)).2
  have := (hL i hi).2
  unfold bearsS
  omega
theorem step_mono {L L' S S' : Nat → Int} {n : Nat} (hn : 0 < n) (hL : ∀ i, i < n → 0 ≤ L i ∧ L i ≤ L' i) (hS : ∀ i, i < n → S' i ≤ S i) {p p' : Nat → Bool} (hp : ∀ i, i < n → p i = true → p' i = true) {i : Nat} (hi : i < n) (h : stepS L S n p i = true) : stepS L' S' n p' i = true := by
  unfold stepS at h ⊢
  simp only [Bool.or_eq_true, Bool.and_eq_true, decide_eq_true_eq] at h ⊢
  rcases h with h | ⟨_, h⟩
  · exact .inl (hp i hi h)
  · have := bears_mono hn hL hp hi
    have := hS i hi
    exact .inr ⟨hi, by omega⟩
theorem G_mono {L L' S S' : Nat → Int} {n : Nat} (hn : 0 < n) (hL : ∀ i, i < n → 0 ≤ L i ∧ L i ≤ L' i) (hS : ∀ i, i < n → S' i ≤ S i) : ∀ (k i : Nat), i < n → G L S n k i = true → G L' S' n k i = true
  | 0, i, hi, h => by simp [G] at h
  | k + 1, i, hi, h => step_mono hn hL hS (fun j hj => G_mono hn hL hS k j hj) hi h
theorem G_up {L S : Nat → Int} {n : Nat} (k i : Nat) (h : G L S n k i = true) : G L S n (k + 1) i = true := by
  show stepS L S n (G L S n k) i = true
  simp [stepS, h]
/-- the first round alone -/
theorem side_none {L : Nat → Int} {l : List Nat} : sideS L (fun _ => false) l = 0 := by
  cases l with
  | nil => rfl
  | cons a l => rw [sideS_cons]; rfl
theorem G_one {L S : Nat → Int} {n i : Nat} : G L S n 1 i = (decide (i < n) && decide (S i < L i)) := by
  show stepS L S n (fun _ => false) i = _
  have : bearsS L (fun _ => false) n i = L i := by
    unfold bearsS; rw [side_none, side_none]; simp
  simp [stepS, this]
/-- rounds without a change -/
def fixd (L S : Nat → Int) (n k : Nat) : Prop := ∀ i, i < n → G L S n (k + 1) i = G L S n k i
/-- how many stand -/
def left (L S : Nat → Int) (n k : Nat) : Nat := (List.range n).countP fun i => !G L S n k i
theorem left_le (L S : Nat → Int) (n k : Nat) : left L S n k ≤ n := by
  unfold left; exact Nat.le_trans List.countP_le_length (by simp)
theorem countP_lt {α : Type} {p q : α → Bool} : ∀ (l : List α), (∀ x ∈ l, q x = true → p x = true) → (∃ x ∈ l, p x = true ∧ q x = false) → l.countP q < l.countP p
  | [], _, h => by simp at h
  | a :: l, h, ⟨x, hx, h1, h2⟩ => by
    have hm := List.countP_mono_left (l := l) (p := q) (q := p) fun y hy => h y (List.mem_cons_of_mem _ hy)
    rw [List.countP_cons, List.countP_cons]
    rcases List.mem_cons.1 hx with rfl | hx
    · simp [h1, h2]; omega
    · have := countP_lt l (fun y hy => h y (List.mem_cons_of_mem _ hy)) ⟨x, hx, h1, h2⟩
      have ha := h a (List.mem_cons_self ..)
      cases hq : q a
      · simp; split <;> omega
      · simp [ha hq]; omega
theorem left_lt {L S : Nat → Int} {n k : Nat} (h : ¬ fixd L S n k) : left L S n (k + 1) < left L S n k := by
  unfold fixd at h
  have : ∃ i, i < n ∧ G L S n (k + 1) i ≠ G L S n k i := by
    refine Classical.byContradiction fun hc => h fun i hi => ?_
    exact Classical.byContradiction fun hne => hc ⟨i, hi, hne⟩
  obtain ⟨i, hi, hne⟩ := this
  refine countP_lt _ (fun j _ hj => ?_) ⟨i, List.mem_range.2 hi, ?_, ?_⟩
  · cases hg : G L S n k j
    · rfl
    · rw [G_up _ _ hg] at hj; simp at hj
  · cases hg : G L S n k i
    · rfl
    · exact absurd ((G_up _ _ hg).trans hg.symm) hne
  · cases hg : G L S n k i
    · cases hg2 : G L S n (k + 1) i
      · exact absurd (hg2.trans hg.symm) hne
      · rfl
    · exact absurd ((G_up _ _ hg).trans hg.symm) hne
end Go.Proofs.Yteihdclpiekmaaa
end
