/-
  A part of the proof of TrTrue: the texts TrGenK11, TrGenK12.
-/
import Derived.Test.YtcipdblhopffbaaGreatJTrTrue7
section
namespace Go.Proofs.YtcipdblhopffbaaGreat
open Go Go.RowKit Go.Dec
set_option linter.unusedVariables false
-- 11 ferrule/counts.Harm
/-- what the function that remembers answers -/
noncomputable def F_asked (n : Nat) (d : Canopy) (surely : Bool) (b : Blow) (force : Int) : Option Bool :=
 (kok 2 [force, b.At]).bind fun _ => (F_gusts_Stands n d [Gust.mk force b.At]).bind fun y => some ((y.1 == 2) || (!surely && (y.1 == 3)))
/-- what is remembered -/
def Cached (n : Nat) (d : Canopy) (m : Mp) : Prop := Srt m ∧ ∀ p ∈ m, ∃ f a e, p.1 = [f, a] ∧ F_gusts_Stands n d [Gust.mk f a] = some (p.2, e)
theorem cached_nil {n : Nat} {d : Canopy} : Cached n d [] := ⟨List.Pairwise.nil, by simp⟩
theorem asked_ok {n : Nat} {d : Canopy} {surely : Bool} {b : Blow} {force : Int} {y : Bool} (h : F_asked n d surely b force = some y) {m0 : Mp} (hJ : Cached n d m0) : ∃ m1, Cached n d m1 ∧ F_counts_fells_1 n b force m0 d surely = some (y, m1) := by
 unfold F_asked at h
 obtain ⟨u, hu, h⟩ := bind_some h
 obtain ⟨z, hz, h⟩ := bind_some h
 cases Option.some.inj h
 obtain ⟨hs, hm⟩ := hJ
 have tail : ∀ m : Mp, mget m [force, b.At] = z.1 → ((kok 2 [force, b.At]).bind fun _ => (if ((mget m [force, b.At]) == 2) = true then (some true) else ((if (!surely) = true then ((kok 2 [force, b.At]).bind fun _ => some ((mget m [force, b.At]) == 3)) else (some false) : Option Bool).bind fun p79 => some p79) : Option Bool).bind fun p75 => some (p75, m)) = some ((z.1 == 2) || (!surely && (z.1 == 3)), m) := fun m e => by
  rw [hu, e]
  cases surely <;> cases h2 : (z.1 == 2) <;> simp
 unfold F_counts_fells_1
 rw [hu]
 simp only [Option.bind_some]
 by_cases h0 : (mget m0 [force, b.At] == 0) = true
 ·refine ⟨mput m0 [force, b.At] z.1, ⟨srt_mput hs, fun p hp => ?_⟩, ?_⟩
  ·rcases (mem_mput hs).1 hp with rfl | ⟨hp, _⟩
   ·exact ⟨force, b.At, z.2, rfl, hz⟩
   ·exact hm p hp
  ·rw [if_pos h0, hz]
   simp only [Option.bind_some]
   have := tail (mput m0 [force, b.At] z.1) (mget_mput hs)
   rw [hu] at this
   simpa only [Option.bind_some] using this
 ·have hne : mget m0 [force, b.At] ≠ 0 := by simpa using h0
  have hv : mget m0 [force, b.At] = z.1 := by
   unfold mget at hne ⊢
   cases hf : m0.find? (fun p => p.1 == [force, b.At]) with
   | none => rw [hf] at hne; exact absurd rfl hne
   | some p =>
    obtain ⟨f, a, e, h1, h2⟩ := hm p (List.mem_of_find?_eq_some hf)
    have h3 := List.find?_some hf
    simp only [beq_iff_eq] at h3
    rw [h1] at h3
    simp only [List.cons.injEq, and_true] at h3
    obtain ⟨rfl, rfl⟩ := h3
    rw [hz] at h2
    simp only [Option.some.injEq] at h2
    rw [h2]
  refine ⟨m0, ⟨hs, hm⟩, ?_⟩
  rw [if_neg h0]
  simp only [Option.bind_some]
  have := tail m0 hv
  rw [hu] at this
  simpa only [Option.bind_some] using this
theorem c_harm_bounds (n : Nat) (H : Hp) (r : Run) (r_v0 : Value) (hr_0 : SL H 7 R_Section r_v0 r.Canopy.Frame.Sections) (r_v7 : Value) (hr_7 : SL H 2 R_Span r_v7 r.Canopy.Ribs) (r_v8 : Value) (hr_8 : SL H 1 RInt r_v8 r.Canopy.Shares) (r_v9 : Value) (hr_9 : SL H 3 R_Blow r_v9 r.Blows) (r_v10 : Value) (hr_10 : SL H 2 R_Meter r_v10 r.Meters) (surely : Bool) (bm b1 b2 b3 : Nat) (hc1 : Cells H b1 0 [.map (some bm)]) (hc2 : Cells H b2 0 [r_v0, .int .i64 r.Canopy.Frame.Low, .int .i64 r.Canopy.Frame.High, .int .i64 r.Canopy.Frame.Ease.Num, .int .i64 r.Canopy.Frame.Ease.Den, .int .i64 r.Canopy.Frame.Rod, .int .i64 r.Canopy.Frame.Case, r_v7, r_v8]) (hc3 : Cells H b3 0 [.bool surely]) (y : Span × Int) (hF : F_counts_bounds n r true (F_asked n r.Canopy surely) = some y) :
  SC Tryz.prog 41 [.agg [r_v0, .int .i64 r.Canopy.Frame.Low, .int .i64 r.Canopy.Frame.High, .int .i64 r.Canopy.Frame.Ease.Num, .int .i64 r.Canopy.Frame.Ease.Den, .int .i64 r.Canopy.Frame.Rod, .int .i64 r.Canopy.Frame.Case, r_v7, r_v8, r_v9, r_v10, .int .i64 r.Wrong].toArray, .bool true, .func (.func 74) #[] [.pointer (some ⟨b1, 0, none⟩), .pointer (some ⟨b2, 0, none⟩), .pointer (some ⟨b3, 0, none⟩)].toArray] (.tuple [.agg [.int .i64 y.1.Low, .int .i64 y.1.High].toArray, .int .i64 y.2].toArray) (hol H bm (fun o => ∃ es ck m, o = .map es ck ∧ MR 2 ekA m es ck ∧ Cached n r.Canopy m)) :=
 c_counts_bounds n (hol H bm (fun o => ∃ es ck m, o = .map es ck ∧ MR 2 ekA m es ck ∧ Cached n r.Canopy m)) r r_v0 (SL.fsub R_Section_fz (fun _ _ h => h) hr_0) r_v7 (SL.fsub R_Span_fz (fun _ _ h => h) hr_7) r_v8 (SL.fsub RInt.fz (fun _ _ h => h) hr_8) r_v9 (SL.fsub R_Blow_fz (fun _ _ h => h) hr_9) r_v10 (SL.fsub R_Meter_fz (fun _ _ h => h) hr_10) true (F_asked n r.Canopy surely) 74 [.pointer (some ⟨b1, 0, none⟩), .pointer (some ⟨b2, 0, none⟩), .pointer (some ⟨b3, 0, none⟩)] en_74
  (fun H' hs' a0 a1 y' hy' => c_counts_fells_1 n H' a0 a1 b1 bm (Cells.mono hs' (Cells.hol hc1)) r.Canopy r_v0 (SL.mono R_Section_mono hs' (SL.fsub R_Section_fz (fun _ _ h => h) hr_0)) r_v7 (SL.mono R_Span_mono hs' (SL.fsub R_Span_fz (fun _ _ h => h) hr_7)) r_v8 (SL.mono RInt.mono hs' (SL.fsub RInt.fz (fun _ _ h => h) hr_8)) b2 (Cells.mono hs' (Cells.hol hc2)) surely b3 (Cells.mono hs' (Cells.hol hc3)) (Cached n r.Canopy) hs'.hole y' (fun m0 hJ => asked_ok hy' hJ)) y hF
noncomputable def F_counts_Harm (n : Nat) (r : Run) : Option (Span × Int) :=
 (F_counts_bounds n r true (F_asked n r.Canopy true)).bind fun y11 => if (y11.2 != 0) = true then (some ((Span.mk 0 0), y11.2)) else ((F_counts_bounds n r true (F_asked n r.Canopy false)).bind fun y42 => some ((Span.mk y11.1.Low y42.1.High), 0))
set_option maxRecDepth 100000 in
set_option maxHeartbeats 40000000 in
theorem c_counts_Harm (n : Nat) (H : Hp) (r : Run) (r_v0 : Value) (hr_0 : SL H 7 R_Section r_v0 r.Canopy.Frame.Sections) (r_v7 : Value) (hr_7 : SL H 2 R_Span r_v7 r.Canopy.Ribs) (r_v8 : Value) (hr_8 : SL H 1 RInt r_v8 r.Canopy.Shares) (r_v9 : Value) (hr_9 : SL H 3 R_Blow r_v9 r.Blows) (r_v10 : Value) (hr_10 : SL H 2 R_Meter r_v10 r.Meters) (y : Span × Int) (hF : F_counts_Harm n r = some y) : SC Tryz.prog 11 [.agg [r_v0, .int .i64 r.Canopy.Frame.Low, .int .i64 r.Canopy.Frame.High, .int .i64 r.Canopy.Frame.Ease.Num, .int .i64 r.Canopy.Frame.Ease.Den, .int .i64 r.Canopy.Frame.Rod, .int .i64 r.Canopy.Frame.Case, r_v7, r_v8, r_v9, r_v10, .int .i64 r.Wrong].toArray] (.tuple [.agg [.int .i64 y.1.Low, .int .i64 y.1.High].toArray, .int .i64 y.2].toArray) H := by
 rw [F_counts_Harm] at hF
 refine SC.of (N := 33) Tryz.func11 rfl rfl rfl fun w => ?_
 refine JC.seq ?_
 refine JC.region (by rfl) ?_
 intro hQ
 refine JL.box (cs := [r_v0, .int .i64 r.Canopy.Frame.Low, .int .i64 r.Canopy.Frame.High, .int .i64 r.Canopy.Frame.Ease.Num, .int .i64 r.Canopy.Frame.Ease.Den, .int .i64 r.Canopy.Frame.Rod, .int .i64 r.Canopy.Frame.Case, r_v7, r_v8, r_v9, r_v10, .int .i64 r.Wrong]) rfl .none rfl ?_
 intro b1
 refine JL.alloc ze_42 .none rfl ?_
 intro b2
 refine JL.assign .none rfl ?_
 refine JL.done hQ ?_
 refine JQ.go ?_
 refine JC.seq ?_
 obtain ⟨y11, hy11, hF⟩ := bind_some hF
 refine JC.mixed 11 11 #[false, false, false, false, false, false, false, false, false, false, false] [(b2, .cells [.int .i64 0, .int .i64 0].toArray 42), (b1, .cells [r_v0, .int .i64 r.Canopy.Frame.Low, .int .i64 r.Canopy.Frame.High, .int .i64 r.Canopy.Frame.Ease.Num, .int .i64 r.Canopy.Frame.Ease.Den, .int .i64 r.Canopy.Frame.Rod, .int .i64 r.Canopy.Frame.Case, r_v7, r_v8, r_v9, r_v10, .int .i64 r.Wrong].toArray 34)] (by rfl) mo_ (by kernel_rfl) (by kernel_rfl) ?_
 intro hQ hE
 refine JA.cut 2 #[true, true, true, true, true, true, true, true, true, false, false] (fun H32 f bs gs => ∃ (b31 : Nat), f 1 = .pointer (some ⟨b1, 0, none⟩) ∧ f 2 = .pointer (some ⟨b2, 0, none⟩) ∧ f 4 = .pointer (some ⟨b31, 0, none⟩) ∧ f 14 = .agg [.int .i64 y11.1.Low, .int .i64 y11.1.High].toArray ∧ f 15 = .int .i64 y11.2 ∧ bs = [(b31, .cells [.int .i64 0, .int .i64 0].toArray 42), (b2, .cells [.int .i64 0, .int .i64 0].toArray 42), (b1, .cells [r_v0, .int .i64 r.Canopy.Frame.Low, .int .i64 r.Canopy.Frame.High, .int .i64 r.Canopy.Frame.Ease.Num, .int .i64 r.Canopy.Frame.Ease.Den, .int .i64 r.Canopy.Frame.Rod, .int .i64 r.Canopy.Frame.Case, r_v7, r_v8, r_v9, r_v10, .int .i64 r.Wrong].toArray 34)] ∧ gs = [] ∧ HSub H H32) ?_ ?_
 ·rintro H32 f bs gs ⟨b31, hf1, hf2, hf4, hf14, hf15, rfl, rfl, hs32⟩
  refine (JA.norm (i := 1) hf1 (JA.norm (i := 2) hf2 (JA.norm (i := 4) hf4 (JA.norm (i := 14) hf14 (JA.norm (i := 15) hf15 ?_)))))
  refine JA.many [9] (by kernel_rfl) (by simp) (all_one ⟨_, #[true, true, true, true, true, true, true, true, true, true, false], rfl, (by kernel_rfl), ?_⟩)
  refine JL.storeOwn 0 (cs := [.int .i64 y11.1.Low, .int .i64 y11.1.High]) az_42 rfl rfl rfl (one_cons rfl (one_cons rfl one_nil)) rfl rfl .none ?_
  refine JA.after hE hs32 (.cons _ (.cons_cons _ (.cons_cons _ (List.nil_sublist _)))) ?_
  refine JA.take 10 (listed' := #[true, true, true, true, true, true, true, true, true, true, true]) hQ rfl (by kernel_rfl) (by kernel_rfl) (by kernel_rfl) (by kernel_rfl) (by kernel_rfl) hE hs32 (.cons _ (.cons_cons _ (.cons_cons _ (List.nil_sublist _)))) ?_
  refine JL.assign .none rfl ?_
  refine JA.cont ?_
  refine JA.done hQ (by kernel_rfl) ?_
  refine JQ.go ?_
  refine JC.seq ?_
  refine JC.seq ?_
  refine JC.region (by rfl) ?_
  intro hQ
  refine JL.move .none rfl ?_
  refine JL.bin rfl rfl rfl .none rfl ?_
  refine JL.done hQ ?_
  refine JQ.go ?_
  rcases ite_some hF with ⟨hc33, hF⟩ | ⟨hc33, hF⟩
  ·refine JC.cond_t (b := (y11.2 != 0)) rfl hc33 ?_
   refine JC.seq ?_
   refine JC.region (by rfl) ?_
   intro hQ
   refine JL.build (l := [.int .i64 0, .int .i64 0]) (by kernel_rfl) .none rfl ?_
   refine JL.move .none rfl ?_
   refine JL.storeOwn 1 (cs := [.int .i64 0, .int .i64 0]) az_42 rfl rfl rfl (one_cons rfl (one_cons rfl one_nil)) rfl rfl .none ?_
   refine JL.assign .none rfl ?_
   refine JL.done hQ ?_
   refine JQ.go ?_
   refine JC.ret ?_
   refine JQ.ret_then ?_
   obtain rfl := Option.some.inj hF
   exact JQ.outS rfl (.cell 1 az_42 rfl rfl rfl (.tmp .nil)) rfl
  ·refine JC.cond_f (b := (y11.2 != 0)) rfl hc33 ?_
   refine JC.skip ?_
   refine JQ.go ?_
   refine JC.seq ?_
   obtain ⟨y42, hy42, hF⟩ := bind_some hF
   refine JC.mixed 11 11 #[false, false, false, false, false, false, false, false, false, false, false] [(b31, .cells [.int .i64 y11.1.Low, .int .i64 y11.1.High].toArray 42), (b2, .cells [.int .i64 0, .int .i64 0].toArray 42), (b1, .cells [r_v0, .int .i64 r.Canopy.Frame.Low, .int .i64 r.Canopy.Frame.High, .int .i64 r.Canopy.Frame.Ease.Num, .int .i64 r.Canopy.Frame.Ease.Den, .int .i64 r.Canopy.Frame.Rod, .int .i64 r.Canopy.Frame.Case, r_v7, r_v8, r_v9, r_v10, .int .i64 r.Wrong].toArray 34)] (by rfl) mo_ (by kernel_rfl) (by kernel_rfl) ?_
   intro hQ hE
   refine JA.cut 2 #[true, true, true, true, true, true, true, true, true, false, false] (fun H63 f bs gs => ∃ (b62 : Nat), f 2 = .pointer (some ⟨b2, 0, none⟩) ∧ f 4 = .pointer (some ⟨b31, 0, none⟩) ∧ f 6 = .pointer (some ⟨b62, 0, none⟩) ∧ f 26 = .agg [.int .i64 y42.1.Low, .int .i64 y42.1.High].toArray ∧ f 27 = .int .i64 y42.2 ∧ bs = [(b62, .cells [.int .i64 0, .int .i64 0].toArray 42), (b31, .cells [.int .i64 y11.1.Low, .int .i64 y11.1.High].toArray 42), (b2, .cells [.int .i64 0, .int .i64 0].toArray 42), (b1, .cells [r_v0, .int .i64 r.Canopy.Frame.Low, .int .i64 r.Canopy.Frame.High, .int .i64 r.Canopy.Frame.Ease.Num, .int .i64 r.Canopy.Frame.Ease.Den, .int .i64 r.Canopy.Frame.Rod, .int .i64 r.Canopy.Frame.Case, r_v7, r_v8, r_v9, r_v10, .int .i64 r.Wrong].toArray 34)] ∧ gs = [] ∧ HSub H32 H63) ?_ ?_
   ·rintro H63 f bs gs ⟨b62, hf2, hf4, hf6, hf26, hf27, rfl, rfl, hs63⟩
    refine (JA.norm (i := 2) hf2 (JA.norm (i := 4) hf4 (JA.norm (i := 6) hf6 (JA.norm (i := 26) hf26 (JA.norm (i := 27) hf27 ?_)))))
    refine JA.many [9] (by kernel_rfl) (by simp) (all_one ⟨_, #[true, true, true, true, true, true, true, true, true, true, false], rfl, (by kernel_rfl), ?_⟩)
    refine JL.storeOwn 0 (cs := [.int .i64 y42.1.Low, .int .i64 y42.1.High]) az_42 rfl rfl rfl (one_cons rfl (one_cons rfl one_nil)) rfl rfl .none ?_
    refine JA.after hE hs63 (.cons _ (.cons_cons _ (.cons_cons _ (.cons_cons _ (List.nil_sublist _))))) ?_
    refine JA.take 10 (listed' := #[true, true, true, true, true, true, true, true, true, true, true]) hQ rfl (by kernel_rfl) (by kernel_rfl) (by kernel_rfl) (by kernel_rfl) (by kernel_rfl) hE hs63 (.cons _ (.cons_cons _ (.cons_cons _ (.cons_cons _ (List.nil_sublist _))))) ?_
    refine JL.assign .none rfl ?_
    refine JA.cont ?_
    refine JA.done hQ (by kernel_rfl) ?_
    refine JQ.go ?_
    refine JC.seq ?_
    refine JC.region (by rfl) ?_
    intro hQ
    refine JL.fieldAddr fo_42_0 rfl .none rfl ?_
    refine JL.loadOwn 1 az_3 rfl rfl rfl .none rfl ?_
    refine JL.fieldAddr fo_42_1 rfl .none rfl ?_
    refine JL.loadOwn 0 az_3 rfl rfl rfl .none rfl ?_
    refine JL.build (l := [.int .i64 y11.1.Low, .int .i64 y42.1.High]) (by kernel_rfl) .none rfl ?_
    refine JL.storeOwn 2 (cs := [.int .i64 y11.1.Low, .int .i64 y42.1.High]) az_42 rfl rfl rfl (one_cons rfl (one_cons rfl one_nil)) rfl rfl .none ?_
    refine JL.assign .none rfl ?_
    refine JL.done hQ ?_
    refine JQ.go ?_
    refine JC.ret ?_
    obtain rfl := Option.some.inj hF
    exact JQ.outS rfl (.cell 2 az_42 rfl rfl rfl (.tmp .nil)) rfl
   intro nd62_0
   refine JA.cut 6 #[true, true, true, true, false, false, false, false, true, false, false] (fun H64 f bs gs => ∃ (b53 : Nat) (bm45 : Nat) (b46 : Nat) (b47 : Nat) (b48 : Nat), f 2 = .pointer (some ⟨b2, 0, none⟩) ∧ f 4 = .pointer (some ⟨b31, 0, none⟩) ∧ f 6 = .pointer (some ⟨b53, 0, none⟩) ∧ f 21 = .agg [r_v0, .int .i64 r.Canopy.Frame.Low, .int .i64 r.Canopy.Frame.High, .int .i64 r.Canopy.Frame.Ease.Num, .int .i64 r.Canopy.Frame.Ease.Den, .int .i64 r.Canopy.Frame.Rod, .int .i64 r.Canopy.Frame.Case, r_v7, r_v8, r_v9, r_v10, .int .i64 r.Wrong].toArray ∧ f 24 = .func (.func 74) #[] [.pointer (some ⟨b46, 0, none⟩), .pointer (some ⟨b47, 0, none⟩), .pointer (some ⟨b48, 0, none⟩)].toArray ∧ bs = [(b53, .cells [.int .i64 0, .int .i64 0].toArray 42), (bm45, .map #[] 0), (b31, .cells [.int .i64 y11.1.Low, .int .i64 y11.1.High].toArray 42), (b2, .cells [.int .i64 0, .int .i64 0].toArray 42), (b1, .cells [r_v0, .int .i64 r.Canopy.Frame.Low, .int .i64 r.Canopy.Frame.High, .int .i64 r.Canopy.Frame.Ease.Num, .int .i64 r.Canopy.Frame.Ease.Den, .int .i64 r.Canopy.Frame.Rod, .int .i64 r.Canopy.Frame.Case, r_v7, r_v8, r_v9, r_v10, .int .i64 r.Wrong].toArray 34)] ∧ gs = [] ∧ MR 2 ekA ([] : Mp) #[] 0 ∧ Cells H64 b46 0 [.map (some bm45)] ∧ Cells H64 b47 0 [r_v0, .int .i64 r.Canopy.Frame.Low, .int .i64 r.Canopy.Frame.High, .int .i64 r.Canopy.Frame.Ease.Num, .int .i64 r.Canopy.Frame.Ease.Den, .int .i64 r.Canopy.Frame.Rod, .int .i64 r.Canopy.Frame.Case, r_v7, r_v8] ∧ Cells H64 b48 0 [.bool false] ∧ HSub H32 H64) ?_ ?_
   ·rintro H64 f bs gs ⟨b53, bm45, b46, b47, b48, hf2, hf4, hf6, hf21, hf24, rfl, rfl, hm65, hm66, hm67, hm68, hs64⟩
    refine (JA.norm (i := 2) hf2 (JA.norm (i := 4) hf4 (JA.norm (i := 6) hf6 (JA.norm (i := 21) hf21 (JA.norm (i := 24) hf24 ?_)))))
    refine JA.many [4] (by kernel_rfl) (by simp) (all_one ⟨_, #[true, true, true, true, true, false, false, false, true, false, false], rfl, (by kernel_rfl), ?_⟩)
    refine JL.callHole 1 _ rfl ⟨_, _, _, rfl, MR.empty, cached_nil⟩ (c_harm_bounds n H64 r r_v0 (SL.mono R_Section_mono (HSub.trans hs32 hs64) hr_0) r_v7 (SL.mono R_Span_mono (HSub.trans hs32 hs64) hr_7) r_v8 (SL.mono RInt.mono (HSub.trans hs32 hs64) hr_8) r_v9 (SL.mono R_Blow_mono (HSub.trans hs32 hs64) hr_9) r_v10 (SL.mono R_Meter_mono (HSub.trans hs32 hs64) hr_10) false bm45 b46 b47 b48 hm66 hm67 hm68 y42 hy42) rfl en_41 .none rfl ?_
    refine JA.after hE hs64 (.cons _ (.cons_cons _ (.cons_cons _ (.cons_cons _ (List.nil_sublist _))))) ?_
    refine JA.take 5 (listed' := #[true, true, true, true, true, true, false, false, true, false, false]) hQ rfl (by kernel_rfl) (by kernel_rfl) (by kernel_rfl) (by kernel_rfl) (by kernel_rfl) hE hs64 (.cons _ (.cons_cons _ (.cons_cons _ (.cons_cons _ (List.nil_sublist _))))) ?_
    refine JL.move .none rfl ?_
    refine JA.cont ?_
    refine JA.take 6 (listed' := #[true, true, true, true, true, true, true, false, true, false, false]) hQ rfl (by kernel_rfl) (by kernel_rfl) (by kernel_rfl) (by kernel_rfl) (by kernel_rfl) hE hs64 (.cons _ (.cons_cons _ (.cons_cons _ (.cons_cons _ (List.nil_sublist _))))) ?_
    refine JL.extract rfl rfl .none rfl ?_
    refine JA.cont ?_
    refine JA.take 7 (listed' := #[true, true, true, true, true, true, true, true, true, false, false]) hQ rfl (by kernel_rfl) (by kernel_rfl) (by kernel_rfl) (by kernel_rfl) (by kernel_rfl) hE hs64 (.cons _ (.cons_cons _ (.cons_cons _ (.cons_cons _ (List.nil_sublist _))))) ?_
    refine JL.extract rfl rfl .none rfl ?_
    refine JA.cont ?_
    exact nd62_0 _ _ _ _ ⟨b53, rfl, rfl, rfl, rfl, rfl, rfl, rfl, hs64⟩
   intro nd62_1
   refine JA.take 0 (listed' := #[true, false, false, false, false, false, false, false, false, false, false]) hQ rfl (by kernel_rfl) (by kernel_rfl) (by kernel_rfl) (by kernel_rfl) (by kernel_rfl) hE (HSub.refl _) (.cons_cons _ (.cons_cons _ (.cons_cons _ (List.nil_sublist _)))) ?_
   refine JL.loadOwn 2 az_34 rfl rfl rfl .none rfl ?_
   refine JA.cont ?_
   refine JA.take 1 (listed' := #[true, true, false, false, false, false, false, false, false, false, false]) hQ rfl (by kernel_rfl) (by kernel_rfl) (by kernel_rfl) (by kernel_rfl) (by kernel_rfl) hE (HSub.refl _) (.cons_cons _ (.cons_cons _ (.cons_cons _ (List.nil_sublist _)))) ?_
   refine JL.fieldAddr fo_34_0 rfl .none rfl ?_
   refine JA.cont ?_
   refine JA.take 2 (listed' := #[true, true, true, false, false, false, false, false, false, false, false]) hQ rfl (by kernel_rfl) (by kernel_rfl) (by kernel_rfl) (by kernel_rfl) (by kernel_rfl) hE (HSub.refl _) (.cons_cons _ (.cons_cons _ (.cons_cons _ (List.nil_sublist _)))) ?_
   refine JL.loadOwn 2 az_30 rfl rfl rfl .none rfl ?_
   refine JA.cont ?_
   refine JA.many [3, 8] (by kernel_rfl) (by simp) (all_cons ⟨_, #[true, true, true, true, false, false, false, false, false, false, false], rfl, (by kernel_rfl), ?_⟩ (all_one ⟨_, #[true, true, true, false, false, false, false, false, true, false, false], rfl, (by kernel_rfl), ?_⟩))
   ·skip
    refine JL.callXB (c_counts_fells n H32 r.Canopy r_v0 (SL.mono R_Section_mono hs32 hr_0) r_v7 (SL.mono R_Span_mono hs32 hr_7) r_v8 (SL.mono RInt.mono hs32 hr_8) false) rfl en_42 .none rfl ?_
    rintro H69 _ _ hs69 ⟨bm70, b71, b72, b73, rfl, rfl, hc74, hc75, hc76⟩
    refine JA.after hE hs69 (.cons _ (.cons_cons _ (.cons_cons _ (.cons_cons _ (List.nil_sublist _))))) ?_
    refine JA.many [4, 8] (by kernel_rfl) (by simp) (all_cons ⟨_, #[true, true, true, true, true, false, false, false, false, false, false], rfl, (by kernel_rfl), ?_⟩ (all_one ⟨_, #[true, true, true, true, false, false, false, false, true, false, false], rfl, (by kernel_rfl), ?_⟩))
    ·skip
     refine JL.callHole 0 _ rfl ⟨_, _, _, rfl, MR.empty, cached_nil⟩ (c_harm_bounds n H69 r r_v0 (SL.mono R_Section_mono (HSub.trans hs32 hs69) hr_0) r_v7 (SL.mono R_Span_mono (HSub.trans hs32 hs69) hr_7) r_v8 (SL.mono RInt.mono (HSub.trans hs32 hs69) hr_8) r_v9 (SL.mono R_Blow_mono (HSub.trans hs32 hs69) hr_9) r_v10 (SL.mono R_Meter_mono (HSub.trans hs32 hs69) hr_10) false bm70 b71 b72 b73 hc74 hc75 hc76 y42 hy42) rfl en_41 .none rfl ?_
     refine JA.after hE hs69 (.cons_cons _ (.cons_cons _ (.cons_cons _ (List.nil_sublist _)))) ?_
     refine JA.take 5 (listed' := #[true, true, true, true, true, true, false, false, false, false, false]) hQ rfl (by kernel_rfl) (by kernel_rfl) (by kernel_rfl) (by kernel_rfl) (by kernel_rfl) hE hs69 (.cons_cons _ (.cons_cons _ (.cons_cons _ (List.nil_sublist _)))) ?_
     refine JL.move .none rfl ?_
     refine JA.cont ?_
     refine JA.take 6 (listed' := #[true, true, true, true, true, true, true, false, false, false, false]) hQ rfl (by kernel_rfl) (by kernel_rfl) (by kernel_rfl) (by kernel_rfl) (by kernel_rfl) hE hs69 (.cons_cons _ (.cons_cons _ (.cons_cons _ (List.nil_sublist _)))) ?_
     refine JL.extract rfl rfl .none rfl ?_
     refine JA.cont ?_
     refine JA.take 7 (listed' := #[true, true, true, true, true, true, true, true, false, false, false]) hQ rfl (by kernel_rfl) (by kernel_rfl) (by kernel_rfl) (by kernel_rfl) (by kernel_rfl) hE hs69 (.cons_cons _ (.cons_cons _ (.cons_cons _ (List.nil_sublist _)))) ?_
     refine JL.extract rfl rfl .none rfl ?_
     refine JA.cont ?_
     refine JA.many [8] (by kernel_rfl) (by simp) (all_one ⟨_, #[true, true, true, true, true, true, true, true, true, false, false], rfl, (by kernel_rfl), ?_⟩)
     refine JL.alloc ze_42 .none rfl ?_
     intro b77
     refine JA.after hE hs69 (.cons _ (.cons_cons _ (.cons_cons _ (.cons_cons _ (List.nil_sublist _))))) ?_
     exact nd62_0 _ _ _ _ ⟨b77, rfl, rfl, rfl, rfl, rfl, rfl, rfl, hs69⟩
    ·skip
     refine JL.alloc ze_42 .none rfl ?_
     intro b78
     refine JA.after hE hs69 (.cons _ (.cons _ (.cons_cons _ (.cons_cons _ (.cons_cons _ (List.nil_sublist _)))))) ?_
     exact nd62_1 _ _ _ _ ⟨b78, bm70, b71, b72, b73, rfl, rfl, rfl, rfl, rfl, rfl, rfl, MR.empty, hc74, hc75, hc76, hs69⟩
   ·skip
    refine JL.alloc ze_42 .none rfl ?_
    intro b79
    refine JA.after hE (HSub.refl _) (.cons _ (.cons_cons _ (.cons_cons _ (.cons_cons _ (List.nil_sublist _))))) ?_
    refine JA.many [3] (by kernel_rfl) (by simp) (all_one ⟨_, #[true, true, true, true, false, false, false, false, true, false, false], rfl, (by kernel_rfl), ?_⟩)
    refine JL.callXB (c_counts_fells n H32 r.Canopy r_v0 (SL.mono R_Section_mono hs32 hr_0) r_v7 (SL.mono R_Span_mono hs32 hr_7) r_v8 (SL.mono RInt.mono hs32 hr_8) false) rfl en_42 .none rfl ?_
    rintro H80 _ _ hs80 ⟨bm81, b82, b83, b84, rfl, rfl, hc85, hc86, hc87⟩
    refine JA.after hE hs80 (.cons _ (.cons _ (.cons_cons _ (.cons_cons _ (.cons_cons _ (List.nil_sublist _)))))) ?_
    refine JA.perm (swapAt_perm 0 _) ?_
    exact nd62_1 _ _ _ _ ⟨b79, bm81, b82, b83, b84, rfl, rfl, rfl, rfl, rfl, rfl, rfl, MR.empty, hc85, hc86, hc87, hs80⟩
 intro nd31_0
 refine JA.cut 6 #[true, true, true, true, false, false, false, false, true, false, false] (fun H88 f bs gs => ∃ (b22 : Nat) (bm14 : Nat) (b15 : Nat) (b16 : Nat) (b17 : Nat), f 1 = .pointer (some ⟨b1, 0, none⟩) ∧ f 2 = .pointer (some ⟨b2, 0, none⟩) ∧ f 4 = .pointer (some ⟨b22, 0, none⟩) ∧ f 9 = .agg [r_v0, .int .i64 r.Canopy.Frame.Low, .int .i64 r.Canopy.Frame.High, .int .i64 r.Canopy.Frame.Ease.Num, .int .i64 r.Canopy.Frame.Ease.Den, .int .i64 r.Canopy.Frame.Rod, .int .i64 r.Canopy.Frame.Case, r_v7, r_v8, r_v9, r_v10, .int .i64 r.Wrong].toArray ∧ f 12 = .func (.func 74) #[] [.pointer (some ⟨b15, 0, none⟩), .pointer (some ⟨b16, 0, none⟩), .pointer (some ⟨b17, 0, none⟩)].toArray ∧ bs = [(b22, .cells [.int .i64 0, .int .i64 0].toArray 42), (bm14, .map #[] 0), (b2, .cells [.int .i64 0, .int .i64 0].toArray 42), (b1, .cells [r_v0, .int .i64 r.Canopy.Frame.Low, .int .i64 r.Canopy.Frame.High, .int .i64 r.Canopy.Frame.Ease.Num, .int .i64 r.Canopy.Frame.Ease.Den, .int .i64 r.Canopy.Frame.Rod, .int .i64 r.Canopy.Frame.Case, r_v7, r_v8, r_v9, r_v10, .int .i64 r.Wrong].toArray 34)] ∧ gs = [] ∧ MR 2 ekA ([] : Mp) #[] 0 ∧ Cells H88 b15 0 [.map (some bm14)] ∧ Cells H88 b16 0 [r_v0, .int .i64 r.Canopy.Frame.Low, .int .i64 r.Canopy.Frame.High, .int .i64 r.Canopy.Frame.Ease.Num, .int .i64 r.Canopy.Frame.Ease.Den, .int .i64 r.Canopy.Frame.Rod, .int .i64 r.Canopy.Frame.Case, r_v7, r_v8] ∧ Cells H88 b17 0 [.bool true] ∧ HSub H H88) ?_ ?_
 ·rintro H88 f bs gs ⟨b22, bm14, b15, b16, b17, hf1, hf2, hf4, hf9, hf12, rfl, rfl, hm89, hm90, hm91, hm92, hs88⟩
  refine (JA.norm (i := 1) hf1 (JA.norm (i := 2) hf2 (JA.norm (i := 4) hf4 (JA.norm (i := 9) hf9 (JA.norm (i := 12) hf12 ?_)))))
  refine JA.many [4] (by kernel_rfl) (by simp) (all_one ⟨_, #[true, true, true, true, true, false, false, false, true, false, false], rfl, (by kernel_rfl), ?_⟩)
  refine JL.callHole 1 _ rfl ⟨_, _, _, rfl, MR.empty, cached_nil⟩ (c_harm_bounds n H88 r r_v0 (SL.mono R_Section_mono hs88 hr_0) r_v7 (SL.mono R_Span_mono hs88 hr_7) r_v8 (SL.mono RInt.mono hs88 hr_8) r_v9 (SL.mono R_Blow_mono hs88 hr_9) r_v10 (SL.mono R_Meter_mono hs88 hr_10) true bm14 b15 b16 b17 hm90 hm91 hm92 y11 hy11) rfl en_41 .none rfl ?_
  refine JA.after hE hs88 (.cons _ (.cons_cons _ (.cons_cons _ (List.nil_sublist _)))) ?_
  refine JA.take 5 (listed' := #[true, true, true, true, true, true, false, false, true, false, false]) hQ rfl (by kernel_rfl) (by kernel_rfl) (by kernel_rfl) (by kernel_rfl) (by kernel_rfl) hE hs88 (.cons _ (.cons_cons _ (.cons_cons _ (List.nil_sublist _)))) ?_
  refine JL.move .none rfl ?_
  refine JA.cont ?_
  refine JA.take 6 (listed' := #[true, true, true, true, true, true, true, false, true, false, false]) hQ rfl (by kernel_rfl) (by kernel_rfl) (by kernel_rfl) (by kernel_rfl) (by kernel_rfl) hE hs88 (.cons _ (.cons_cons _ (.cons_cons _ (List.nil_sublist _)))) ?_
  refine JL.extract rfl rfl .none rfl ?_
  refine JA.cont ?_
  refine JA.take 7 (listed' := #[true, true, true, true, true, true, true, true, true, false, false]) hQ rfl (by kernel_rfl) (by kernel_rfl) (by kernel_rfl) (by kernel_rfl) (by kernel_rfl) hE hs88 (.cons _ (.cons_cons _ (.cons_cons _ (List.nil_sublist _)))) ?_
  refine JL.extract rfl rfl .none rfl ?_
  refine JA.cont ?_
  exact nd31_0 _ _ _ _ ⟨b22, rfl, rfl, rfl, rfl, rfl, rfl, rfl, hs88⟩
 intro nd31_1
 refine JA.take 0 (listed' := #[true, false, false, false, false, false, false, false, false, false, false]) hQ rfl (by kernel_rfl) (by kernel_rfl) (by kernel_rfl) (by kernel_rfl) (by kernel_rfl) hE (HSub.refl _) (.cons_cons _ (.cons_cons _ (List.nil_sublist _))) ?_
 refine JL.loadOwn 1 az_34 rfl rfl rfl .none rfl ?_
 refine JA.cont ?_
 refine JA.take 1 (listed' := #[true, true, false, false, false, false, false, false, false, false, false]) hQ rfl (by kernel_rfl) (by kernel_rfl) (by kernel_rfl) (by kernel_rfl) (by kernel_rfl) hE (HSub.refl _) (.cons_cons _ (.cons_cons _ (List.nil_sublist _))) ?_
 refine JL.fieldAddr fo_34_0 rfl .none rfl ?_
 refine JA.cont ?_
 refine JA.take 2 (listed' := #[true, true, true, false, false, false, false, false, false, false, false]) hQ rfl (by kernel_rfl) (by kernel_rfl) (by kernel_rfl) (by kernel_rfl) (by kernel_rfl) hE (HSub.refl _) (.cons_cons _ (.cons_cons _ (List.nil_sublist _))) ?_
 refine JL.loadOwn 1 az_30 rfl rfl rfl .none rfl ?_
 refine JA.cont ?_
 refine JA.many [3, 8] (by kernel_rfl) (by simp) (all_cons ⟨_, #[true, true, true, true, false, false, false, false, false, false, false], rfl, (by kernel_rfl), ?_⟩ (all_one ⟨_, #[true, true, true, false, false, false, false, false, true, false, false], rfl, (by kernel_rfl), ?_⟩))
 ·skip
  refine JL.callXB (c_counts_fells n H r.Canopy r_v0 hr_0 r_v7 hr_7 r_v8 hr_8 true) rfl en_42 .none rfl ?_
  rintro H93 _ _ hs93 ⟨bm94, b95, b96, b97, rfl, rfl, hc98, hc99, hc100⟩
  refine JA.after hE hs93 (.cons _ (.cons_cons _ (.cons_cons _ (List.nil_sublist _)))) ?_
  refine JA.many [4, 8] (by kernel_rfl) (by simp) (all_cons ⟨_, #[true, true, true, true, true, false, false, false, false, false, false], rfl, (by kernel_rfl), ?_⟩ (all_one ⟨_, #[true, true, true, true, false, false, false, false, true, false, false], rfl, (by kernel_rfl), ?_⟩))
  ·skip
   refine JL.callHole 0 _ rfl ⟨_, _, _, rfl, MR.empty, cached_nil⟩ (c_harm_bounds n H93 r r_v0 (SL.mono R_Section_mono hs93 hr_0) r_v7 (SL.mono R_Span_mono hs93 hr_7) r_v8 (SL.mono RInt.mono hs93 hr_8) r_v9 (SL.mono R_Blow_mono hs93 hr_9) r_v10 (SL.mono R_Meter_mono hs93 hr_10) true bm94 b95 b96 b97 hc98 hc99 hc100 y11 hy11) rfl en_41 .none rfl ?_
   refine JA.after hE hs93 (.cons_cons _ (.cons_cons _ (List.nil_sublist _))) ?_
   refine JA.take 5 (listed' := #[true, true, true, true, true, true, false, false, false, false, false]) hQ rfl (by kernel_rfl) (by kernel_rfl) (by kernel_rfl) (by kernel_rfl) (by kernel_rfl) hE hs93 (.cons_cons _ (.cons_cons _ (List.nil_sublist _))) ?_
   refine JL.move .none rfl ?_
   refine JA.cont ?_
   refine JA.take 6 (listed' := #[true, true, true, true, true, true, true, false, false, false, false]) hQ rfl (by kernel_rfl) (by kernel_rfl) (by kernel_rfl) (by kernel_rfl) (by kernel_rfl) hE hs93 (.cons_cons _ (.cons_cons _ (List.nil_sublist _))) ?_
   refine JL.extract rfl rfl .none rfl ?_
   refine JA.cont ?_
   refine JA.take 7 (listed' := #[true, true, true, true, true, true, true, true, false, false, false]) hQ rfl (by kernel_rfl) (by kernel_rfl) (by kernel_rfl) (by kernel_rfl) (by kernel_rfl) hE hs93 (.cons_cons _ (.cons_cons _ (List.nil_sublist _))) ?_
   refine JL.extract rfl rfl .none rfl ?_
   refine JA.cont ?_
   refine JA.many [8] (by kernel_rfl) (by simp) (all_one ⟨_, #[true, true, true, true, true, true, true, true, true, false, false], rfl, (by kernel_rfl), ?_⟩)
   refine JL.alloc ze_42 .none rfl ?_
   intro b101
   refine JA.after hE hs93 (.cons _ (.cons_cons _ (.cons_cons _ (List.nil_sublist _)))) ?_
   exact nd31_0 _ _ _ _ ⟨b101, rfl, rfl, rfl, rfl, rfl, rfl, rfl, hs93⟩
  ·skip
   refine JL.alloc ze_42 .none rfl ?_
   intro b102
   refine JA.after hE hs93 (.cons _ (.cons _ (.cons_cons _ (.cons_cons _ (List.nil_sublist _))))) ?_
   exact nd31_1 _ _ _ _ ⟨b102, bm94, b95, b96, b97, rfl, rfl, rfl, rfl, rfl, rfl, rfl, MR.empty, hc98, hc99, hc100, hs93⟩
 ·skip
  refine JL.alloc ze_42 .none rfl ?_
  intro b103
  refine JA.after hE (HSub.refl _) (.cons _ (.cons_cons _ (.cons_cons _ (List.nil_sublist _)))) ?_
  refine JA.many [3] (by kernel_rfl) (by simp) (all_one ⟨_, #[true, true, true, true, false, false, false, false, true, false, false], rfl, (by kernel_rfl), ?_⟩)
  refine JL.callXB (c_counts_fells n H r.Canopy r_v0 hr_0 r_v7 hr_7 r_v8 hr_8 true) rfl en_42 .none rfl ?_
  rintro H104 _ _ hs104 ⟨bm105, b106, b107, b108, rfl, rfl, hc109, hc110, hc111⟩
  refine JA.after hE hs104 (.cons _ (.cons _ (.cons_cons _ (.cons_cons _ (List.nil_sublist _))))) ?_
  refine JA.perm (swapAt_perm 0 _) ?_
  exact nd31_1 _ _ _ _ ⟨b103, bm105, b106, b107, b108, rfl, rfl, rfl, rfl, rfl, rfl, rfl, MR.empty, hc109, hc110, hc111, hs104⟩
-- 9 ferrule/counts.Stood
noncomputable def F_counts_Stood (n : Nat) (r : Run) : Option (Int × Int) :=
 (F_counts_Harm n r).bind fun y2 => if (y2.2 != 0) = true then (some (0, y2.2)) else (if (y2.1.High == 0) = true then (some (1, 0)) else (if decide (0 < y2.1.Low) = true then (some (2, 0)) else (some (3, 0))))
set_option maxRecDepth 100000 in
set_option maxHeartbeats 40000000 in
theorem c_counts_Stood (n : Nat) (H : Hp) (r : Run) (r_v0 : Value) (hr_0 : SL H 7 R_Section r_v0 r.Canopy.Frame.Sections) (r_v7 : Value) (hr_7 : SL H 2 R_Span r_v7 r.Canopy.Ribs) (r_v8 : Value) (hr_8 : SL H 1 RInt r_v8 r.Canopy.Shares) (r_v9 : Value) (hr_9 : SL H 3 R_Blow r_v9 r.Blows) (r_v10 : Value) (hr_10 : SL H 2 R_Meter r_v10 r.Meters) (y : Int × Int) (hF : F_counts_Stood n r = some y) : SC Tryz.prog 9 [.agg [r_v0, .int .i64 r.Canopy.Frame.Low, .int .i64 r.Canopy.Frame.High, .int .i64 r.Canopy.Frame.Ease.Num, .int .i64 r.Canopy.Frame.Ease.Den, .int .i64 r.Canopy.Frame.Rod, .int .i64 r.Canopy.Frame.Case, r_v7, r_v8, r_v9, r_v10, .int .i64 r.Wrong].toArray] (.tuple [.int .i64 y.1, .int .i64 y.2].toArray) H := by
 rw [F_counts_Stood] at hF
 refine SC.of (N := 23) Tryz.func9 rfl rfl rfl fun w => ?_
 refine JC.seq ?_
 refine JC.region (by rfl) ?_
 intro hQ
 refine JL.box (cs := [r_v0, .int .i64 r.Canopy.Frame.Low, .int .i64 r.Canopy.Frame.High, .int .i64 r.Canopy.Frame.Ease.Num, .int .i64 r.Canopy.Frame.Ease.Den, .int .i64 r.Canopy.Frame.Rod, .int .i64 r.Canopy.Frame.Case, r_v7, r_v8, r_v9, r_v10, .int .i64 r.Wrong]) rfl .none rfl ?_
 intro b1
 refine JL.assign .none rfl ?_
 refine JL.assign .none rfl ?_
 refine JL.done hQ ?_
 refine JQ.go ?_
 refine JC.seq ?_
 refine JC.region (by rfl) ?_
 intro hQ
 refine JL.loadOwn 0 az_34 rfl rfl rfl .none rfl ?_
 obtain ⟨y2, hy2, hF⟩ := bind_some hF
 refine JL.callS (c_counts_Harm n H r r_v0 hr_0 r_v7 hr_7 r_v8 hr_8 r_v9 hr_9 r_v10 hr_10 y2 hy2) rfl en_11 .none rfl ?_
 refine JL.move .none rfl ?_
 refine JL.extract rfl rfl .none rfl ?_
 refine JL.extract rfl rfl .none rfl ?_
 refine JL.alloc ze_42 .none rfl ?_
 intro b3
 refine JL.storeOwn 0 (cs := [.int .i64 y2.1.Low, .int .i64 y2.1.High]) az_42 rfl rfl rfl (one_cons rfl (one_cons rfl one_nil)) rfl rfl .none ?_
 refine JL.assign .none rfl ?_
 refine JL.done hQ ?_
 refine JQ.go ?_
 refine JC.seq ?_
 refine JC.block ?_
 refine JC.seq ?_
 refine JC.region (by rfl) ?_
 intro hQ
 refine JL.move .none rfl ?_
 refine JL.bin rfl rfl rfl .none rfl ?_
 refine JL.assign .none rfl ?_
 refine JL.done hQ ?_
 refine JQ.go ?_
 refine JC.fresh (fun f => f 2 = .int .i64 0 ∧ f 3 = .int .i64 0 ∧ f 4 = .pointer (some ⟨b3, 0, none⟩) ∧ f 5 = .int .i64 y2.2 ∧ f 11 = .bool (y2.2 != 0)) ⟨rfl, rfl, rfl, rfl, rfl⟩ ?_
 rintro f ⟨hf2, hf3, hf4, hf5, hf11⟩
 refine (JC.norm (i := 2) hf2 (JC.norm (i := 3) hf3 (JC.norm (i := 4) hf4 (JC.norm (i := 5) hf5 (JC.norm (i := 11) hf11 ?_)))))
 rcases ite_some hF with ⟨hc4, hF⟩ | ⟨hc4, hF⟩
 ·refine JC.cond_t (b := (y2.2 != 0)) rfl hc4 ?_
  refine JC.seq ?_
  refine JC.region (by rfl) ?_
  intro hQ
  refine JL.move .none rfl ?_
  refine JL.assign .none rfl ?_
  refine JL.assign .none rfl ?_
  refine JL.done hQ ?_
  refine JQ.go ?_
  refine JC.ret ?_
  refine JQ.ret_block ?_
  refine JQ.ret_then ?_
  obtain rfl := Option.some.inj hF
  exact JQ.outS rfl (.tmp (.tmp .nil)) rfl
 ·refine JC.cond_f (b := (y2.2 != 0)) rfl hc4 ?_
  refine JC.seq ?_
  refine JC.region (by rfl) ?_
  intro hQ
  refine JL.fieldAddr fo_42_1 rfl .none rfl ?_
  refine JL.loadOwn 0 az_3 rfl rfl rfl .none rfl ?_
  refine JL.bin rfl rfl rfl .none rfl ?_
  refine JL.assign .none rfl ?_
  refine JL.done hQ ?_
  refine JQ.go ?_
  rcases ite_some hF with ⟨hc5, hF⟩ | ⟨hc5, hF⟩
  ·refine JC.cond_t (b := (y2.1.High == 0)) rfl hc5 ?_
   refine JC.seq ?_
   refine JC.region (by rfl) ?_
   intro hQ
   refine JL.assign .none rfl ?_
   refine JL.assign .none rfl ?_
   refine JL.done hQ ?_
   refine JQ.go ?_
   refine JC.ret ?_
   refine JQ.ret_block ?_
   refine JQ.ret_then ?_
   obtain rfl := Option.some.inj hF
   exact JQ.outS rfl (.tmp (.tmp .nil)) rfl
  ·refine JC.cond_f (b := (y2.1.High == 0)) rfl hc5 ?_
   refine JC.seq ?_
   refine JC.region (by rfl) ?_
   intro hQ
   refine JL.fieldAddr fo_42_0 rfl .none rfl ?_
   refine JL.loadOwn 0 az_3 rfl rfl rfl .none rfl ?_
   refine JL.bin rfl rfl rfl .none rfl ?_
   refine JL.assign .none rfl ?_
   refine JL.done hQ ?_
   refine JQ.go ?_
   rcases ite_some hF with ⟨hc6, hF⟩ | ⟨hc6, hF⟩
   ·refine JC.cond_t (b := decide (0 < y2.1.Low)) rfl hc6 ?_
    refine JC.seq ?_
    refine JC.region (by rfl) ?_
    intro hQ
    refine JL.assign .none rfl ?_
    refine JL.assign .none rfl ?_
    refine JL.done hQ ?_
    refine JQ.go ?_
    refine JC.ret ?_
    refine JQ.ret_block ?_
    refine JQ.ret_then ?_
    obtain rfl := Option.some.inj hF
    exact JQ.outS rfl (.tmp (.tmp .nil)) rfl
   ·refine JC.cond_f (b := decide (0 < y2.1.Low)) rfl hc6 ?_
    refine JC.skip ?_
    refine JQ.normal_block ?_
    refine JQ.go ?_
    refine JC.seq ?_
    refine JC.region (by rfl) ?_
    intro hQ
    refine JL.assign .none rfl ?_
    refine JL.assign .none rfl ?_
    refine JL.done hQ ?_
    refine JQ.go ?_
    refine JC.ret ?_
    obtain rfl := Option.some.inj hF
    exact JQ.outS rfl (.tmp (.tmp .nil)) rfl
-- 36 ferrule/ferrulelaw13.sameInts
def F_law13_sameInts_s1 (n : Nat) (a : List Int) (b : List Int) : Int → Option (Int ⊕ (Bool ⊕ Unit))
 | i_126 => if decide (i_126 < (a.length : Int)) = true then ((geti a i_126).bind fun y141 => (geti b i_126).bind fun y146 => if (y141 != y146) = true then (some (Sum.inr (Sum.inl false))) else (some (Sum.inl (w64 (i_126 + 1))))) else (some (Sum.inr (Sum.inr ())))
def F_law13_sameInts (n : Nat) (a : List Int) (b : List Int) : Option Bool :=
 if ((a.length : Int) != (b.length : Int)) = true then (some false) else ((loopO n (F_law13_sameInts_s1 n a b) 0).bind fun r77 => match r77 with | .inl o => some o | .inr _ => some true)
set_option maxRecDepth 100000 in
set_option maxHeartbeats 40000000 in
theorem c_law13_sameInts (n : Nat) (H : Hp) (a : List Int) (a_v0 : Value) (ha_0 : SL H 1 RInt a_v0 a) (b : List Int) (b_v0 : Value) (hb_0 : SL H 1 RInt b_v0 b) (y : Bool) (hF : F_law13_sameInts n a b = some y) : SC Tryz.prog 36 [a_v0, b_v0] (.bool y) H := by
 rw [F_law13_sameInts] at hF
 refine SC.of (N := 26) Tryz.func36 rfl rfl rfl fun w => ?_
 refine JC.seq ?_
 refine JC.region (by rfl) ?_
 intro hQ
 refine JL.assign .none rfl ?_
 refine JL.done hQ ?_
 refine JQ.go ?_
 refine JC.seq ?_
 refine JC.seq ?_
 refine JC.region (by rfl) ?_
 intro hQ
 refine JL.move .none rfl ?_
 refine JL.lenSL (R := RInt) ul_28 ha_0 .none rfl ?_
 refine JL.move .none rfl ?_
 refine JL.lenSL (R := RInt) ul_28 hb_0 .none rfl ?_
 refine JL.bin rfl rfl rfl .none rfl ?_
 refine JL.done hQ ?_
 refine JQ.go ?_
 rcases ite_some hF with ⟨hc1, hF⟩ | ⟨hc1, hF⟩
 ·refine JC.cond_t (b := ((a.length : Int) != (b.length : Int))) rfl hc1 ?_
  refine JC.seq ?_
  refine JC.region (by rfl) ?_
  intro hQ
  refine JL.assign .none rfl ?_
  refine JL.done hQ ?_
  refine JQ.go ?_
  refine JC.ret ?_
  refine JQ.ret_then ?_
  obtain rfl := Option.some.inj hF
  exact JQ.outS rfl (.tmp .nil) rfl
 ·refine JC.cond_f (b := ((a.length : Int) != (b.length : Int))) rfl hc1 ?_
  refine JC.skip ?_
  refine JQ.go ?_
  refine JC.seq ?_
  refine JC.seq ?_
  refine JC.region (by rfl) ?_
  intro hQ
  refine JL.assign .none rfl ?_
  refine JL.done hQ ?_
  refine JQ.go ?_
  obtain ⟨r77, hlr77, hKr77⟩ := bind_some hF
  refine JC.join (fun (_ : Unit) H76 f bs gs => bs = [] ∧ gs = [] ∧ HSub H H76 ∧ Sum.inr () = r77) ?_ ?_
  ·skip
   refine JC.block ?_
   refine JC.loop hlr77 (fun (i_126 : Int) H127 f bs gs => f 0 = a_v0 ∧ f 1 = b_v0 ∧ f 5 = .int .i64 i_126 ∧ bs = [] ∧ gs = [] ∧ HSub H H127) ⟨rfl, rfl, rfl, rfl, rfl, (HSub.refl _)⟩ ?_
   rintro i_126 x129 H127 f bs gs ⟨hf0, hf1, hf5, rfl, rfl, hs127⟩ hF hr128
   rw [F_law13_sameInts_s1] at hF
   refine (JC.norm (i := 0) hf0 (JC.norm (i := 1) hf1 (JC.norm (i := 5) hf5 ?_)))
   refine JC.seq ?_
   refine JC.seq ?_
   refine JC.region (by rfl) ?_
   intro hQ
   refine JL.move .none rfl ?_
   refine JL.move .none rfl ?_
   refine JL.lenSL (R := RInt) ul_28 (SL.mono RInt.mono hs127 ha_0) .none rfl ?_
   refine JL.bin rfl rfl rfl .none rfl ?_
   refine JL.done hQ ?_
   refine JQ.go ?_
   rcases ite_some hF with ⟨hc130, hF⟩ | ⟨hc130, hF⟩
   ·refine JC.cond_t (b := decide (i_126 < (a.length : Int))) rfl hc130 ?_
    refine JC.skip ?_
    refine JQ.go ?_
    refine JC.seq ?_
    refine JC.block ?_
    refine JC.seq ?_
    refine JC.draw (by rfl) mo_ (by kernel_rfl) ?_
    intro hQ
    refine JL.move .none rfl ?_
    refine JL.move .none rfl ?_
    obtain ⟨y141, hy141, hF⟩ := bind_some hF
    refine JL.indexSL (R := RInt) sl_28 (SL.mono RInt.mono hs127 ha_0) rfl hy141 .none rfl ?_
    rintro b142 o143 cs144 hc145 - rfl
    refine JL.loadH 0 az_3 rfl hc145 rfl .none rfl ?_
    refine JL.move .none rfl ?_
    refine JL.move .none rfl ?_
    obtain ⟨y146, hy146, hF⟩ := bind_some hF
    refine JL.indexSL (R := RInt) sl_28 (SL.mono RInt.mono hs127 hb_0) rfl hy146 .none rfl ?_
    rintro b147 o148 cs149 hc150 - rfl
    refine JL.loadH 0 az_3 rfl hc150 rfl .none rfl ?_
    refine JL.bin rfl rfl rfl .none rfl ?_
    refine JL.doneQ hQ ?_
    refine JQ.go ?_
    refine JC.fresh (fun f => f 0 = a_v0 ∧ f 1 = b_v0 ∧ f 5 = .int .i64 i_126 ∧ f 25 = .bool (y141 != y146)) ⟨rfl, rfl, rfl, rfl⟩ ?_
    rintro f ⟨hf0, hf1, hf5, hf25⟩
    refine (JC.norm (i := 0) hf0 (JC.norm (i := 1) hf1 (JC.norm (i := 5) hf5 (JC.norm (i := 25) hf25 ?_))))
    rcases ite_some hF with ⟨hc151, hF⟩ | ⟨hc151, hF⟩
    ·refine JC.cond_t (b := (y141 != y146)) rfl hc151 ?_
     refine JC.seq ?_
     refine JC.region (by rfl) ?_
     intro hQ
     refine JL.assign .none rfl ?_
     refine JL.done hQ ?_
     refine JQ.go ?_
     refine JC.ret ?_
     refine JQ.ret_block ?_
     refine JQ.ret_then ?_
     refine JQ.ret_then ?_
     refine JQ.ret_block ?_
     refine JQ.ret_join ?_
     refine JQ.ret_then ?_
     obtain rfl := Option.some.inj hF
     have ehr128 := hr128 _ rfl
     subst ehr128
     have hF := hKr77
     try dsimp only at hF
     obtain rfl := Option.some.inj hF
     exact JQ.outS rfl (.tmp .nil) rfl
    ·refine JC.cond_f (b := (y141 != y146)) rfl hc151 ?_
     refine JC.skip ?_
     refine JQ.normal_block ?_
     refine JQ.go ?_
     refine JC.region (by rfl) ?_
     intro hQ
     refine JL.move .none rfl ?_
     refine JL.bin rfl rfl rfl .none rfl ?_
     refine JL.assign .none rfl ?_
     refine JL.done hQ ?_
     obtain rfl := Option.some.inj hF
     exact JQ.next rfl ⟨rfl, rfl, rfl, rfl, rfl, hs127⟩
   ·refine JC.cond_f (b := decide (i_126 < (a.length : Int))) rfl hc130 ?_
    refine JC.exit ?_
    refine JQ.exit_then ?_
    refine JQ.exit_then ?_
    refine JQ.exit_block ?_
    obtain rfl := Option.some.inj hF
    have ehr128 := hr128 _ rfl
    subst ehr128
    exact JQ.join () ⟨rfl, rfl, hs127, rfl⟩
  ·rintro _ H76 f bs gs ⟨rfl, rfl, hs76, rfl⟩
   have hF := hKr77
   try dsimp only at hF
   refine JQ.go ?_
   refine JC.seq ?_
   refine JC.region (by rfl) ?_
   intro hQ
   refine JL.assign .none rfl ?_
   refine JL.done hQ ?_
   refine JQ.go ?_
   refine JC.ret ?_
   obtain rfl := Option.some.inj hF
   exact JQ.outS rfl (.tmp .nil) rfl
-- 7 ferrule/ferrulelaw13.works
noncomputable def F_law13_works (n : Nat)  : Option Bool :=
 (F_law13_Example n).bind fun y1 => (F_counts_Forces n y1 2).bind fun y5 => (F_counts_Many n y1).bind fun y8 => (F_counts_Harm n y1).bind fun y9 => (F_counts_Stood n y1).bind fun y11 => (if ((((y5.2 == 0) && (y8.2 == 0)) && (y9.2 == 0)) && (y11.2 == 0)) = true then ((F_law13_sameInts n y5.1 [5, 6]).bind fun y31 => some y31) else (some false) : Option Bool).bind fun p23 => some (((p23 && (y8.1 == 22)) && ((y9.1.Low == 0) && (y9.1.High == 2))) && (y11.1 == 3))
set_option maxRecDepth 100000 in
set_option maxHeartbeats 40000000 in
theorem c_law13_works (n : Nat) (H : Hp)  (y : Bool) (hF : F_law13_works n = some y) : SC Tryz.prog 7 [] (.bool y) H := by
 rw [F_law13_works] at hF
 refine SC.of (N := 63) Tryz.func7 rfl rfl rfl fun w => ?_
 refine JC.seq ?_
 refine JC.region (by rfl) ?_
 intro hQ
 refine JL.assign .none rfl ?_
 refine JL.done hQ ?_
 refine JQ.go ?_
 refine JC.seq ?_
 refine JC.region (by rfl) ?_
 intro hQ
 obtain ⟨y1, hy1, hF⟩ := bind_some hF
 refine JL.callH (c_law13_Example n H y1 hy1) rfl en_39 .none rfl ?_
 rintro H2 vv3 hs2 ⟨y1a_v0, y1a_v7, y1a_v8, y1a_v9, y1a_v10, rfl, hy1a_0, hy1a_7, hy1a_8, hy1a_9, hy1a_10⟩
 refine JL.alloc ze_34 .none rfl ?_
 intro b4
 refine JL.storeOwn 0 (cs := [y1a_v0, .int .i64 y1.Canopy.Frame.Low, .int .i64 y1.Canopy.Frame.High, .int .i64 y1.Canopy.Frame.Ease.Num, .int .i64 y1.Canopy.Frame.Ease.Den, .int .i64 y1.Canopy.Frame.Rod, .int .i64 y1.Canopy.Frame.Case, y1a_v7, y1a_v8, y1a_v9, y1a_v10, .int .i64 y1.Wrong]) az_34 rfl rfl rfl (one_cons (SL.one hy1a_0) (one_cons rfl (one_cons rfl (one_cons rfl (one_cons rfl (one_cons rfl (one_cons rfl (one_cons (SL.one hy1a_7) (one_cons (SL.one hy1a_8) (one_cons (SL.one hy1a_9) (one_cons (SL.one hy1a_10) (one_cons rfl one_nil)))))))))))) rfl rfl .none ?_
 refine JL.done hQ ?_
 refine JQ.go ?_
 refine JC.seq ?_
 refine JC.region (by rfl) ?_
 intro hQ
 refine JL.loadOwn 0 az_34 rfl rfl rfl .none rfl ?_
 obtain ⟨y5, hy5, hF⟩ := bind_some hF
 refine JL.callH (c_counts_Forces n H2 y1 y1a_v0 hy1a_0 y1a_v7 hy1a_7 y1a_v8 hy1a_8 y1a_v9 hy1a_9 y1a_v10 hy1a_10 2 y5 hy5) rfl en_23 .none rfl ?_
 rintro H6 vv7 hs6 ⟨y5a_v0, rfl, hy5a_0⟩
 refine JL.move .none rfl ?_
 refine JL.extract rfl rfl .none rfl ?_
 refine JL.extract rfl rfl .none rfl ?_
 refine JL.assign .none rfl ?_
 refine JL.assign .none rfl ?_
 refine JL.done hQ ?_
 refine JQ.go ?_
 refine JC.seq ?_
 refine JC.region (by rfl) ?_
 intro hQ
 refine JL.loadOwn 0 az_34 rfl rfl rfl .none rfl ?_
 obtain ⟨y8, hy8, hF⟩ := bind_some hF
 refine JL.callS (c_counts_Many n H6 y1 y1a_v0 (SL.mono R_Section_mono hs6 hy1a_0) y1a_v7 (SL.mono R_Span_mono hs6 hy1a_7) y1a_v8 (SL.mono RInt.mono hs6 hy1a_8) y1a_v9 (SL.mono R_Blow_mono hs6 hy1a_9) y1a_v10 (SL.mono R_Meter_mono hs6 hy1a_10) y8 hy8) rfl en_34 .none rfl ?_
 refine JL.move .none rfl ?_
 refine JL.extract rfl rfl .none rfl ?_
 refine JL.extract rfl rfl .none rfl ?_
 refine JL.assign .none rfl ?_
 refine JL.assign .none rfl ?_
 refine JL.done hQ ?_
 refine JQ.go ?_
 refine JC.fresh (fun f => f 0 = .bool false ∧ f 1 = .pointer (some ⟨b4, 0, none⟩) ∧ f 2 = y5a_v0 ∧ f 3 = .int .i64 y5.2 ∧ f 4 = .int .i64 y8.1 ∧ f 5 = .int .i64 y8.2) ⟨rfl, rfl, rfl, rfl, rfl, rfl⟩ ?_
 rintro f ⟨hf0, hf1, hf2, hf3, hf4, hf5⟩
 refine (JC.norm (i := 0) hf0 (JC.norm (i := 1) hf1 (JC.norm (i := 2) hf2 (JC.norm (i := 3) hf3 (JC.norm (i := 4) hf4 (JC.norm (i := 5) hf5 ?_))))))
 refine JC.seq ?_
 refine JC.region (by rfl) ?_
 intro hQ
 refine JL.loadOwn 0 az_34 rfl rfl rfl .none rfl ?_
 obtain ⟨y9, hy9, hF⟩ := bind_some hF
 refine JL.callS (c_counts_Harm n H6 y1 y1a_v0 (SL.mono R_Section_mono hs6 hy1a_0) y1a_v7 (SL.mono R_Span_mono hs6 hy1a_7) y1a_v8 (SL.mono RInt.mono hs6 hy1a_8) y1a_v9 (SL.mono R_Blow_mono hs6 hy1a_9) y1a_v10 (SL.mono R_Meter_mono hs6 hy1a_10) y9 hy9) rfl en_11 .none rfl ?_
 refine JL.move .none rfl ?_
 refine JL.extract rfl rfl .none rfl ?_
 refine JL.extract rfl rfl .none rfl ?_
 refine JL.alloc ze_42 .none rfl ?_
 intro b10
 refine JL.storeOwn 0 (cs := [.int .i64 y9.1.Low, .int .i64 y9.1.High]) az_42 rfl rfl rfl (one_cons rfl (one_cons rfl one_nil)) rfl rfl .none ?_
 refine JL.assign .none rfl ?_
 refine JL.done hQ ?_
 refine JQ.go ?_
 refine JC.seq ?_
 refine JC.region (by rfl) ?_
 intro hQ
 refine JL.loadOwn 1 az_34 rfl rfl rfl .none rfl ?_
 obtain ⟨y11, hy11, hF⟩ := bind_some hF
 refine JL.callS (c_counts_Stood n H6 y1 y1a_v0 (SL.mono R_Section_mono hs6 hy1a_0) y1a_v7 (SL.mono R_Span_mono hs6 hy1a_7) y1a_v8 (SL.mono RInt.mono hs6 hy1a_8) y1a_v9 (SL.mono R_Blow_mono hs6 hy1a_9) y1a_v10 (SL.mono R_Meter_mono hs6 hy1a_10) y11 hy11) rfl en_9 .none rfl ?_
 refine JL.move .none rfl ?_
 refine JL.extract rfl rfl .none rfl ?_
 refine JL.extract rfl rfl .none rfl ?_
 refine JL.assign .none rfl ?_
 refine JL.assign .none rfl ?_
 refine JL.done hQ ?_
 refine JQ.go ?_
 refine JC.fresh (fun f => f 0 = .bool false ∧ f 2 = y5a_v0 ∧ f 3 = .int .i64 y5.2 ∧ f 4 = .int .i64 y8.1 ∧ f 5 = .int .i64 y8.2 ∧ f 6 = .pointer (some ⟨b10, 0, none⟩) ∧ f 7 = .int .i64 y9.2 ∧ f 8 = .int .i64 y11.1 ∧ f 9 = .int .i64 y11.2) ⟨rfl, rfl, rfl, rfl, rfl, rfl, rfl, rfl, rfl⟩ ?_
 rintro f ⟨hf0, hf2, hf3, hf4, hf5, hf6, hf7, hf8, hf9⟩
 refine (JC.norm (i := 0) hf0 (JC.norm (i := 2) hf2 (JC.norm (i := 3) hf3 (JC.norm (i := 4) hf4 (JC.norm (i := 5) hf5 (JC.norm (i := 6) hf6 (JC.norm (i := 7) hf7 (JC.norm (i := 8) hf8 (JC.norm (i := 9) hf9 ?_)))))))))
 refine JC.seq ?_
 refine JC.region (by rfl) ?_
 intro hQ
 refine JL.move .none rfl ?_
 refine JL.bin rfl rfl rfl .none rfl ?_
 refine JL.move .none rfl ?_
 refine JL.cut 3 (fun f => f 2 = y5a_v0 ∧ f 4 = .int .i64 y8.1 ∧ f 6 = .pointer (some ⟨b10, 0, none⟩) ∧ f 7 = .int .i64 y9.2 ∧ f 8 = .int .i64 y11.1 ∧ f 9 = .int .i64 y11.2 ∧ f 36 = .bool ((y5.2 == 0) && (y8.2 == 0))) ?_ ?_
 ·intro hJ12
  rcases bcases (y5.2 == 0) with hc13 | hc13
  ·skip
   refine JL.move (.some rfl rfl rfl hc13) rfl ?_
   refine JL.bin rfl rfl rfl (.some rfl rfl rfl hc13) rfl ?_
   refine JL.pick_t (b := (y5.2 == 0)) rfl hc13 .none rfl ?_
   exact hJ12 _ ⟨rfl, rfl, rfl, rfl, rfl, rfl, and_t hc13 rfl⟩
  ·skip
   refine JL.skip (.bool rfl rfl rfl hc13) rfl ?_
   refine JL.skip (.bool rfl rfl rfl hc13) rfl ?_
   refine JL.pick_f (b := (y5.2 == 0)) rfl hc13 .none rfl ?_
   exact hJ12 _ ⟨rfl, rfl, rfl, rfl, rfl, rfl, and_f hc13 rfl⟩
 ·rintro f ⟨hf2, hf4, hf6, hf7, hf8, hf9, hf36⟩
  refine (JL.norm (i := 2) hf2 (JL.norm (i := 4) hf4 (JL.norm (i := 6) hf6 (JL.norm (i := 7) hf7 (JL.norm (i := 8) hf8 (JL.norm (i := 9) hf9 (JL.norm (i := 36) hf36 ?_)))))))
  refine JL.move .none rfl ?_
  refine JL.cut 3 (fun f => f 2 = y5a_v0 ∧ f 4 = .int .i64 y8.1 ∧ f 6 = .pointer (some ⟨b10, 0, none⟩) ∧ f 8 = .int .i64 y11.1 ∧ f 9 = .int .i64 y11.2 ∧ f 40 = .bool (((y5.2 == 0) && (y8.2 == 0)) && (y9.2 == 0))) ?_ ?_
  ·intro hJ14
   rcases bcases ((y5.2 == 0) && (y8.2 == 0)) with hc15 | hc15
   ·skip
    refine JL.move (.some rfl rfl rfl hc15) rfl ?_
    refine JL.bin rfl rfl rfl (.some rfl rfl rfl hc15) rfl ?_
    refine JL.pick_t (b := ((y5.2 == 0) && (y8.2 == 0))) rfl hc15 .none rfl ?_
    exact hJ14 _ ⟨rfl, rfl, rfl, rfl, rfl, and_t hc15 rfl⟩
   ·skip
    refine JL.skip (.bool rfl rfl rfl hc15) rfl ?_
    refine JL.skip (.bool rfl rfl rfl hc15) rfl ?_
    refine JL.pick_f (b := ((y5.2 == 0) && (y8.2 == 0))) rfl hc15 .none rfl ?_
    exact hJ14 _ ⟨rfl, rfl, rfl, rfl, rfl, and_f hc15 rfl⟩
  ·rintro f ⟨hf2, hf4, hf6, hf8, hf9, hf40⟩
   refine (JL.norm (i := 2) hf2 (JL.norm (i := 4) hf4 (JL.norm (i := 6) hf6 (JL.norm (i := 8) hf8 (JL.norm (i := 9) hf9 (JL.norm (i := 40) hf40 ?_))))))
   refine JL.move .none rfl ?_
   refine JL.cut 3 (fun f => f 2 = y5a_v0 ∧ f 4 = .int .i64 y8.1 ∧ f 6 = .pointer (some ⟨b10, 0, none⟩) ∧ f 8 = .int .i64 y11.1 ∧ f 44 = .bool ((((y5.2 == 0) && (y8.2 == 0)) && (y9.2 == 0)) && (y11.2 == 0))) ?_ ?_
   ·intro hJ16
    rcases bcases (((y5.2 == 0) && (y8.2 == 0)) && (y9.2 == 0)) with hc17 | hc17
    ·skip
     refine JL.move (.some rfl rfl rfl hc17) rfl ?_
     refine JL.bin rfl rfl rfl (.some rfl rfl rfl hc17) rfl ?_
     refine JL.pick_t (b := (((y5.2 == 0) && (y8.2 == 0)) && (y9.2 == 0))) rfl hc17 .none rfl ?_
     exact hJ16 _ ⟨rfl, rfl, rfl, rfl, and_t hc17 rfl⟩
    ·skip
     refine JL.skip (.bool rfl rfl rfl hc17) rfl ?_
     refine JL.skip (.bool rfl rfl rfl hc17) rfl ?_
     refine JL.pick_f (b := (((y5.2 == 0) && (y8.2 == 0)) && (y9.2 == 0))) rfl hc17 .none rfl ?_
     exact hJ16 _ ⟨rfl, rfl, rfl, rfl, and_f hc17 rfl⟩
   ·rintro f ⟨hf2, hf4, hf6, hf8, hf44⟩
    refine (JL.norm (i := 2) hf2 (JL.norm (i := 4) hf4 (JL.norm (i := 6) hf6 (JL.norm (i := 8) hf8 (JL.norm (i := 44) hf44 ?_)))))
    refine JL.move .none rfl ?_
    obtain ⟨p23, hp23, hF⟩ := bind_some hF
    refine JL.cutW 4 (fun H24 f bs gs => f 4 = .int .i64 y8.1 ∧ f 6 = .pointer (some ⟨b10, 0, none⟩) ∧ f 8 = .int .i64 y11.1 ∧ f 49 = .bool p23 ∧ bs = [(b10, .cells [.int .i64 y9.1.Low, .int .i64 y9.1.High].toArray 42)] ∧ gs = [] ∧ HSub H6 H24) ?_ ?_
    ·intro hJ25
     rcases ite_some hp23 with ⟨hc26, hF⟩ | ⟨hc26, hF⟩
     ·skip
      refine JL.move (.some rfl rfl rfl hc26) rfl ?_
      refine JL.buildSlice (e := 3) (l := [.int .i64 5, .int .i64 6]) (by kernel_rfl) (.some rfl rfl rfl hc26) rfl ?_
      intro b27
      refine JL.freezeC 0 (l := [.int .i64 5, .int .i64 6]) rfl ?_
      intro H28 hs28 hc29
      have hg30 : SL H28 1 RInt (.slice (some ⟨b27, 0, none⟩) 2 2) [5, 6] := CH.sl (l := [5, 6]) (CH.cons (cs := [.int .i64 5]) rfl rfl (CH.cons (cs := [.int .i64 6]) rfl rfl CH.nil)) hc29 ⟨by simp, by simp⟩
      obtain ⟨y31, hy31, hF⟩ := bind_some hF
      refine JL.callS (c_law13_sameInts n H28 y5.1 y5a_v0 (SL.mono RInt.mono hs28 hy5a_0) [5, 6] (.slice (some ⟨b27, 0, none⟩) 2 2) hg30 y31 hy31) rfl en_36 (.some rfl rfl rfl hc26) rfl ?_
      refine JL.pick_t (b := ((((y5.2 == 0) && (y8.2 == 0)) && (y9.2 == 0)) && (y11.2 == 0))) rfl hc26 .none rfl ?_
      obtain rfl := Option.some.inj hF
      refine JL.mask [true, false] [] ?_
      exact hJ25 _ _ _ _ ⟨rfl, rfl, rfl, rfl, rfl, rfl, hs28⟩
     ·skip
      refine JL.skip (.bool rfl rfl rfl hc26) rfl ?_
      refine JL.skip (.bool rfl rfl rfl hc26) rfl ?_
      refine JL.skip (.bool rfl rfl rfl hc26) rfl ?_
      refine JL.pick_f (b := ((((y5.2 == 0) && (y8.2 == 0)) && (y9.2 == 0)) && (y11.2 == 0))) rfl hc26 .none rfl ?_
      obtain rfl := Option.some.inj hF
      refine JL.mask [true, false] [] ?_
      exact hJ25 _ _ _ _ ⟨rfl, rfl, rfl, rfl, rfl, rfl, (HSub.refl _)⟩
    ·rintro H24 f bs gs ⟨hf4, hf6, hf8, hf49, rfl, rfl, hs24⟩
     refine (JL.norm (i := 4) hf4 (JL.norm (i := 6) hf6 (JL.norm (i := 8) hf8 (JL.norm (i := 49) hf49 ?_))))
     refine JL.move .none rfl ?_
     refine JL.cut 3 (fun f => f 6 = .pointer (some ⟨b10, 0, none⟩) ∧ f 8 = .int .i64 y11.1 ∧ f 53 = .bool (p23 && (y8.1 == 22))) ?_ ?_
     ·intro hJ32
      rcases bcases p23 with hc33 | hc33
      ·skip
       refine JL.move (.some rfl rfl rfl hc33) rfl ?_
       refine JL.bin rfl rfl rfl (.some rfl rfl rfl hc33) rfl ?_
       refine JL.pick_t (b := p23) rfl hc33 .none rfl ?_
       exact hJ32 _ ⟨rfl, rfl, and_t hc33 rfl⟩
      ·skip
       refine JL.skip (.bool rfl rfl rfl hc33) rfl ?_
       refine JL.skip (.bool rfl rfl rfl hc33) rfl ?_
       refine JL.pick_f (b := p23) rfl hc33 .none rfl ?_
       exact hJ32 _ ⟨rfl, rfl, and_f hc33 rfl⟩
     ·rintro f ⟨hf6, hf8, hf53⟩
      refine (JL.norm (i := 6) hf6 (JL.norm (i := 8) hf8 (JL.norm (i := 53) hf53 ?_)))
      refine JL.move .none rfl ?_
      refine JL.cut 4 (fun f => f 8 = .int .i64 y11.1 ∧ f 58 = .bool ((p23 && (y8.1 == 22)) && ((y9.1.Low == 0) && (y9.1.High == 2)))) ?_ ?_
      ·intro hJ34
       rcases bcases (p23 && (y8.1 == 22)) with hc35 | hc35
       ·skip
        refine JL.loadOwn 0 az_42 rfl rfl rfl (.some rfl rfl rfl hc35) rfl ?_
        refine JL.build (l := [.int .i64 0, .int .i64 2]) (by kernel_rfl) (.some rfl rfl rfl hc35) rfl ?_
        refine JL.eqAgg eqg_42 rfl rfl (fun w => eqa_42 y9.1.Low y9.1.High 0 2 w) (.some rfl rfl rfl hc35) rfl ?_
        refine JL.pick_t (b := (p23 && (y8.1 == 22))) rfl hc35 .none rfl ?_
        exact hJ34 _ ⟨rfl, and_t hc35 rfl⟩
       ·skip
        refine JL.skip (.bool rfl rfl rfl hc35) rfl ?_
        refine JL.skip (.bool rfl rfl rfl hc35) rfl ?_
        refine JL.skip (.bool rfl rfl rfl hc35) rfl ?_
        refine JL.pick_f (b := (p23 && (y8.1 == 22))) rfl hc35 .none rfl ?_
        exact hJ34 _ ⟨rfl, and_f hc35 rfl⟩
      ·rintro f ⟨hf8, hf58⟩
       refine (JL.norm (i := 8) hf8 (JL.norm (i := 58) hf58 ?_))
       refine JL.move .none rfl ?_
       refine JL.cut 3 (fun f => f 62 = .bool (((p23 && (y8.1 == 22)) && ((y9.1.Low == 0) && (y9.1.High == 2))) && (y11.1 == 3))) ?_ ?_
       ·intro hJ36
        rcases bcases ((p23 && (y8.1 == 22)) && ((y9.1.Low == 0) && (y9.1.High == 2))) with hc37 | hc37
        ·skip
         refine JL.move (.some rfl rfl rfl hc37) rfl ?_
         refine JL.bin rfl rfl rfl (.some rfl rfl rfl hc37) rfl ?_
         refine JL.pick_t (b := ((p23 && (y8.1 == 22)) && ((y9.1.Low == 0) && (y9.1.High == 2)))) rfl hc37 .none rfl ?_
         exact hJ36 _ (and_t hc37 rfl)
        ·skip
         refine JL.skip (.bool rfl rfl rfl hc37) rfl ?_
         refine JL.skip (.bool rfl rfl rfl hc37) rfl ?_
         refine JL.pick_f (b := ((p23 && (y8.1 == 22)) && ((y9.1.Low == 0) && (y9.1.High == 2)))) rfl hc37 .none rfl ?_
         exact hJ36 _ (and_f hc37 rfl)
       ·rintro f hf62
        refine (JL.norm (i := 62) hf62 ?_)
        refine JL.assign .none rfl ?_
        refine JL.done hQ ?_
        refine JQ.go ?_
        refine JC.ret ?_
        obtain rfl := Option.some.inj hF
        exact JQ.outS rfl (.tmp .nil) rfl
-- 55 ferrule/counts.Reads$1
def F_counts_Reads_1 (n : Nat) (a0 : Blow) (force : Int) (c_0 : Int) : Option Bool :=
 some (decide (c_0 ≤ force))
set_option maxRecDepth 100000 in
set_option maxHeartbeats 40000000 in
theorem c_counts_Reads_1 (n : Nat) (H : Hp) (a0 : Blow) (force : Int) (c_0 : Int) (c_0_b : Nat) (c_0_c : Cells H c_0_b 0 [.int .i64 c_0]) (y : Bool) (hF : F_counts_Reads_1 n a0 force c_0 = some y) : SC Tryz.prog 55 [.agg [.int .i64 a0.At, .int .i64 a0.Force.Low, .int .i64 a0.Force.High].toArray, .int .i64 force, .pointer (some ⟨c_0_b, 0, none⟩)] (.bool y) H := by
 rw [F_counts_Reads_1] at hF
 refine SC.of (N := 9) Tryz.func55 rfl rfl rfl fun w => ?_
 refine JC.seq ?_
 refine JC.region (by rfl) ?_
 intro hQ
 refine JL.box (cs := [.int .i64 a0.At, .int .i64 a0.Force.Low, .int .i64 a0.Force.High]) rfl .none rfl ?_
 intro b1
 refine JL.assign .none rfl ?_
 refine JL.done hQ ?_
 refine JQ.go ?_
 refine JC.seq ?_
 refine JC.region (by rfl) ?_
 intro hQ
 refine JL.move .none rfl ?_
 refine JL.loadH 0 az_3 rfl c_0_c rfl .none rfl ?_
 refine JL.bin rfl rfl rfl .none rfl ?_
 refine JL.assign .none rfl ?_
 refine JL.done hQ ?_
 refine JQ.go ?_
 refine JC.ret ?_
 obtain rfl := Option.some.inj hF
 exact JQ.outS rfl (.tmp .nil) rfl
end Go.Proofs.YtcipdblhopffbaaGreat
end
section
namespace Go.Proofs.YtcipdblhopffbaaGreat
open Go Go.RowKit Go.Dec
set_option linter.unusedVariables false
-- 18 ferrule/counts.Reads
noncomputable def F_counts_Reads (n : Nat) (r : Run) (limit : Int) : Option (Span × Int) :=
 (F_counts_within n limit 0 99).bind fun y5 => (F_counts_bounds n r y5 (fun a0_ a1_ => F_counts_Reads_1 n a0_ a1_ limit)).bind fun y8 => some (y8.1, y8.2)
set_option maxRecDepth 100000 in
set_option maxHeartbeats 40000000 in
theorem c_counts_Reads (n : Nat) (H : Hp) (r : Run) (r_v0 : Value) (hr_0 : SL H 7 R_Section r_v0 r.Canopy.Frame.Sections) (r_v7 : Value) (hr_7 : SL H 2 R_Span r_v7 r.Canopy.Ribs) (r_v8 : Value) (hr_8 : SL H 1 RInt r_v8 r.Canopy.Shares) (r_v9 : Value) (hr_9 : SL H 3 R_Blow r_v9 r.Blows) (r_v10 : Value) (hr_10 : SL H 2 R_Meter r_v10 r.Meters) (limit : Int) (y : Span × Int) (hF : F_counts_Reads n r limit = some y) : SC Tryz.prog 18 [.agg [r_v0, .int .i64 r.Canopy.Frame.Low, .int .i64 r.Canopy.Frame.High, .int .i64 r.Canopy.Frame.Ease.Num, .int .i64 r.Canopy.Frame.Ease.Den, .int .i64 r.Canopy.Frame.Rod, .int .i64 r.Canopy.Frame.Case, r_v7, r_v8, r_v9, r_v10, .int .i64 r.Wrong].toArray, .int .i64 limit] (.tuple [.agg [.int .i64 y.1.Low, .int .i64 y.1.High].toArray, .int .i64 y.2].toArray) H := by
 rw [F_counts_Reads] at hF
 refine SC.of (N := 13) Tryz.func18 rfl rfl rfl fun w => ?_
 refine JC.seq ?_
 refine JC.region (by rfl) ?_
 intro hQ
 refine JL.box (cs := [r_v0, .int .i64 r.Canopy.Frame.Low, .int .i64 r.Canopy.Frame.High, .int .i64 r.Canopy.Frame.Ease.Num, .int .i64 r.Canopy.Frame.Ease.Den, .int .i64 r.Canopy.Frame.Rod, .int .i64 r.Canopy.Frame.Case, r_v7, r_v8, r_v9, r_v10, .int .i64 r.Wrong]) rfl .none rfl ?_
 intro b1
 refine JL.box (cs := [.int .i64 limit]) rfl .none rfl ?_
 intro b2
 refine JL.alloc ze_42 .none rfl ?_
 intro b3
 refine JL.assign .none rfl ?_
 refine JL.done hQ ?_
 refine JQ.go ?_
 refine JC.seq ?_
 obtain ⟨y5, hy5, hF⟩ := bind_some hF
 obtain ⟨y8, hy8, hF⟩ := bind_some hF
 refine JC.mixed 9 9 #[false, false, false, false, false, false, false, false, false] [(b1, .cells [r_v0, .int .i64 r.Canopy.Frame.Low, .int .i64 r.Canopy.Frame.High, .int .i64 r.Canopy.Frame.Ease.Num, .int .i64 r.Canopy.Frame.Ease.Den, .int .i64 r.Canopy.Frame.Rod, .int .i64 r.Canopy.Frame.Case, r_v7, r_v8, r_v9, r_v10, .int .i64 r.Wrong].toArray 34)] (by rfl) mo_ (by kernel_rfl) (by kernel_rfl) ?_
 intro hQ hE
 refine JA.take 0 (listed' := #[true, false, false, false, false, false, false, false, false]) hQ rfl (by kernel_rfl) (by kernel_rfl) (by kernel_rfl) (by kernel_rfl) (by kernel_rfl) hE (HSub.refl _) (.cons _ (.cons _ (.cons_cons _ (List.nil_sublist _)))) ?_
 refine JL.loadOwn 0 az_34 rfl rfl rfl .none rfl ?_
 refine JA.cont ?_
 refine JA.take 3 (listed' := #[true, false, false, true, false, false, false, false, false]) hQ rfl (by kernel_rfl) (by kernel_rfl) (by kernel_rfl) (by kernel_rfl) (by kernel_rfl) hE (HSub.refl _) (.cons _ (.cons _ (.cons_cons _ (List.nil_sublist _)))) ?_
 refine JL.makeFunc .none rfl ?_
 refine JA.cont ?_
 refine JA.many [1] (by kernel_rfl) (by simp) (all_one ⟨_, #[true, true, false, true, false, false, false, false, false], rfl, (by kernel_rfl), ?_⟩)
 refine JL.loadOwn 1 az_3 rfl rfl rfl .none rfl ?_
 refine JA.after hE (HSub.refl _) (.cons _ (.cons _ (.cons_cons _ (List.nil_sublist _)))) ?_
 refine JA.many [2] (by kernel_rfl) (by simp) (all_one ⟨_, #[true, true, true, true, false, false, false, false, false], rfl, (by kernel_rfl), ?_⟩)
 refine JL.callS (c_counts_within n H limit 0 99 y5 hy5) rfl en_54 .none rfl ?_
 refine JA.after hE (HSub.refl _) (.cons _ (.cons _ (.cons_cons _ (List.nil_sublist _)))) ?_
 refine JA.many [4] (by kernel_rfl) (by simp) (all_one ⟨_, #[true, true, true, true, true, false, false, false, false], rfl, (by kernel_rfl), ?_⟩)
 refine JL.freezeC 1 (l := [.int .i64 limit]) rfl ?_
 intro H17 hs17 hc18
 refine JL.callS (c_counts_bounds n H17 r r_v0 (SL.mono R_Section_mono hs17 hr_0) r_v7 (SL.mono R_Span_mono hs17 hr_7) r_v8 (SL.mono RInt.mono hs17 hr_8) r_v9 (SL.mono R_Blow_mono hs17 hr_9) r_v10 (SL.mono R_Meter_mono hs17 hr_10) y5 (fun a0_ a1_ => F_counts_Reads_1 n a0_ a1_ limit) 55 [.pointer (some ⟨b2, 0, none⟩)] en_55 (fun H' hs' a0_ a1_ y' hy' => c_counts_Reads_1 n H' a0_ a1_ limit b2 (Cells.mono hs' hc18) y' hy') y8 hy8) rfl en_41 .none rfl ?_
 refine JA.after hE hs17 (.cons _ (.cons_cons _ (List.nil_sublist _))) ?_
 refine JA.take 5 (listed' := #[true, true, true, true, true, true, false, false, false]) hQ rfl (by kernel_rfl) (by kernel_rfl) (by kernel_rfl) (by kernel_rfl) (by kernel_rfl) hE hs17 (.cons _ (.cons_cons _ (List.nil_sublist _))) ?_
 refine JL.extract rfl rfl .none rfl ?_
 refine JA.cont ?_
 refine JA.take 6 (listed' := #[true, true, true, true, true, true, true, false, false]) hQ rfl (by kernel_rfl) (by kernel_rfl) (by kernel_rfl) (by kernel_rfl) (by kernel_rfl) hE hs17 (.cons _ (.cons_cons _ (List.nil_sublist _))) ?_
 refine JL.extract rfl rfl .none rfl ?_
 refine JA.cont ?_
 refine JA.many [7] (by kernel_rfl) (by simp) (all_one ⟨_, #[true, true, true, true, true, true, true, true, false], rfl, (by kernel_rfl), ?_⟩)
 refine JL.storeOwn 0 (cs := [.int .i64 y8.1.Low, .int .i64 y8.1.High]) az_42 rfl rfl rfl (one_cons rfl (one_cons rfl one_nil)) rfl rfl .none ?_
 refine JA.after hE hs17 (.cons _ (.cons_cons _ (List.nil_sublist _))) ?_
 refine JA.take 8 (listed' := #[true, true, true, true, true, true, true, true, true]) hQ rfl (by kernel_rfl) (by kernel_rfl) (by kernel_rfl) (by kernel_rfl) (by kernel_rfl) hE hs17 (.cons _ (.cons_cons _ (List.nil_sublist _))) ?_
 refine JL.assign .none rfl ?_
 refine JA.cont ?_
 refine JA.done hQ (by kernel_rfl) ?_
 refine JQ.go ?_
 refine JC.ret ?_
 obtain rfl := Option.some.inj hF
 exact JQ.outS rfl (.cell 0 az_42 rfl rfl rfl (.tmp .nil)) rfl
-- 81 ferrule/ferruleref01.Reduced
def F_ref01_Reduced_s1 (n : Nat)  : Int × Int → Option ((Int × Int) ⊕ Int)
 | (a_37, b_38) => if (b_38 != 0) = true then ((nz b_38).bind fun _ => some (Sum.inl (b_38, (a_37.tmod b_38)))) else (some (Sum.inr a_37))
def F_ref01_Reduced (n : Nat) (num : Int) (den : Int) : Option Frac :=
 (loopO n (F_ref01_Reduced_s1 n) ((max num (w64 (-num))), den)).bind fun a_22 => (nz a_22).bind fun _ => (nz a_22).bind fun _ => some (Frac.mk (w64 (num.tdiv a_22)) (w64 (den.tdiv a_22)))
set_option maxRecDepth 100000 in
set_option maxHeartbeats 40000000 in
theorem c_ref01_Reduced (n : Nat) (H : Hp) (num : Int) (den : Int) (y : Frac) (hF : F_ref01_Reduced n num den = some y) : SC Tryz.prog 81 [.int .i64 num, .int .i64 den] (.agg [.int .i64 y.Num, .int .i64 y.Den].toArray) H := by
 rw [F_ref01_Reduced] at hF
 refine SC.of (N := 25) Tryz.func81 rfl rfl rfl fun w => ?_
 refine JC.seq ?_
 refine JC.region (by rfl) ?_
 intro hQ
 refine JL.alloc ze_24 .none rfl ?_
 intro b1
 refine JL.done hQ ?_
 refine JQ.go ?_
 refine JC.seq ?_
 refine JC.region (by rfl) ?_
 intro hQ
 refine JL.move .none rfl ?_
 refine JL.move .none rfl ?_
 refine JL.neg rfl .none rfl ?_
 refine JL.max rfl rfl .none rfl ?_
 refine JL.move .none rfl ?_
 refine JL.assign .none rfl ?_
 refine JL.assign .none rfl ?_
 refine JL.done hQ ?_
 refine JQ.go ?_
 refine JC.seq ?_
 obtain ⟨r24, hlr24, hKr24⟩ := bind_some hF
 refine JC.join (fun (a_22 : Int) H23 f bs gs => f 0 = .int .i64 num ∧ f 1 = .int .i64 den ∧ f 4 = .pointer (some ⟨b1, 0, none⟩) ∧ f 5 = .int .i64 a_22 ∧ bs = [(b1, .cells [.int .i64 0, .int .i64 0].toArray 24)] ∧ gs = [] ∧ HSub H H23 ∧ a_22 = r24) ?_ ?_
 ·skip
  refine JC.block ?_
  refine JC.loop hlr24 (fun (x : Int × Int) H39 f bs gs => match x with | (a_37, b_38) => f 0 = .int .i64 num ∧ f 1 = .int .i64 den ∧ f 4 = .pointer (some ⟨b1, 0, none⟩) ∧ f 5 = .int .i64 a_37 ∧ f 6 = .int .i64 b_38 ∧ bs = [(b1, .cells [.int .i64 0, .int .i64 0].toArray 24)] ∧ gs = [] ∧ HSub H H39) ⟨rfl, rfl, rfl, rfl, rfl, rfl, rfl, (HSub.refl _)⟩ ?_
  rintro ⟨a_37, b_38⟩ x41 H39 f bs gs ⟨hf0, hf1, hf4, hf5, hf6, rfl, rfl, hs39⟩ hF hr40
  rw [F_ref01_Reduced_s1] at hF
  refine (JC.norm (i := 0) hf0 (JC.norm (i := 1) hf1 (JC.norm (i := 4) hf4 (JC.norm (i := 5) hf5 (JC.norm (i := 6) hf6 ?_)))))
  refine JC.seq ?_
  refine JC.seq ?_
  refine JC.region (by rfl) ?_
  intro hQ
  refine JL.move .none rfl ?_
  refine JL.bin rfl rfl rfl .none rfl ?_
  refine JL.done hQ ?_
  refine JQ.go ?_
  rcases ite_some hF with ⟨hc42, hF⟩ | ⟨hc42, hF⟩
  ·refine JC.cond_t (b := (b_38 != 0)) rfl hc42 ?_
   refine JC.skip ?_
   refine JQ.go ?_
   refine JC.block ?_
   refine JC.draw (by rfl) mo_ (by kernel_rfl) ?_
   intro hQ
   refine JL.move .none rfl ?_
   refine JL.move .none rfl ?_
   refine JL.move .none rfl ?_
   obtain ⟨u44, hu44, hF⟩ := bind_some hF
   refine JL.div rfl rfl (nz_some hu44) rfl .none rfl ?_
   refine JL.assign .none rfl ?_
   refine JL.assign .none rfl ?_
   refine JL.doneQ hQ ?_
   refine JQ.normal_block ?_
   obtain rfl := Option.some.inj hF
   exact JQ.next rfl ⟨rfl, rfl, rfl, rfl, rfl, rfl, rfl, hs39⟩
  ·refine JC.cond_f (b := (b_38 != 0)) rfl hc42 ?_
   refine JC.exit ?_
   refine JQ.exit_then ?_
   refine JQ.exit_then ?_
   refine JQ.exit_block ?_
   obtain rfl := Option.some.inj hF
   have ehr40 := hr40 _ rfl
   subst ehr40
   exact JQ.join a_37 ⟨rfl, rfl, rfl, rfl, rfl, rfl, hs39, rfl⟩
 ·rintro a_22 H23 f bs gs ⟨hf0, hf1, hf4, hf5, rfl, rfl, hs23, rfl⟩
  have hF := hKr24
  try dsimp only at hF
  refine (JQ.norm (i := 0) hf0 (JQ.norm (i := 1) hf1 (JQ.norm (i := 4) hf4 (JQ.norm (i := 5) hf5 ?_))))
  refine JQ.go ?_
  refine JC.seq ?_
  obtain ⟨u47, hu47, hF⟩ := bind_some hF
  obtain ⟨u48, hu48, hF⟩ := bind_some hF
  refine JC.mixed 7 8 #[false, false, false, false, false, false, false, false] [(b1, .cells [.int .i64 0, .int .i64 0].toArray 24)] (by rfl) mo_ (by kernel_rfl) (by kernel_rfl) ?_
  intro hQ hE
  refine JA.take 0 (listed' := #[true, false, false, false, false, false, false, false]) hQ rfl (by kernel_rfl) (by kernel_rfl) (by kernel_rfl) (by kernel_rfl) (by kernel_rfl) hE (HSub.refl _) (.cons_cons _ (List.nil_sublist _)) ?_
  refine JL.move .none rfl ?_
  refine JA.cont ?_
  refine JA.take 1 (listed' := #[true, true, false, false, false, false, false, false]) hQ rfl (by kernel_rfl) (by kernel_rfl) (by kernel_rfl) (by kernel_rfl) (by kernel_rfl) hE (HSub.refl _) (.cons_cons _ (List.nil_sublist _)) ?_
  refine JL.move .none rfl ?_
  refine JA.cont ?_
  refine JA.take 2 (listed' := #[true, true, true, false, false, false, false, false]) hQ rfl (by kernel_rfl) (by kernel_rfl) (by kernel_rfl) (by kernel_rfl) (by kernel_rfl) hE (HSub.refl _) (.cons_cons _ (List.nil_sublist _)) ?_
  refine JL.div rfl rfl (nz_some hu47) rfl .none rfl ?_
  refine JA.cont ?_
  refine JA.take 3 (listed' := #[true, true, true, true, false, false, false, false]) hQ rfl (by kernel_rfl) (by kernel_rfl) (by kernel_rfl) (by kernel_rfl) (by kernel_rfl) hE (HSub.refl _) (.cons_cons _ (List.nil_sublist _)) ?_
  refine JL.move .none rfl ?_
  refine JA.cont ?_
  refine JA.take 4 (listed' := #[true, true, true, true, true, false, false, false]) hQ rfl (by kernel_rfl) (by kernel_rfl) (by kernel_rfl) (by kernel_rfl) (by kernel_rfl) hE (HSub.refl _) (.cons_cons _ (List.nil_sublist _)) ?_
  refine JL.move .none rfl ?_
  refine JA.cont ?_
  refine JA.take 5 (listed' := #[true, true, true, true, true, true, false, false]) hQ rfl (by kernel_rfl) (by kernel_rfl) (by kernel_rfl) (by kernel_rfl) (by kernel_rfl) hE (HSub.refl _) (.cons_cons _ (List.nil_sublist _)) ?_
  refine JL.div rfl rfl (nz_some hu48) rfl .none rfl ?_
  refine JA.cont ?_
  refine JA.take 6 (listed' := #[true, true, true, true, true, true, true, false]) hQ rfl (by kernel_rfl) (by kernel_rfl) (by kernel_rfl) (by kernel_rfl) (by kernel_rfl) hE (HSub.refl _) (.cons_cons _ (List.nil_sublist _)) ?_
  refine JL.build (l := [.int .i64 (w64 (num.tdiv a_22)), .int .i64 (w64 (den.tdiv a_22))]) (by kernel_rfl) .none rfl ?_
  refine JA.cont ?_
  refine JA.many [7] (by kernel_rfl) (by simp) (all_one ⟨_, #[true, true, true, true, true, true, true, true], rfl, (by kernel_rfl), ?_⟩)
  refine JL.storeOwn 0 (cs := [.int .i64 (w64 (num.tdiv a_22)), .int .i64 (w64 (den.tdiv a_22))]) az_24 rfl rfl rfl (one_cons rfl (one_cons rfl one_nil)) rfl rfl .none ?_
  refine JA.sink (by kernel_rfl) ?_
  refine JA.done hQ (by kernel_rfl) ?_
  refine JQ.go ?_
  refine JC.ret ?_
  obtain rfl := Option.some.inj hF
  exact JQ.outS rfl (.cell 0 az_24 rfl rfl rfl .nil) rfl
-- 56 ferrule/ferruleref01.CosineOf
def F_ref01_CosineOf (n : Nat) (d : Int) (p : ref01_Pair) : Option (Frac × Bool) :=
 if (d == 0) = true then (some ((Frac.mk 0 0), false)) else ((F_ref01_Reduced n (w64 ((w64 ((w64 (d * d)) + (w64 (p.Arm * p.Arm)))) - (w64 (p.Stretch * p.Stretch)))) (w64 ((w64 (2 * d)) * p.Arm))).bind fun y4 => some (y4, true))
set_option maxRecDepth 100000 in
set_option maxHeartbeats 40000000 in
theorem c_ref01_CosineOf (n : Nat) (H : Hp) (d : Int) (p : ref01_Pair) (y : Frac × Bool) (hF : F_ref01_CosineOf n d p = some y) : SC Tryz.prog 56 [.int .i64 d, .agg [.int .i64 p.Arm, .int .i64 p.Stretch].toArray] (.tuple [.agg [.int .i64 y.1.Num, .int .i64 y.1.Den].toArray, .bool y.2].toArray) H := by
 rw [F_ref01_CosineOf] at hF
 refine SC.of (N := 30) Tryz.func56 rfl rfl rfl fun w => ?_
 refine JC.seq ?_
 refine JC.region (by rfl) ?_
 intro hQ
 refine JL.box (cs := [.int .i64 p.Arm, .int .i64 p.Stretch]) rfl .none rfl ?_
 intro b1
 refine JL.alloc ze_24 .none rfl ?_
 intro b2
 refine JL.assign .none rfl ?_
 refine JL.done hQ ?_
 refine JQ.go ?_
 refine JC.seq ?_
 refine JC.seq ?_
 refine JC.region (by rfl) ?_
 intro hQ
 refine JL.move .none rfl ?_
 refine JL.bin rfl rfl rfl .none rfl ?_
 refine JL.done hQ ?_
 refine JQ.go ?_
 rcases ite_some hF with ⟨hc3, hF⟩ | ⟨hc3, hF⟩
 ·refine JC.cond_t (b := (d == 0)) rfl hc3 ?_
  refine JC.seq ?_
  refine JC.region (by rfl) ?_
  intro hQ
  refine JL.build (l := [.int .i64 0, .int .i64 0]) (by kernel_rfl) .none rfl ?_
  refine JL.storeOwn 0 (cs := [.int .i64 0, .int .i64 0]) az_24 rfl rfl rfl (one_cons rfl (one_cons rfl one_nil)) rfl rfl .none ?_
  refine JL.assign .none rfl ?_
  refine JL.done hQ ?_
  refine JQ.go ?_
  refine JC.ret ?_
  refine JQ.ret_then ?_
  obtain rfl := Option.some.inj hF
  exact JQ.outS rfl (.cell 0 az_24 rfl rfl rfl (.tmp .nil)) rfl
 ·refine JC.cond_f (b := (d == 0)) rfl hc3 ?_
  refine JC.skip ?_
  refine JQ.go ?_
  refine JC.seq ?_
  refine JC.region (by rfl) ?_
  intro hQ
  refine JL.move .none rfl ?_
  refine JL.move .none rfl ?_
  refine JL.bin rfl rfl rfl .none rfl ?_
  refine JL.fieldAddr fo_50_0 rfl .none rfl ?_
  refine JL.loadOwn 1 az_3 rfl rfl rfl .none rfl ?_
  refine JL.fieldAddr fo_50_0 rfl .none rfl ?_
  refine JL.loadOwn 1 az_3 rfl rfl rfl .none rfl ?_
  refine JL.bin rfl rfl rfl .none rfl ?_
  refine JL.bin rfl rfl rfl .none rfl ?_
  refine JL.fieldAddr fo_50_1 rfl .none rfl ?_
  refine JL.loadOwn 1 az_3 rfl rfl rfl .none rfl ?_
  refine JL.fieldAddr fo_50_1 rfl .none rfl ?_
  refine JL.loadOwn 1 az_3 rfl rfl rfl .none rfl ?_
  refine JL.bin rfl rfl rfl .none rfl ?_
  refine JL.bin rfl rfl rfl .none rfl ?_
  refine JL.move .none rfl ?_
  refine JL.bin rfl rfl rfl .none rfl ?_
  refine JL.fieldAddr fo_50_0 rfl .none rfl ?_
  refine JL.loadOwn 1 az_3 rfl rfl rfl .none rfl ?_
  refine JL.bin rfl rfl rfl .none rfl ?_
  obtain ⟨y4, hy4, hF⟩ := bind_some hF
  refine JL.callS (c_ref01_Reduced n H (w64 ((w64 ((w64 (d * d)) + (w64 (p.Arm * p.Arm)))) - (w64 (p.Stretch * p.Stretch)))) (w64 ((w64 (2 * d)) * p.Arm)) y4 hy4) rfl en_81 .none rfl ?_
  refine JL.storeOwn 0 (cs := [.int .i64 y4.Num, .int .i64 y4.Den]) az_24 rfl rfl rfl (one_cons rfl (one_cons rfl one_nil)) rfl rfl .none ?_
  refine JL.assign .none rfl ?_
  refine JL.done hQ ?_
  refine JQ.go ?_
  refine JC.fresh (fun f => f 4 = .pointer (some ⟨b2, 0, none⟩) ∧ f 5 = .bool true) ⟨rfl, rfl⟩ ?_
  rintro f ⟨hf4, hf5⟩
  refine (JC.norm (i := 4) hf4 (JC.norm (i := 5) hf5 ?_))
  refine JC.ret ?_
  obtain rfl := Option.some.inj hF
  exact JQ.outS rfl (.cell 0 az_24 rfl rfl rfl (.tmp .nil)) rfl
-- 19 ferrule/ferruleref05.LiftOf
def F_ref05_LiftOf (n : Nat) (d : Canopy) (p : ref01_Pair) : Option Int :=
 (F_ref01_CosineOf n d.Frame.Low p).bind fun y3 => (nz y3.1.Den).bind fun _ => (nz y3.1.Den).bind fun _ => (if decide (((w64 (100 * y3.1.Num)).tmod y3.1.Den) < 0) = true then (some (w64 ((w64 ((w64 (100 * y3.1.Num)).tdiv y3.1.Den)) - 1))) else (some (w64 ((w64 (100 * y3.1.Num)).tdiv y3.1.Den)))).bind fun part_8 => some (min 200 (max 0 (w64 (100 + part_8))))
set_option maxRecDepth 100000 in
set_option maxHeartbeats 40000000 in
theorem c_ref05_LiftOf (n : Nat) (H : Hp) (d : Canopy) (d_v0 : Value) (hd_0 : SL H 7 R_Section d_v0 d.Frame.Sections) (d_v7 : Value) (hd_7 : SL H 2 R_Span d_v7 d.Ribs) (d_v8 : Value) (hd_8 : SL H 1 RInt d_v8 d.Shares) (p : ref01_Pair) (y : Int) (hF : F_ref05_LiftOf n d p = some y) : SC Tryz.prog 19 [.agg [d_v0, .int .i64 d.Frame.Low, .int .i64 d.Frame.High, .int .i64 d.Frame.Ease.Num, .int .i64 d.Frame.Ease.Den, .int .i64 d.Frame.Rod, .int .i64 d.Frame.Case, d_v7, d_v8].toArray, .agg [.int .i64 p.Arm, .int .i64 p.Stretch].toArray] (.int .i64 y) H := by
 rw [F_ref05_LiftOf] at hF
 refine SC.of (N := 35) Tryz.func19 rfl rfl rfl fun w => ?_
 refine JC.seq ?_
 refine JC.region (by rfl) ?_
 intro hQ
 refine JL.box (cs := [d_v0, .int .i64 d.Frame.Low, .int .i64 d.Frame.High, .int .i64 d.Frame.Ease.Num, .int .i64 d.Frame.Ease.Den, .int .i64 d.Frame.Rod, .int .i64 d.Frame.Case, d_v7, d_v8]) rfl .none rfl ?_
 intro b1
 refine JL.box (cs := [.int .i64 p.Arm, .int .i64 p.Stretch]) rfl .none rfl ?_
 intro b2
 refine JL.assign .none rfl ?_
 refine JL.done hQ ?_
 refine JQ.go ?_
 refine JC.seq ?_
 refine JC.region (by rfl) ?_
 intro hQ
 refine JL.fieldAddr fo_30_0 rfl .none rfl ?_
 refine JL.fieldAddr fo_26_1 rfl .none rfl ?_
 refine JL.loadOwn 1 az_3 rfl rfl rfl .none rfl ?_
 refine JL.loadOwn 0 az_50 rfl rfl rfl .none rfl ?_
 obtain ⟨y3, hy3, hF⟩ := bind_some hF
 refine JL.callS (c_ref01_CosineOf n H d.Frame.Low p y3 hy3) rfl en_56 .none rfl ?_
 refine JL.move .none rfl ?_
 refine JL.extract rfl rfl .none rfl ?_
 refine JL.extract rfl rfl .none rfl ?_
 refine JL.alloc ze_24 .none rfl ?_
 intro b4
 refine JL.storeOwn 0 (cs := [.int .i64 y3.1.Num, .int .i64 y3.1.Den]) az_24 rfl rfl rfl (one_cons rfl (one_cons rfl one_nil)) rfl rfl .none ?_
 refine JL.assign .none rfl ?_
 refine JL.done hQ ?_
 refine JQ.go ?_
 refine JC.fresh (fun f => f 4 = .int .i64 0 ∧ f 5 = .pointer (some ⟨b4, 0, none⟩)) ⟨rfl, rfl⟩ ?_
 rintro f ⟨hf4, hf5⟩
 refine (JC.norm (i := 4) hf4 (JC.norm (i := 5) hf5 ?_))
 refine JC.seq ?_
 refine JC.region (by rfl) ?_
 intro hQ
 refine JL.fieldAddr fo_24_0 rfl .none rfl ?_
 refine JL.loadOwn 0 az_3 rfl rfl rfl .none rfl ?_
 refine JL.bin rfl rfl rfl .none rfl ?_
 refine JL.assign .none rfl ?_
 refine JL.done hQ ?_
 refine JQ.go ?_
 refine JC.seq ?_
 refine JC.region (by rfl) ?_
 intro hQ
 refine JL.move .none rfl ?_
 refine JL.fieldAddr fo_24_1 rfl .none rfl ?_
 refine JL.loadOwn 0 az_3 rfl rfl rfl .none rfl ?_
 obtain ⟨u5, hu5, hF⟩ := bind_some hF
 refine JL.div rfl rfl (nz_some hu5) rfl .none rfl ?_
 refine JL.assign .none rfl ?_
 refine JL.done hQ ?_
 refine JQ.go ?_
 refine JC.seq ?_
 refine JC.seq ?_
 refine JC.region (by rfl) ?_
 intro hQ
 refine JL.move .none rfl ?_
 refine JL.fieldAddr fo_24_1 rfl .none rfl ?_
 refine JL.loadOwn 0 az_3 rfl rfl rfl .none rfl ?_
 obtain ⟨u6, hu6, hF⟩ := bind_some hF
 refine JL.div rfl rfl (nz_some hu6) rfl .none rfl ?_
 refine JL.bin rfl rfl rfl .none rfl ?_
 refine JL.done hQ ?_
 refine JQ.go ?_
 refine JC.fresh (fun f => f 4 = .int .i64 0 ∧ f 8 = .int .i64 (w64 ((w64 (100 * y3.1.Num)).tdiv y3.1.Den)) ∧ f 28 = .bool (decide (((w64 (100 * y3.1.Num)).tmod y3.1.Den) < 0))) ⟨rfl, rfl, rfl⟩ ?_
 rintro f ⟨hf4, hf8, hf28⟩
 refine (JC.norm (i := 4) hf4 (JC.norm (i := 8) hf8 (JC.norm (i := 28) hf28 ?_)))
 obtain ⟨r10, hlr10, hKr10⟩ := bind_some hF
 refine JC.join (fun (part_8 : Int) H9 f bs gs => f 8 = .int .i64 part_8 ∧ bs = [] ∧ gs = [] ∧ HSub H H9 ∧ part_8 = r10) ?_ ?_
 ·have hF := hlr10
  rcases ite_some hF with ⟨hc11, hF⟩ | ⟨hc11, hF⟩
  ·refine JC.cond_t (b := decide (((w64 (100 * y3.1.Num)).tmod y3.1.Den) < 0)) rfl hc11 ?_
   refine JC.region (by rfl) ?_
   intro hQ
   refine JL.move .none rfl ?_
   refine JL.bin rfl rfl rfl .none rfl ?_
   refine JL.assign .none rfl ?_
   refine JL.done hQ ?_
   obtain rfl := Option.some.inj hF
   refine JQ.mask [false, false, false] [] ?_
   exact JQ.join (w64 ((w64 ((w64 (100 * y3.1.Num)).tdiv y3.1.Den)) - 1)) ⟨rfl, rfl, rfl, (HSub.refl _), rfl⟩
  ·refine JC.cond_f (b := decide (((w64 (100 * y3.1.Num)).tmod y3.1.Den) < 0)) rfl hc11 ?_
   refine JC.skip ?_
   obtain rfl := Option.some.inj hF
   refine JQ.mask [false, false, false] [] ?_
   exact JQ.join (w64 ((w64 (100 * y3.1.Num)).tdiv y3.1.Den)) ⟨rfl, rfl, rfl, (HSub.refl _), rfl⟩
 ·rintro part_8 H9 f bs gs ⟨hf8, rfl, rfl, hs9, rfl⟩
  have hF := hKr10
  try dsimp only at hF
  refine (JQ.norm (i := 8) hf8 ?_)
  refine JQ.go ?_
  refine JC.seq ?_
  refine JC.region (by rfl) ?_
  intro hQ
  refine JL.move .none rfl ?_
  refine JL.bin rfl rfl rfl .none rfl ?_
  refine JL.max rfl rfl .none rfl ?_
  refine JL.min rfl rfl .none rfl ?_
  refine JL.assign .none rfl ?_
  refine JL.done hQ ?_
  refine JQ.go ?_
  refine JC.ret ?_
  obtain rfl := Option.some.inj hF
  exact JQ.outS rfl (.tmp .nil) rfl
-- 82 ferrule/ferruleref05.Load
def F_ref05_Load (n : Nat) (d : Canopy) (g : Gust) (lift : Int) (rib : Int) : Option Int :=
 (nz (d.Ribs.length : Int)).bind fun _ => (geti d.Shares ((w64 ((w64 (rib - g.At)) + (d.Ribs.length : Int))).tmod (d.Ribs.length : Int))).bind fun y10 => some (w64 ((w64 ((w64 (g.Force * lift)) * y10)).tdiv 100))
set_option maxRecDepth 100000 in
set_option maxHeartbeats 40000000 in
theorem c_ref05_Load (n : Nat) (H : Hp) (d : Canopy) (d_v0 : Value) (hd_0 : SL H 7 R_Section d_v0 d.Frame.Sections) (d_v7 : Value) (hd_7 : SL H 2 R_Span d_v7 d.Ribs) (d_v8 : Value) (hd_8 : SL H 1 RInt d_v8 d.Shares) (g : Gust) (lift : Int) (rib : Int) (y : Int) (hF : F_ref05_Load n d g lift rib = some y) : SC Tryz.prog 82 [.agg [d_v0, .int .i64 d.Frame.Low, .int .i64 d.Frame.High, .int .i64 d.Frame.Ease.Num, .int .i64 d.Frame.Ease.Den, .int .i64 d.Frame.Rod, .int .i64 d.Frame.Case, d_v7, d_v8].toArray, .agg [.int .i64 g.Force, .int .i64 g.At].toArray, .int .i64 lift, .int .i64 rib] (.int .i64 y) H := by
 rw [F_ref05_Load] at hF
 refine SC.of (N := 31) Tryz.func82 rfl rfl rfl fun w => ?_
 refine JC.seq ?_
 refine JC.region (by rfl) ?_
 intro hQ
 refine JL.box (cs := [d_v0, .int .i64 d.Frame.Low, .int .i64 d.Frame.High, .int .i64 d.Frame.Ease.Num, .int .i64 d.Frame.Ease.Den, .int .i64 d.Frame.Rod, .int .i64 d.Frame.Case, d_v7, d_v8]) rfl .none rfl ?_
 intro b1
 refine JL.box (cs := [.int .i64 g.Force, .int .i64 g.At]) rfl .none rfl ?_
 intro b2
 refine JL.assign .none rfl ?_
 refine JL.done hQ ?_
 refine JQ.go ?_
 refine JC.seq ?_
 refine JC.region (by rfl) ?_
 intro hQ
 refine JL.fieldAddr fo_30_1 rfl .none rfl ?_
 refine JL.loadOwn 1 az_27 rfl rfl rfl .none rfl ?_
 refine JL.lenSL (R := R_Span) ul_27 hd_7 .none rfl ?_
 refine JL.assign .none rfl ?_
 refine JL.done hQ ?_
 refine JQ.go ?_
 refine JC.seq ?_
 refine JC.draw (by rfl) mo_ (by kernel_rfl) ?_
 intro hQ
 refine JL.fieldAddr fo_64_0 rfl .none rfl ?_
 refine JL.loadOwn 0 az_3 rfl rfl rfl .none rfl ?_
 refine JL.move .none rfl ?_
 refine JL.bin rfl rfl rfl .none rfl ?_
 refine JL.fieldAddr fo_30_2 rfl .none rfl ?_
 refine JL.loadOwn 1 az_28 rfl rfl rfl .none rfl ?_
 refine JL.move .none rfl ?_
 refine JL.fieldAddr fo_64_1 rfl .none rfl ?_
 refine JL.loadOwn 0 az_3 rfl rfl rfl .none rfl ?_
 refine JL.bin rfl rfl rfl .none rfl ?_
 refine JL.move .none rfl ?_
 refine JL.bin rfl rfl rfl .none rfl ?_
 refine JL.move .none rfl ?_
 obtain ⟨u9, hu9, hF⟩ := bind_some hF
 refine JL.div rfl rfl (nz_some hu9) rfl .none rfl ?_
 obtain ⟨y10, hy10, hF⟩ := bind_some hF
 refine JL.indexSL (R := RInt) sl_28 hd_8 rfl hy10 .none rfl ?_
 rintro b11 o12 cs13 hc14 - rfl
 refine JL.loadH 0 az_3 rfl hc14 rfl .none rfl ?_
 refine JL.bin rfl rfl rfl .none rfl ?_
 refine JL.div rfl rfl (by decide) rfl .none rfl ?_
 refine JL.assign .none rfl ?_
 refine JL.doneQ hQ ?_
 refine JQ.go ?_
 refine JC.fresh (fun f => f 8 = .int .i64 (w64 ((w64 ((w64 (g.Force * lift)) * y10)).tdiv 100))) rfl ?_
 rintro f hf8
 refine (JC.norm (i := 8) hf8 ?_)
 refine JC.ret ?_
 obtain rfl := Option.some.inj hF
 exact JQ.outS rfl (.tmp .nil) rfl
-- 83 ferrule/ferruleref05.side
def F_ref05_side_s1 (n : Nat) (loads : List Int) (gone : List Bool) (rib : Int) (step : Int) : Int × Int → Option ((Int × Int) ⊕ (Int ⊕ Int))
 | (sum_91, k_92) => if decide (k_92 < (loads.length : Int)) = true then ((nz (loads.length : Int)).bind fun _ => (nz (loads.length : Int)).bind fun _ => (geti gone ((w64 (((w64 (rib + (w64 (k_92 * step)))).tmod (loads.length : Int)) + (loads.length : Int))).tmod (loads.length : Int))).bind fun y99 => if (!y99) = true then (some (Sum.inr (Sum.inl sum_91))) else ((geti loads ((w64 (((w64 (rib + (w64 (k_92 * step)))).tmod (loads.length : Int)) + (loads.length : Int))).tmod (loads.length : Int))).bind fun y105 => some (Sum.inl ((w64 (sum_91 + y105)), (w64 (k_92 + 1)))))) else (some (Sum.inr (Sum.inr sum_91)))
def F_ref05_side (n : Nat) (loads : List Int) (gone : List Bool) (rib : Int) (step : Int) : Option Int :=
 (loopO n (F_ref05_side_s1 n loads gone rib step) (0, 1)).bind fun r56 => match r56 with | .inl o => some o | .inr sum_54 => some sum_54
set_option maxRecDepth 100000 in
set_option maxHeartbeats 40000000 in
theorem c_ref05_side (n : Nat) (H : Hp) (loads : List Int) (loads_v0 : Value) (hloads_0 : SL H 1 RInt loads_v0 loads) (gone : List Bool) (gone_v0 : Value) (hgone_0 : SL H 1 RBool gone_v0 gone) (rib : Int) (step : Int) (y : Int) (hF : F_ref05_side n loads gone rib step = some y) : SC Tryz.prog 83 [loads_v0, gone_v0, .int .i64 rib, .int .i64 step] (.int .i64 y) H := by
 rw [F_ref05_side] at hF
 refine SC.of (N := 44) Tryz.func83 rfl rfl rfl fun w => ?_
 refine JC.seq ?_
 refine JC.region (by rfl) ?_
 intro hQ
 refine JL.assign .none rfl ?_
 refine JL.done hQ ?_
 refine JQ.go ?_
 refine JC.seq ?_
 refine JC.region (by rfl) ?_
 intro hQ
 refine JL.move .none rfl ?_
 refine JL.lenSL (R := RInt) ul_28 hloads_0 .none rfl ?_
 refine JL.assign .none rfl ?_
 refine JL.done hQ ?_
 refine JQ.go ?_
 refine JC.seq ?_
 refine JC.region (by rfl) ?_
 intro hQ
 refine JL.assign .none rfl ?_
 refine JL.done hQ ?_
 refine JQ.go ?_
 refine JC.seq ?_
 refine JC.seq ?_
 refine JC.region (by rfl) ?_
 intro hQ
 refine JL.assign .none rfl ?_
 refine JL.done hQ ?_
 refine JQ.go ?_
 obtain ⟨r56, hlr56, hKr56⟩ := bind_some hF
 refine JC.join (fun (sum_54 : Int) H55 f bs gs => f 10 = .int .i64 sum_54 ∧ bs = [] ∧ gs = [] ∧ HSub H H55 ∧ Sum.inr sum_54 = r56) ?_ ?_
 ·skip
  refine JC.block ?_
  refine JC.loop hlr56 (fun (x : Int × Int) H93 f bs gs => match x with | (sum_91, k_92) => f 0 = loads_v0 ∧ f 1 = gone_v0 ∧ f 2 = .int .i64 rib ∧ f 3 = .int .i64 step ∧ f 9 = .int .i64 (loads.length : Int) ∧ f 10 = .int .i64 sum_91 ∧ f 11 = .int .i64 k_92 ∧ bs = [] ∧ gs = [] ∧ HSub H H93) ⟨rfl, rfl, rfl, rfl, rfl, rfl, rfl, rfl, rfl, (HSub.refl _)⟩ ?_
  rintro ⟨sum_91, k_92⟩ x95 H93 f bs gs ⟨hf0, hf1, hf2, hf3, hf9, hf10, hf11, rfl, rfl, hs93⟩ hF hr94
  rw [F_ref05_side_s1] at hF
  refine (JC.norm (i := 0) hf0 (JC.norm (i := 1) hf1 (JC.norm (i := 2) hf2 (JC.norm (i := 3) hf3 (JC.norm (i := 9) hf9 (JC.norm (i := 10) hf10 (JC.norm (i := 11) hf11 ?_)))))))
  refine JC.seq ?_
  refine JC.seq ?_
  refine JC.region (by rfl) ?_
  intro hQ
  refine JL.move .none rfl ?_
  refine JL.move .none rfl ?_
  refine JL.bin rfl rfl rfl .none rfl ?_
  refine JL.done hQ ?_
  refine JQ.go ?_
  rcases ite_some hF with ⟨hc96, hF⟩ | ⟨hc96, hF⟩
  ·refine JC.cond_t (b := decide (k_92 < (loads.length : Int))) rfl hc96 ?_
   refine JC.skip ?_
   refine JQ.go ?_
   refine JC.seq ?_
   refine JC.block ?_
   refine JC.seq ?_
   refine JC.region (by rfl) ?_
   intro hQ
   refine JL.move .none rfl ?_
   refine JL.move .none rfl ?_
   refine JL.move .none rfl ?_
   refine JL.bin rfl rfl rfl .none rfl ?_
   refine JL.bin rfl rfl rfl .none rfl ?_
   refine JL.move .none rfl ?_
   obtain ⟨u97, hu97, hF⟩ := bind_some hF
   refine JL.div rfl rfl (nz_some hu97) rfl .none rfl ?_
   refine JL.move .none rfl ?_
   refine JL.bin rfl rfl rfl .none rfl ?_
   refine JL.move .none rfl ?_
   obtain ⟨u98, hu98, hF⟩ := bind_some hF
   refine JL.div rfl rfl (nz_some hu98) rfl .none rfl ?_
   refine JL.assign .none rfl ?_
   refine JL.done hQ ?_
   refine JQ.go ?_
   refine JC.fresh (fun f => f 0 = loads_v0 ∧ f 1 = gone_v0 ∧ f 2 = .int .i64 rib ∧ f 3 = .int .i64 step ∧ f 9 = .int .i64 (loads.length : Int) ∧ f 10 = .int .i64 sum_91 ∧ f 11 = .int .i64 k_92 ∧ f 12 = .int .i64 ((w64 (((w64 (rib + (w64 (k_92 * step)))).tmod (loads.length : Int)) + (loads.length : Int))).tmod (loads.length : Int))) ⟨rfl, rfl, rfl, rfl, rfl, rfl, rfl, rfl⟩ ?_
   rintro f ⟨hf0, hf1, hf2, hf3, hf9, hf10, hf11, hf12⟩
   refine (JC.norm (i := 0) hf0 (JC.norm (i := 1) hf1 (JC.norm (i := 2) hf2 (JC.norm (i := 3) hf3 (JC.norm (i := 9) hf9 (JC.norm (i := 10) hf10 (JC.norm (i := 11) hf11 (JC.norm (i := 12) hf12 ?_))))))))
   refine JC.seq ?_
   refine JC.seq ?_
   refine JC.region (by rfl) ?_
   intro hQ
   refine JL.move .none rfl ?_
   refine JL.move .none rfl ?_
   obtain ⟨y99, hy99, hF⟩ := bind_some hF
   refine JL.indexSL (R := RBool) sl_126 (SL.mono RBool.mono hs93 hgone_0) rfl hy99 .none rfl ?_
   rintro b100 o101 cs102 hc103 - rfl
   refine JL.loadH 0 az_4 rfl hc103 rfl .none rfl ?_
   refine JL.not rfl .none rfl ?_
   refine JL.done hQ ?_
   refine JQ.go ?_
   rcases ite_some hF with ⟨hc104, hF⟩ | ⟨hc104, hF⟩
   ·refine JC.cond_t (b := (!y99)) rfl hc104 ?_
    refine JC.seq ?_
    refine JC.region (by rfl) ?_
    intro hQ
    refine JL.move .none rfl ?_
    refine JL.assign .none rfl ?_
    refine JL.done hQ ?_
    refine JQ.go ?_
    refine JC.fresh (fun f => f 8 = .int .i64 sum_91) rfl ?_
    rintro f hf8
    refine (JC.norm (i := 8) hf8 ?_)
    refine JC.ret ?_
    refine JQ.ret_then ?_
    refine JQ.ret_block ?_
    refine JQ.ret_then ?_
    refine JQ.ret_then ?_
    refine JQ.ret_block ?_
    refine JQ.ret_join ?_
    refine JQ.ret_then ?_
    obtain rfl := Option.some.inj hF
    have ehr94 := hr94 _ rfl
    subst ehr94
    have hF := hKr56
    try dsimp only at hF
    obtain rfl := Option.some.inj hF
    exact JQ.outS rfl (.tmp .nil) rfl
   ·refine JC.cond_f (b := (!y99)) rfl hc104 ?_
    refine JC.skip ?_
    refine JQ.go ?_
    refine JC.region (by rfl) ?_
    intro hQ
    refine JL.move .none rfl ?_
    refine JL.move .none rfl ?_
    refine JL.move .none rfl ?_
    obtain ⟨y105, hy105, hF⟩ := bind_some hF
    refine JL.indexSL (R := RInt) sl_28 (SL.mono RInt.mono hs93 hloads_0) rfl hy105 .none rfl ?_
    rintro b106 o107 cs108 hc109 - rfl
    refine JL.loadH 0 az_3 rfl hc109 rfl .none rfl ?_
    refine JL.bin rfl rfl rfl .none rfl ?_
    refine JL.assign .none rfl ?_
    refine JL.done hQ ?_
    refine JQ.normal_block ?_
    refine JQ.go ?_
    refine JC.fresh (fun f => f 0 = loads_v0 ∧ f 1 = gone_v0 ∧ f 2 = .int .i64 rib ∧ f 3 = .int .i64 step ∧ f 9 = .int .i64 (loads.length : Int) ∧ f 10 = .int .i64 (w64 (sum_91 + y105)) ∧ f 11 = .int .i64 k_92) ⟨rfl, rfl, rfl, rfl, rfl, rfl, rfl⟩ ?_
    rintro f ⟨hf0, hf1, hf2, hf3, hf9, hf10, hf11⟩
    refine (JC.norm (i := 0) hf0 (JC.norm (i := 1) hf1 (JC.norm (i := 2) hf2 (JC.norm (i := 3) hf3 (JC.norm (i := 9) hf9 (JC.norm (i := 10) hf10 (JC.norm (i := 11) hf11 ?_)))))))
    refine JC.region (by rfl) ?_
    intro hQ
    refine JL.move .none rfl ?_
    refine JL.bin rfl rfl rfl .none rfl ?_
    refine JL.assign .none rfl ?_
    refine JL.done hQ ?_
    obtain rfl := Option.some.inj hF
    exact JQ.next rfl ⟨rfl, rfl, rfl, rfl, rfl, rfl, rfl, rfl, rfl, hs93⟩
  ·refine JC.cond_f (b := decide (k_92 < (loads.length : Int))) rfl hc96 ?_
   refine JC.exit ?_
   refine JQ.exit_then ?_
   refine JQ.exit_then ?_
   refine JQ.exit_block ?_
   obtain rfl := Option.some.inj hF
   have ehr94 := hr94 _ rfl
   subst ehr94
   exact JQ.join sum_91 ⟨rfl, rfl, rfl, hs93, rfl⟩
 ·rintro sum_54 H55 f bs gs ⟨hf10, rfl, rfl, hs55, rfl⟩
  have hF := hKr56
  try dsimp only at hF
  refine (JQ.norm (i := 10) hf10 ?_)
  refine JQ.go ?_
  refine JC.seq ?_
  refine JC.region (by rfl) ?_
  intro hQ
  refine JL.move .none rfl ?_
  refine JL.assign .none rfl ?_
  refine JL.done hQ ?_
  refine JQ.go ?_
  refine JC.ret ?_
  obtain rfl := Option.some.inj hF
  exact JQ.outS rfl (.tmp .nil) rfl
end Go.Proofs.YtcipdblhopffbaaGreat
end
