/-
  A part of the proof of MoMost: the texts MoGenK10, MoGenK11, EngP, EngQ, EngR.
-/
import Derived.Test.YteihdclpiekmaaaJMoMost6
section
set_option maxRecDepth 100000
set_option maxHeartbeats 40000000
namespace Go.Proofs.Yteihdclpiekmaaa
open Go Go.RowKit Go.Dec
set_option linter.unusedVariables false
-- 44 ferrule/counts.Harm
/-- what the function that remembers answers -/
noncomputable def F_asked (n : Nat) (d : Canopy) (surely : Bool) (b : Blow) (force : Int) : Option Bool :=
 (kok 2 [force, b.At]).bind fun _ => (F_gusts_Stands n d [Gust.mk force b.At]).bind fun y => some ((y.1 == 2) || (!surely && (y.1 == 3)))
/-- what is remembered -/
def Cached (n : Nat) (d : Canopy) (m : Mp) : Prop := Srt m ∧ ∀ p ∈ m, ∃ f a e, p.1 = [f, a] ∧ F_gusts_Stands n d [Gust.mk f a] = some (p.2, e)
theorem cached_nil {n : Nat} {d : Canopy} : Cached n d [] := ⟨List.Pairwise.nil, by simp⟩
theorem asked_ok {n : Nat} {d : Canopy} {surely : Bool} {b : Blow} {force : Int} {y : Bool} (h : F_asked n d surely b force = some y) {m0 : Mp} (hJ : Cached n d m0) : ∃ m1, Cached n d m1 ∧ F_counts_fells_1 n b force m0 d surely = some (y, m1) := by
 unfold F_asked at h
 obtain ⟨u, hu, h⟩ := bind_some h
 obtain ⟨z, hz, h⟩ := bind_some h
 cases Option.some.inj h
 obtain ⟨hs, hm⟩ := hJ
 have tail : ∀ m : Mp, mget m [force, b.At] = z.1 → ((kok 2 [force, b.At]).bind fun _ => (if ((mget m [force, b.At]) == 2) = true then (some true) else ((if (!surely) = true then ((kok 2 [force, b.At]).bind fun _ => some ((mget m [force, b.At]) == 3)) else (some false) : Option Bool).bind fun p79 => some p79) : Option Bool).bind fun p75 => some (p75, m)) = some ((z.1 == 2) || (!surely && (z.1 == 3)), m) := fun m e => by
  rw [hu, e]
  cases surely <;> cases h2 : (z.1 == 2) <;> simp
 unfold F_counts_fells_1
 rw [hu]
 simp only [Option.bind_some]
 by_cases h0 : (mget m0 [force, b.At] == 0) = true
 ·refine ⟨mput m0 [force, b.At] z.1, ⟨srt_mput hs, fun p hp => ?_⟩, ?_⟩
  ·rcases (mem_mput hs).1 hp with rfl | ⟨hp, _⟩
   ·exact ⟨force, b.At, z.2, rfl, hz⟩
   ·exact hm p hp
  ·rw [if_pos h0, hz]
   simp only [Option.bind_some]
   have := tail (mput m0 [force, b.At] z.1) (mget_mput hs)
   rw [hu] at this
   simpa only [Option.bind_some] using this
 ·have hne : mget m0 [force, b.At] ≠ 0 := by simpa using h0
  have hv : mget m0 [force, b.At] = z.1 := by
   unfold mget at hne ⊢
   cases hf : m0.find? (fun p => p.1 == [force, b.At]) with
   | none => rw [hf] at hne; exact absurd rfl hne
   | some p =>
    obtain ⟨f, a, e, h1, h2⟩ := hm p (List.mem_of_find?_eq_some hf)
    have h3 := List.find?_some hf
    simp only [beq_iff_eq] at h3
    rw [h1] at h3
    simp only [List.cons.injEq, and_true] at h3
    obtain ⟨rfl, rfl⟩ := h3
    rw [hz] at h2
    simp only [Option.some.injEq] at h2
    rw [h2]
  refine ⟨m0, ⟨hs, hm⟩, ?_⟩
  rw [if_neg h0]
  simp only [Option.bind_some]
  have := tail m0 hv
  rw [hu] at this
  simpa only [Option.bind_some] using this
theorem c_harm_bounds (n : Nat) (H : Hp) (r : Run) (r_v0 : Value) (hr_0 : SL H 7 R_Section r_v0 r.Canopy.Frame.Sections) (r_v7 : Value) (hr_7 : SL H 2 R_Span r_v7 r.Canopy.Ribs) (r_v8 : Value) (hr_8 : SL H 1 RInt r_v8 r.Canopy.Shares) (r_v9 : Value) (hr_9 : SL H 3 R_Blow r_v9 r.Blows) (r_v10 : Value) (hr_10 : SL H 2 R_Meter r_v10 r.Meters) (surely : Bool) (bm b1 b2 b3 : Nat) (hc1 : Cells H b1 0 [.map (some bm)]) (hc2 : Cells H b2 0 [r_v0, .int .i64 r.Canopy.Frame.Low, .int .i64 r.Canopy.Frame.High, .int .i64 r.Canopy.Frame.Ease.Num, .int .i64 r.Canopy.Frame.Ease.Den, .int .i64 r.Canopy.Frame.Rod, .int .i64 r.Canopy.Frame.Case, r_v7, r_v8]) (hc3 : Cells H b3 0 [.bool surely]) (y : Span × Int) (hF : F_counts_bounds n r true (F_asked n r.Canopy surely) = some y) :
  SC Try.prog 98 [.agg [r_v0, .int .i64 r.Canopy.Frame.Low, .int .i64 r.Canopy.Frame.High, .int .i64 r.Canopy.Frame.Ease.Num, .int .i64 r.Canopy.Frame.Ease.Den, .int .i64 r.Canopy.Frame.Rod, .int .i64 r.Canopy.Frame.Case, r_v7, r_v8, r_v9, r_v10, .int .i64 r.Wrong].toArray, .bool true, .func (.func 150) #[] [.pointer (some ⟨b1, 0, none⟩), .pointer (some ⟨b2, 0, none⟩), .pointer (some ⟨b3, 0, none⟩)].toArray] (.tuple [.agg [.int .i64 y.1.Low, .int .i64 y.1.High].toArray, .int .i64 y.2].toArray) (hol H bm (fun o => ∃ es ck m, o = .map es ck ∧ MR 2 ekA m es ck ∧ Cached n r.Canopy m)) :=
 c_counts_bounds n (hol H bm (fun o => ∃ es ck m, o = .map es ck ∧ MR 2 ekA m es ck ∧ Cached n r.Canopy m)) r r_v0 (SL.fsub R_Section_fz (fun _ _ h => h) hr_0) r_v7 (SL.fsub R_Span_fz (fun _ _ h => h) hr_7) r_v8 (SL.fsub RInt.fz (fun _ _ h => h) hr_8) r_v9 (SL.fsub R_Blow_fz (fun _ _ h => h) hr_9) r_v10 (SL.fsub R_Meter_fz (fun _ _ h => h) hr_10) true (F_asked n r.Canopy surely) 150 [.pointer (some ⟨b1, 0, none⟩), .pointer (some ⟨b2, 0, none⟩), .pointer (some ⟨b3, 0, none⟩)] en_150
  (fun H' hs' a0 a1 y' hy' => c_counts_fells_1 n H' a0 a1 b1 bm (Cells.mono hs' (Cells.hol hc1)) r.Canopy r_v0 (SL.mono R_Section_mono hs' (SL.fsub R_Section_fz (fun _ _ h => h) hr_0)) r_v7 (SL.mono R_Span_mono hs' (SL.fsub R_Span_fz (fun _ _ h => h) hr_7)) r_v8 (SL.mono RInt.mono hs' (SL.fsub RInt.fz (fun _ _ h => h) hr_8)) b2 (Cells.mono hs' (Cells.hol hc2)) surely b3 (Cells.mono hs' (Cells.hol hc3)) (Cached n r.Canopy) hs'.hole y' (fun m0 hJ => asked_ok hy' hJ)) y hF
noncomputable def F_counts_Harm (n : Nat) (r : Run) : Option (Span × Int) :=
 (F_counts_bounds n r true (F_asked n r.Canopy true)).bind fun y11 => if (y11.2 != 0) = true then (some ((Span.mk 0 0), y11.2)) else ((F_counts_bounds n r true (F_asked n r.Canopy false)).bind fun y42 => some ((Span.mk y11.1.Low y42.1.High), 0))
theorem c_counts_Harm (n : Nat) (H : Hp) (r : Run) (r_v0 : Value) (hr_0 : SL H 7 R_Section r_v0 r.Canopy.Frame.Sections) (r_v7 : Value) (hr_7 : SL H 2 R_Span r_v7 r.Canopy.Ribs) (r_v8 : Value) (hr_8 : SL H 1 RInt r_v8 r.Canopy.Shares) (r_v9 : Value) (hr_9 : SL H 3 R_Blow r_v9 r.Blows) (r_v10 : Value) (hr_10 : SL H 2 R_Meter r_v10 r.Meters) (y : Span × Int) (hF : F_counts_Harm n r = some y) : SC Try.prog 44 [.agg [r_v0, .int .i64 r.Canopy.Frame.Low, .int .i64 r.Canopy.Frame.High, .int .i64 r.Canopy.Frame.Ease.Num, .int .i64 r.Canopy.Frame.Ease.Den, .int .i64 r.Canopy.Frame.Rod, .int .i64 r.Canopy.Frame.Case, r_v7, r_v8, r_v9, r_v10, .int .i64 r.Wrong].toArray] (.tuple [.agg [.int .i64 y.1.Low, .int .i64 y.1.High].toArray, .int .i64 y.2].toArray) H := by
 rw [F_counts_Harm] at hF
 refine SC.of (N := 33) Try.func44 rfl rfl rfl fun w => ?_
 refine JC.seq (JC.region (by rfl) ?_)
 intro hQ
 refine JL.box (cs := [r_v0, .int .i64 r.Canopy.Frame.Low, .int .i64 r.Canopy.Frame.High, .int .i64 r.Canopy.Frame.Ease.Num, .int .i64 r.Canopy.Frame.Ease.Den, .int .i64 r.Canopy.Frame.Rod, .int .i64 r.Canopy.Frame.Case, r_v7, r_v8, r_v9, r_v10, .int .i64 r.Wrong]) rfl .none rfl ?_
 intro b1
 refine JL.alloc ze_39 .none rfl ?_
 intro b2
 refine JL.assign .none rfl ?_
 refine JL.done hQ (JQ.go (JC.seq ?_))
 obtain ⟨y11, hy11, hF⟩ := bind_some hF
 refine JC.mixed 11 11 #[false, false, false, false, false, false, false, false, false, false, false] [(b2, .cells [.int .i64 0, .int .i64 0].toArray 39), (b1, .cells [r_v0, .int .i64 r.Canopy.Frame.Low, .int .i64 r.Canopy.Frame.High, .int .i64 r.Canopy.Frame.Ease.Num, .int .i64 r.Canopy.Frame.Ease.Den, .int .i64 r.Canopy.Frame.Rod, .int .i64 r.Canopy.Frame.Case, r_v7, r_v8, r_v9, r_v10, .int .i64 r.Wrong].toArray 90)] (by rfl) mo_ (by kernel_rfl) (by kernel_rfl) ?_
 intro hQ hE
 refine JA.cut 2 #[true, true, true, true, true, true, true, true, true, false, false] (fun H32 f bs gs => ∃ (b31 : Nat), f 1 = .pointer (some ⟨b1, 0, none⟩) ∧ f 2 = .pointer (some ⟨b2, 0, none⟩) ∧ f 4 = .pointer (some ⟨b31, 0, none⟩) ∧ f 14 = .agg [.int .i64 y11.1.Low, .int .i64 y11.1.High].toArray ∧ f 15 = .int .i64 y11.2 ∧ bs = [(b31, .cells [.int .i64 0, .int .i64 0].toArray 39), (b2, .cells [.int .i64 0, .int .i64 0].toArray 39), (b1, .cells [r_v0, .int .i64 r.Canopy.Frame.Low, .int .i64 r.Canopy.Frame.High, .int .i64 r.Canopy.Frame.Ease.Num, .int .i64 r.Canopy.Frame.Ease.Den, .int .i64 r.Canopy.Frame.Rod, .int .i64 r.Canopy.Frame.Case, r_v7, r_v8, r_v9, r_v10, .int .i64 r.Wrong].toArray 90)] ∧ gs = [] ∧ HSub H H32) ?_ ?_
 ·rintro H32 f bs gs ⟨b31, hf1, hf2, hf4, hf14, hf15, rfl, rfl, hs32⟩
  refine (JA.norm (i := 1) hf1 (JA.norm (i := 2) hf2 (JA.norm (i := 4) hf4 (JA.norm (i := 14) hf14 (JA.norm (i := 15) hf15 ?_)))))
  refine JA.many [9] (by kernel_rfl) (by simp) (all_one ⟨_, #[true, true, true, true, true, true, true, true, true, true, false], rfl, (by kernel_rfl), ?_⟩)
  refine JL.storeOwn 0 (cs := [.int .i64 y11.1.Low, .int .i64 y11.1.High]) az_39 rfl rfl rfl (one_cons rfl (one_cons rfl one_nil)) rfl rfl .none ?_
  refine JA.after hE hs32 (.cons _ (.cons_cons _ (.cons_cons _ (List.nil_sublist _)))) ?_
  refine JA.take 10 (listed' := #[true, true, true, true, true, true, true, true, true, true, true]) hQ rfl (by kernel_rfl) (by kernel_rfl) (by kernel_rfl) (by kernel_rfl) (by kernel_rfl) hE hs32 (.cons _ (.cons_cons _ (.cons_cons _ (List.nil_sublist _)))) ?_
  refine JL.assign .none rfl ?_
  refine JA.cont ?_
  refine JA.done hQ (by kernel_rfl) ?_
  refine JQ.go (JC.seq (JC.seq (JC.region (by rfl) ?_)))
  intro hQ
  refine JL.move .none rfl ?_
  refine JL.bin rfl rfl rfl .none rfl ?_
  refine JL.done hQ (JQ.go ?_)
  rcases ite_some hF with ⟨hc33, hF⟩ | ⟨hc33, hF⟩
  ·refine JC.cond_t (b := (y11.2 != 0)) rfl hc33 ?_
   refine JC.seq (JC.region (by rfl) ?_)
   intro hQ
   refine JL.build (l := [.int .i64 0, .int .i64 0]) (by kernel_rfl) .none rfl ?_
   refine JL.move .none rfl ?_
   refine JL.storeOwn 1 (cs := [.int .i64 0, .int .i64 0]) az_39 rfl rfl rfl (one_cons rfl (one_cons rfl one_nil)) rfl rfl .none ?_
   refine JL.assign .none rfl ?_
   refine JL.done hQ (JQ.go (JC.ret (JQ.ret_then ?_)))
   obtain rfl := Option.some.inj hF
   exact JQ.outS rfl (.cell 1 az_39 rfl rfl rfl (.tmp .nil)) rfl
  ·refine JC.cond_f (b := (y11.2 != 0)) rfl hc33 ?_
   refine JC.skip (JQ.go (JC.seq ?_))
   obtain ⟨y42, hy42, hF⟩ := bind_some hF
   refine JC.mixed 11 11 #[false, false, false, false, false, false, false, false, false, false, false] [(b31, .cells [.int .i64 y11.1.Low, .int .i64 y11.1.High].toArray 39), (b2, .cells [.int .i64 0, .int .i64 0].toArray 39), (b1, .cells [r_v0, .int .i64 r.Canopy.Frame.Low, .int .i64 r.Canopy.Frame.High, .int .i64 r.Canopy.Frame.Ease.Num, .int .i64 r.Canopy.Frame.Ease.Den, .int .i64 r.Canopy.Frame.Rod, .int .i64 r.Canopy.Frame.Case, r_v7, r_v8, r_v9, r_v10, .int .i64 r.Wrong].toArray 90)] (by rfl) mo_ (by kernel_rfl) (by kernel_rfl) ?_
   intro hQ hE
   refine JA.cut 2 #[true, true, true, true, true, true, true, true, true, false, false] (fun H63 f bs gs => ∃ (b62 : Nat), f 2 = .pointer (some ⟨b2, 0, none⟩) ∧ f 4 = .pointer (some ⟨b31, 0, none⟩) ∧ f 6 = .pointer (some ⟨b62, 0, none⟩) ∧ f 26 = .agg [.int .i64 y42.1.Low, .int .i64 y42.1.High].toArray ∧ f 27 = .int .i64 y42.2 ∧ bs = [(b62, .cells [.int .i64 0, .int .i64 0].toArray 39), (b31, .cells [.int .i64 y11.1.Low, .int .i64 y11.1.High].toArray 39), (b2, .cells [.int .i64 0, .int .i64 0].toArray 39), (b1, .cells [r_v0, .int .i64 r.Canopy.Frame.Low, .int .i64 r.Canopy.Frame.High, .int .i64 r.Canopy.Frame.Ease.Num, .int .i64 r.Canopy.Frame.Ease.Den, .int .i64 r.Canopy.Frame.Rod, .int .i64 r.Canopy.Frame.Case, r_v7, r_v8, r_v9, r_v10, .int .i64 r.Wrong].toArray 90)] ∧ gs = [] ∧ HSub H32 H63) ?_ ?_
   ·rintro H63 f bs gs ⟨b62, hf2, hf4, hf6, hf26, hf27, rfl, rfl, hs63⟩
    refine (JA.norm (i := 2) hf2 (JA.norm (i := 4) hf4 (JA.norm (i := 6) hf6 (JA.norm (i := 26) hf26 (JA.norm (i := 27) hf27 ?_)))))
    refine JA.many [9] (by kernel_rfl) (by simp) (all_one ⟨_, #[true, true, true, true, true, true, true, true, true, true, false], rfl, (by kernel_rfl), ?_⟩)
    refine JL.storeOwn 0 (cs := [.int .i64 y42.1.Low, .int .i64 y42.1.High]) az_39 rfl rfl rfl (one_cons rfl (one_cons rfl one_nil)) rfl rfl .none ?_
    refine JA.after hE hs63 (.cons _ (.cons_cons _ (.cons_cons _ (.cons_cons _ (List.nil_sublist _))))) ?_
    refine JA.take 10 (listed' := #[true, true, true, true, true, true, true, true, true, true, true]) hQ rfl (by kernel_rfl) (by kernel_rfl) (by kernel_rfl) (by kernel_rfl) (by kernel_rfl) hE hs63 (.cons _ (.cons_cons _ (.cons_cons _ (.cons_cons _ (List.nil_sublist _))))) ?_
    refine JL.assign .none rfl ?_
    refine JA.cont ?_
    refine JA.done hQ (by kernel_rfl) ?_
    refine JQ.go (JC.seq (JC.region (by rfl) ?_))
    intro hQ
    refine JL.fieldAddr fo_39_0 rfl .none rfl ?_
    refine JL.loadOwn 1 az_3 rfl rfl rfl .none rfl ?_
    refine JL.fieldAddr fo_39_1 rfl .none rfl ?_
    refine JL.loadOwn 0 az_3 rfl rfl rfl .none rfl ?_
    refine JL.build (l := [.int .i64 y11.1.Low, .int .i64 y42.1.High]) (by kernel_rfl) .none rfl ?_
    refine JL.storeOwn 2 (cs := [.int .i64 y11.1.Low, .int .i64 y42.1.High]) az_39 rfl rfl rfl (one_cons rfl (one_cons rfl one_nil)) rfl rfl .none ?_
    refine JL.assign .none rfl ?_
    refine JL.done hQ (JQ.go (JC.ret ?_))
    obtain rfl := Option.some.inj hF
    exact JQ.outS rfl (.cell 2 az_39 rfl rfl rfl (.tmp .nil)) rfl
   intro nd62_0
   refine JA.cut 6 #[true, true, true, true, false, false, false, false, true, false, false] (fun H64 f bs gs => ∃ (b53 : Nat) (bm45 : Nat) (b46 : Nat) (b47 : Nat) (b48 : Nat), f 2 = .pointer (some ⟨b2, 0, none⟩) ∧ f 4 = .pointer (some ⟨b31, 0, none⟩) ∧ f 6 = .pointer (some ⟨b53, 0, none⟩) ∧ f 21 = .agg [r_v0, .int .i64 r.Canopy.Frame.Low, .int .i64 r.Canopy.Frame.High, .int .i64 r.Canopy.Frame.Ease.Num, .int .i64 r.Canopy.Frame.Ease.Den, .int .i64 r.Canopy.Frame.Rod, .int .i64 r.Canopy.Frame.Case, r_v7, r_v8, r_v9, r_v10, .int .i64 r.Wrong].toArray ∧ f 24 = .func (.func 150) #[] [.pointer (some ⟨b46, 0, none⟩), .pointer (some ⟨b47, 0, none⟩), .pointer (some ⟨b48, 0, none⟩)].toArray ∧ bs = [(b53, .cells [.int .i64 0, .int .i64 0].toArray 39), (bm45, .map #[] 0), (b31, .cells [.int .i64 y11.1.Low, .int .i64 y11.1.High].toArray 39), (b2, .cells [.int .i64 0, .int .i64 0].toArray 39), (b1, .cells [r_v0, .int .i64 r.Canopy.Frame.Low, .int .i64 r.Canopy.Frame.High, .int .i64 r.Canopy.Frame.Ease.Num, .int .i64 r.Canopy.Frame.Ease.Den, .int .i64 r.Canopy.Frame.Rod, .int .i64 r.Canopy.Frame.Case, r_v7, r_v8, r_v9, r_v10, .int .i64 r.Wrong].toArray 90)] ∧ gs = [] ∧ MR 2 ekA ([] : Mp) #[] 0 ∧ Cells H64 b46 0 [.map (some bm45)] ∧ Cells H64 b47 0 [r_v0, .int .i64 r.Canopy.Frame.Low, .int .i64 r.Canopy.Frame.High, .int .i64 r.Canopy.Frame.Ease.Num, .int .i64 r.Canopy.Frame.Ease.Den, .int .i64 r.Canopy.Frame.Rod, .int .i64 r.Canopy.Frame.Case, r_v7, r_v8] ∧ Cells H64 b48 0 [.bool false] ∧ HSub H32 H64) ?_ ?_
   ·rintro H64 f bs gs ⟨b53, bm45, b46, b47, b48, hf2, hf4, hf6, hf21, hf24, rfl, rfl, hm65, hm66, hm67, hm68, hs64⟩
    refine (JA.norm (i := 2) hf2 (JA.norm (i := 4) hf4 (JA.norm (i := 6) hf6 (JA.norm (i := 21) hf21 (JA.norm (i := 24) hf24 ?_)))))
    refine JA.many [4] (by kernel_rfl) (by simp) (all_one ⟨_, #[true, true, true, true, true, false, false, false, true, false, false], rfl, (by kernel_rfl), ?_⟩)
    refine JL.callHole 1 _ rfl ⟨_, _, _, rfl, MR.empty, cached_nil⟩ (c_harm_bounds n H64 r r_v0 (SL.mono R_Section_mono (HSub.trans hs32 hs64) hr_0) r_v7 (SL.mono R_Span_mono (HSub.trans hs32 hs64) hr_7) r_v8 (SL.mono RInt.mono (HSub.trans hs32 hs64) hr_8) r_v9 (SL.mono R_Blow_mono (HSub.trans hs32 hs64) hr_9) r_v10 (SL.mono R_Meter_mono (HSub.trans hs32 hs64) hr_10) false bm45 b46 b47 b48 hm66 hm67 hm68 y42 hy42) rfl en_98 .none rfl ?_
    refine JA.after hE hs64 (.cons _ (.cons_cons _ (.cons_cons _ (.cons_cons _ (List.nil_sublist _))))) ?_
    refine JA.take 5 (listed' := #[true, true, true, true, true, true, false, false, true, false, false]) hQ rfl (by kernel_rfl) (by kernel_rfl) (by kernel_rfl) (by kernel_rfl) (by kernel_rfl) hE hs64 (.cons _ (.cons_cons _ (.cons_cons _ (.cons_cons _ (List.nil_sublist _))))) ?_
    refine JL.move .none rfl ?_
    refine JA.cont ?_
    refine JA.take 6 (listed' := #[true, true, true, true, true, true, true, false, true, false, false]) hQ rfl (by kernel_rfl) (by kernel_rfl) (by kernel_rfl) (by kernel_rfl) (by kernel_rfl) hE hs64 (.cons _ (.cons_cons _ (.cons_cons _ (.cons_cons _ (List.nil_sublist _))))) ?_
    refine JL.extract rfl rfl .none rfl ?_
    refine JA.cont ?_
    refine JA.take 7 (listed' := #[true, true, true, true, true, true, true, true, true, false, false]) hQ rfl (by kernel_rfl) (by kernel_rfl) (by kernel_rfl) (by kernel_rfl) (by kernel_rfl) hE hs64 (.cons _ (.cons_cons _ (.cons_cons _ (.cons_cons _ (List.nil_sublist _))))) ?_
    refine JL.extract rfl rfl .none rfl ?_
    refine JA.cont ?_
    exact nd62_0 _ _ _ _ ⟨b53, rfl, rfl, rfl, rfl, rfl, rfl, rfl, hs64⟩
   intro nd62_1
   refine JA.take 0 (listed' := #[true, false, false, false, false, false, false, false, false, false, false]) hQ rfl (by kernel_rfl) (by kernel_rfl) (by kernel_rfl) (by kernel_rfl) (by kernel_rfl) hE (HSub.refl _) (.cons_cons _ (.cons_cons _ (.cons_cons _ (List.nil_sublist _)))) ?_
   refine JL.loadOwn 2 az_90 rfl rfl rfl .none rfl ?_
   refine JA.cont ?_
   refine JA.take 1 (listed' := #[true, true, false, false, false, false, false, false, false, false, false]) hQ rfl (by kernel_rfl) (by kernel_rfl) (by kernel_rfl) (by kernel_rfl) (by kernel_rfl) hE (HSub.refl _) (.cons_cons _ (.cons_cons _ (.cons_cons _ (List.nil_sublist _)))) ?_
   refine JL.fieldAddr fo_90_0 rfl .none rfl ?_
   refine JA.cont ?_
   refine JA.take 2 (listed' := #[true, true, true, false, false, false, false, false, false, false, false]) hQ rfl (by kernel_rfl) (by kernel_rfl) (by kernel_rfl) (by kernel_rfl) (by kernel_rfl) hE (HSub.refl _) (.cons_cons _ (.cons_cons _ (.cons_cons _ (List.nil_sublist _)))) ?_
   refine JL.loadOwn 2 az_76 rfl rfl rfl .none rfl ?_
   refine JA.cont ?_
   refine JA.many [3, 8] (by kernel_rfl) (by simp) (all_cons ⟨_, #[true, true, true, true, false, false, false, false, false, false, false], rfl, (by kernel_rfl), ?_⟩ (all_one ⟨_, #[true, true, true, false, false, false, false, false, true, false, false], rfl, (by kernel_rfl), ?_⟩))
   ·skip
    refine JL.callXB (c_counts_fells n H32 r.Canopy r_v0 (SL.mono R_Section_mono hs32 hr_0) r_v7 (SL.mono R_Span_mono hs32 hr_7) r_v8 (SL.mono RInt.mono hs32 hr_8) false) rfl en_99 .none rfl ?_
    rintro H69 _ _ hs69 ⟨bm70, b71, b72, b73, rfl, rfl, hc74, hc75, hc76⟩
    refine JA.after hE hs69 (.cons _ (.cons_cons _ (.cons_cons _ (.cons_cons _ (List.nil_sublist _))))) ?_
    refine JA.many [4, 8] (by kernel_rfl) (by simp) (all_cons ⟨_, #[true, true, true, true, true, false, false, false, false, false, false], rfl, (by kernel_rfl), ?_⟩ (all_one ⟨_, #[true, true, true, true, false, false, false, false, true, false, false], rfl, (by kernel_rfl), ?_⟩))
    ·skip
     refine JL.callHole 0 _ rfl ⟨_, _, _, rfl, MR.empty, cached_nil⟩ (c_harm_bounds n H69 r r_v0 (SL.mono R_Section_mono (HSub.trans hs32 hs69) hr_0) r_v7 (SL.mono R_Span_mono (HSub.trans hs32 hs69) hr_7) r_v8 (SL.mono RInt.mono (HSub.trans hs32 hs69) hr_8) r_v9 (SL.mono R_Blow_mono (HSub.trans hs32 hs69) hr_9) r_v10 (SL.mono R_Meter_mono (HSub.trans hs32 hs69) hr_10) false bm70 b71 b72 b73 hc74 hc75 hc76 y42 hy42) rfl en_98 .none rfl ?_
     refine JA.after hE hs69 (.cons_cons _ (.cons_cons _ (.cons_cons _ (List.nil_sublist _)))) ?_
     refine JA.take 5 (listed' := #[true, true, true, true, true, true, false, false, false, false, false]) hQ rfl (by kernel_rfl) (by kernel_rfl) (by kernel_rfl) (by kernel_rfl) (by kernel_rfl) hE hs69 (.cons_cons _ (.cons_cons _ (.cons_cons _ (List.nil_sublist _)))) ?_
     refine JL.move .none rfl ?_
     refine JA.cont ?_
     refine JA.take 6 (listed' := #[true, true, true, true, true, true, true, false, false, false, false]) hQ rfl (by kernel_rfl) (by kernel_rfl) (by kernel_rfl) (by kernel_rfl) (by kernel_rfl) hE hs69 (.cons_cons _ (.cons_cons _ (.cons_cons _ (List.nil_sublist _)))) ?_
     refine JL.extract rfl rfl .none rfl ?_
     refine JA.cont ?_
     refine JA.take 7 (listed' := #[true, true, true, true, true, true, true, true, false, false, false]) hQ rfl (by kernel_rfl) (by kernel_rfl) (by kernel_rfl) (by kernel_rfl) (by kernel_rfl) hE hs69 (.cons_cons _ (.cons_cons _ (.cons_cons _ (List.nil_sublist _)))) ?_
     refine JL.extract rfl rfl .none rfl ?_
     refine JA.cont ?_
     refine JA.many [8] (by kernel_rfl) (by simp) (all_one ⟨_, #[true, true, true, true, true, true, true, true, true, false, false], rfl, (by kernel_rfl), ?_⟩)
     refine JL.alloc ze_39 .none rfl ?_
     intro b77
     refine JA.after hE hs69 (.cons _ (.cons_cons _ (.cons_cons _ (.cons_cons _ (List.nil_sublist _))))) ?_
     exact nd62_0 _ _ _ _ ⟨b77, rfl, rfl, rfl, rfl, rfl, rfl, rfl, hs69⟩
    ·skip
     refine JL.alloc ze_39 .none rfl ?_
     intro b78
     refine JA.after hE hs69 (.cons _ (.cons _ (.cons_cons _ (.cons_cons _ (.cons_cons _ (List.nil_sublist _)))))) ?_
     exact nd62_1 _ _ _ _ ⟨b78, bm70, b71, b72, b73, rfl, rfl, rfl, rfl, rfl, rfl, rfl, MR.empty, hc74, hc75, hc76, hs69⟩
   ·skip
    refine JL.alloc ze_39 .none rfl ?_
    intro b79
    refine JA.after hE (HSub.refl _) (.cons _ (.cons_cons _ (.cons_cons _ (.cons_cons _ (List.nil_sublist _))))) ?_
    refine JA.many [3] (by kernel_rfl) (by simp) (all_one ⟨_, #[true, true, true, true, false, false, false, false, true, false, false], rfl, (by kernel_rfl), ?_⟩)
    refine JL.callXB (c_counts_fells n H32 r.Canopy r_v0 (SL.mono R_Section_mono hs32 hr_0) r_v7 (SL.mono R_Span_mono hs32 hr_7) r_v8 (SL.mono RInt.mono hs32 hr_8) false) rfl en_99 .none rfl ?_
    rintro H80 _ _ hs80 ⟨bm81, b82, b83, b84, rfl, rfl, hc85, hc86, hc87⟩
    refine JA.after hE hs80 (.cons _ (.cons _ (.cons_cons _ (.cons_cons _ (.cons_cons _ (List.nil_sublist _)))))) ?_
    refine JA.perm (swapAt_perm 0 _) ?_
    exact nd62_1 _ _ _ _ ⟨b79, bm81, b82, b83, b84, rfl, rfl, rfl, rfl, rfl, rfl, rfl, MR.empty, hc85, hc86, hc87, hs80⟩
 intro nd31_0
 refine JA.cut 6 #[true, true, true, true, false, false, false, false, true, false, false] (fun H88 f bs gs => ∃ (b22 : Nat) (bm14 : Nat) (b15 : Nat) (b16 : Nat) (b17 : Nat), f 1 = .pointer (some ⟨b1, 0, none⟩) ∧ f 2 = .pointer (some ⟨b2, 0, none⟩) ∧ f 4 = .pointer (some ⟨b22, 0, none⟩) ∧ f 9 = .agg [r_v0, .int .i64 r.Canopy.Frame.Low, .int .i64 r.Canopy.Frame.High, .int .i64 r.Canopy.Frame.Ease.Num, .int .i64 r.Canopy.Frame.Ease.Den, .int .i64 r.Canopy.Frame.Rod, .int .i64 r.Canopy.Frame.Case, r_v7, r_v8, r_v9, r_v10, .int .i64 r.Wrong].toArray ∧ f 12 = .func (.func 150) #[] [.pointer (some ⟨b15, 0, none⟩), .pointer (some ⟨b16, 0, none⟩), .pointer (some ⟨b17, 0, none⟩)].toArray ∧ bs = [(b22, .cells [.int .i64 0, .int .i64 0].toArray 39), (bm14, .map #[] 0), (b2, .cells [.int .i64 0, .int .i64 0].toArray 39), (b1, .cells [r_v0, .int .i64 r.Canopy.Frame.Low, .int .i64 r.Canopy.Frame.High, .int .i64 r.Canopy.Frame.Ease.Num, .int .i64 r.Canopy.Frame.Ease.Den, .int .i64 r.Canopy.Frame.Rod, .int .i64 r.Canopy.Frame.Case, r_v7, r_v8, r_v9, r_v10, .int .i64 r.Wrong].toArray 90)] ∧ gs = [] ∧ MR 2 ekA ([] : Mp) #[] 0 ∧ Cells H88 b15 0 [.map (some bm14)] ∧ Cells H88 b16 0 [r_v0, .int .i64 r.Canopy.Frame.Low, .int .i64 r.Canopy.Frame.High, .int .i64 r.Canopy.Frame.Ease.Num, .int .i64 r.Canopy.Frame.Ease.Den, .int .i64 r.Canopy.Frame.Rod, .int .i64 r.Canopy.Frame.Case, r_v7, r_v8] ∧ Cells H88 b17 0 [.bool true] ∧ HSub H H88) ?_ ?_
 ·rintro H88 f bs gs ⟨b22, bm14, b15, b16, b17, hf1, hf2, hf4, hf9, hf12, rfl, rfl, hm89, hm90, hm91, hm92, hs88⟩
  refine (JA.norm (i := 1) hf1 (JA.norm (i := 2) hf2 (JA.norm (i := 4) hf4 (JA.norm (i := 9) hf9 (JA.norm (i := 12) hf12 ?_)))))
  refine JA.many [4] (by kernel_rfl) (by simp) (all_one ⟨_, #[true, true, true, true, true, false, false, false, true, false, false], rfl, (by kernel_rfl), ?_⟩)
  refine JL.callHole 1 _ rfl ⟨_, _, _, rfl, MR.empty, cached_nil⟩ (c_harm_bounds n H88 r r_v0 (SL.mono R_Section_mono hs88 hr_0) r_v7 (SL.mono R_Span_mono hs88 hr_7) r_v8 (SL.mono RInt.mono hs88 hr_8) r_v9 (SL.mono R_Blow_mono hs88 hr_9) r_v10 (SL.mono R_Meter_mono hs88 hr_10) true bm14 b15 b16 b17 hm90 hm91 hm92 y11 hy11) rfl en_98 .none rfl ?_
  refine JA.after hE hs88 (.cons _ (.cons_cons _ (.cons_cons _ (List.nil_sublist _)))) ?_
  refine JA.take 5 (listed' := #[true, true, true, true, true, true, false, false, true, false, false]) hQ rfl (by kernel_rfl) (by kernel_rfl) (by kernel_rfl) (by kernel_rfl) (by kernel_rfl) hE hs88 (.cons _ (.cons_cons _ (.cons_cons _ (List.nil_sublist _)))) ?_
  refine JL.move .none rfl ?_
  refine JA.cont ?_
  refine JA.take 6 (listed' := #[true, true, true, true, true, true, true, false, true, false, false]) hQ rfl (by kernel_rfl) (by kernel_rfl) (by kernel_rfl) (by kernel_rfl) (by kernel_rfl) hE hs88 (.cons _ (.cons_cons _ (.cons_cons _ (List.nil_sublist _)))) ?_
  refine JL.extract rfl rfl .none rfl ?_
  refine JA.cont ?_
  refine JA.take 7 (listed' := #[true, true, true, true, true, true, true, true, true, false, false]) hQ rfl (by kernel_rfl) (by kernel_rfl) (by kernel_rfl) (by kernel_rfl) (by kernel_rfl) hE hs88 (.cons _ (.cons_cons _ (.cons_cons _ (List.nil_sublist _)))) ?_
  refine JL.extract rfl rfl .none rfl ?_
  refine JA.cont ?_
  exact nd31_0 _ _ _ _ ⟨b22, rfl, rfl, rfl, rfl, rfl, rfl, rfl, hs88⟩
 intro nd31_1
 refine JA.take 0 (listed' := #[true, false, false, false, false, false, false, false, false, false, false]) hQ rfl (by kernel_rfl) (by kernel_rfl) (by kernel_rfl) (by kernel_rfl) (by kernel_rfl) hE (HSub.refl _) (.cons_cons _ (.cons_cons _ (List.nil_sublist _))) ?_
 refine JL.loadOwn 1 az_90 rfl rfl rfl .none rfl ?_
 refine JA.cont ?_
 refine JA.take 1 (listed' := #[true, true, false, false, false, false, false, false, false, false, false]) hQ rfl (by kernel_rfl) (by kernel_rfl) (by kernel_rfl) (by kernel_rfl) (by kernel_rfl) hE (HSub.refl _) (.cons_cons _ (.cons_cons _ (List.nil_sublist _))) ?_
 refine JL.fieldAddr fo_90_0 rfl .none rfl ?_
 refine JA.cont ?_
 refine JA.take 2 (listed' := #[true, true, true, false, false, false, false, false, false, false, false]) hQ rfl (by kernel_rfl) (by kernel_rfl) (by kernel_rfl) (by kernel_rfl) (by kernel_rfl) hE (HSub.refl _) (.cons_cons _ (.cons_cons _ (List.nil_sublist _))) ?_
 refine JL.loadOwn 1 az_76 rfl rfl rfl .none rfl ?_
 refine JA.cont ?_
 refine JA.many [3, 8] (by kernel_rfl) (by simp) (all_cons ⟨_, #[true, true, true, true, false, false, false, false, false, false, false], rfl, (by kernel_rfl), ?_⟩ (all_one ⟨_, #[true, true, true, false, false, false, false, false, true, false, false], rfl, (by kernel_rfl), ?_⟩))
 ·skip
  refine JL.callXB (c_counts_fells n H r.Canopy r_v0 hr_0 r_v7 hr_7 r_v8 hr_8 true) rfl en_99 .none rfl ?_
  rintro H93 _ _ hs93 ⟨bm94, b95, b96, b97, rfl, rfl, hc98, hc99, hc100⟩
  refine JA.after hE hs93 (.cons _ (.cons_cons _ (.cons_cons _ (List.nil_sublist _)))) ?_
  refine JA.many [4, 8] (by kernel_rfl) (by simp) (all_cons ⟨_, #[true, true, true, true, true, false, false, false, false, false, false], rfl, (by kernel_rfl), ?_⟩ (all_one ⟨_, #[true, true, true, true, false, false, false, false, true, false, false], rfl, (by kernel_rfl), ?_⟩))
  ·skip
   refine JL.callHole 0 _ rfl ⟨_, _, _, rfl, MR.empty, cached_nil⟩ (c_harm_bounds n H93 r r_v0 (SL.mono R_Section_mono hs93 hr_0) r_v7 (SL.mono R_Span_mono hs93 hr_7) r_v8 (SL.mono RInt.mono hs93 hr_8) r_v9 (SL.mono R_Blow_mono hs93 hr_9) r_v10 (SL.mono R_Meter_mono hs93 hr_10) true bm94 b95 b96 b97 hc98 hc99 hc100 y11 hy11) rfl en_98 .none rfl ?_
   refine JA.after hE hs93 (.cons_cons _ (.cons_cons _ (List.nil_sublist _))) ?_
   refine JA.take 5 (listed' := #[true, true, true, true, true, true, false, false, false, false, false]) hQ rfl (by kernel_rfl) (by kernel_rfl) (by kernel_rfl) (by kernel_rfl) (by kernel_rfl) hE hs93 (.cons_cons _ (.cons_cons _ (List.nil_sublist _))) ?_
   refine JL.move .none rfl ?_
   refine JA.cont ?_
   refine JA.take 6 (listed' := #[true, true, true, true, true, true, true, false, false, false, false]) hQ rfl (by kernel_rfl) (by kernel_rfl) (by kernel_rfl) (by kernel_rfl) (by kernel_rfl) hE hs93 (.cons_cons _ (.cons_cons _ (List.nil_sublist _))) ?_
   refine JL.extract rfl rfl .none rfl ?_
   refine JA.cont ?_
   refine JA.take 7 (listed' := #[true, true, true, true, true, true, true, true, false, false, false]) hQ rfl (by kernel_rfl) (by kernel_rfl) (by kernel_rfl) (by kernel_rfl) (by kernel_rfl) hE hs93 (.cons_cons _ (.cons_cons _ (List.nil_sublist _))) ?_
   refine JL.extract rfl rfl .none rfl ?_
   refine JA.cont ?_
   refine JA.many [8] (by kernel_rfl) (by simp) (all_one ⟨_, #[true, true, true, true, true, true, true, true, true, false, false], rfl, (by kernel_rfl), ?_⟩)
   refine JL.alloc ze_39 .none rfl ?_
   intro b101
   refine JA.after hE hs93 (.cons _ (.cons_cons _ (.cons_cons _ (List.nil_sublist _)))) ?_
   exact nd31_0 _ _ _ _ ⟨b101, rfl, rfl, rfl, rfl, rfl, rfl, rfl, hs93⟩
  ·skip
   refine JL.alloc ze_39 .none rfl ?_
   intro b102
   refine JA.after hE hs93 (.cons _ (.cons _ (.cons_cons _ (.cons_cons _ (List.nil_sublist _))))) ?_
   exact nd31_1 _ _ _ _ ⟨b102, bm94, b95, b96, b97, rfl, rfl, rfl, rfl, rfl, rfl, rfl, MR.empty, hc98, hc99, hc100, hs93⟩
 ·skip
  refine JL.alloc ze_39 .none rfl ?_
  intro b103
  refine JA.after hE (HSub.refl _) (.cons _ (.cons_cons _ (.cons_cons _ (List.nil_sublist _)))) ?_
  refine JA.many [3] (by kernel_rfl) (by simp) (all_one ⟨_, #[true, true, true, true, false, false, false, false, true, false, false], rfl, (by kernel_rfl), ?_⟩)
  refine JL.callXB (c_counts_fells n H r.Canopy r_v0 hr_0 r_v7 hr_7 r_v8 hr_8 true) rfl en_99 .none rfl ?_
  rintro H104 _ _ hs104 ⟨bm105, b106, b107, b108, rfl, rfl, hc109, hc110, hc111⟩
  refine JA.after hE hs104 (.cons _ (.cons _ (.cons_cons _ (.cons_cons _ (List.nil_sublist _))))) ?_
  refine JA.perm (swapAt_perm 0 _) ?_
  exact nd31_1 _ _ _ _ ⟨b103, bm105, b106, b107, b108, rfl, rfl, rfl, rfl, rfl, rfl, rfl, MR.empty, hc109, hc110, hc111, hs104⟩
-- 46 ferrule/counts.Stood
noncomputable def F_counts_Stood (n : Nat) (r : Run) : Option (Int × Int) :=
 (F_counts_Harm n r).bind fun y2 => if (y2.2 != 0) = true then (some (0, y2.2)) else (if (y2.1.High == 0) = true then (some (1, 0)) else (if decide (0 < y2.1.Low) = true then (some (2, 0)) else (some (3, 0))))
theorem c_counts_Stood (n : Nat) (H : Hp) (r : Run) (r_v0 : Value) (hr_0 : SL H 7 R_Section r_v0 r.Canopy.Frame.Sections) (r_v7 : Value) (hr_7 : SL H 2 R_Span r_v7 r.Canopy.Ribs) (r_v8 : Value) (hr_8 : SL H 1 RInt r_v8 r.Canopy.Shares) (r_v9 : Value) (hr_9 : SL H 3 R_Blow r_v9 r.Blows) (r_v10 : Value) (hr_10 : SL H 2 R_Meter r_v10 r.Meters) (y : Int × Int) (hF : F_counts_Stood n r = some y) : SC Try.prog 46 [.agg [r_v0, .int .i64 r.Canopy.Frame.Low, .int .i64 r.Canopy.Frame.High, .int .i64 r.Canopy.Frame.Ease.Num, .int .i64 r.Canopy.Frame.Ease.Den, .int .i64 r.Canopy.Frame.Rod, .int .i64 r.Canopy.Frame.Case, r_v7, r_v8, r_v9, r_v10, .int .i64 r.Wrong].toArray] (.tuple [.int .i64 y.1, .int .i64 y.2].toArray) H := by
 rw [F_counts_Stood] at hF
 refine SC.of (N := 23) Try.func46 rfl rfl rfl fun w => ?_
 refine JC.seq (JC.region (by rfl) ?_)
 intro hQ
 refine JL.box (cs := [r_v0, .int .i64 r.Canopy.Frame.Low, .int .i64 r.Canopy.Frame.High, .int .i64 r.Canopy.Frame.Ease.Num, .int .i64 r.Canopy.Frame.Ease.Den, .int .i64 r.Canopy.Frame.Rod, .int .i64 r.Canopy.Frame.Case, r_v7, r_v8, r_v9, r_v10, .int .i64 r.Wrong]) rfl .none rfl ?_
 intro b1
 refine JL.assign .none rfl ?_
 refine JL.assign .none rfl ?_
 refine JL.done hQ (JQ.go (JC.seq (JC.region (by rfl) ?_)))
 intro hQ
 refine JL.loadOwn 0 az_90 rfl rfl rfl .none rfl ?_
 obtain ⟨y2, hy2, hF⟩ := bind_some hF
 refine JL.callS (c_counts_Harm n H r r_v0 hr_0 r_v7 hr_7 r_v8 hr_8 r_v9 hr_9 r_v10 hr_10 y2 hy2) rfl en_44 .none rfl ?_
 refine JL.move .none rfl ?_
 refine JL.extract rfl rfl .none rfl ?_
 refine JL.extract rfl rfl .none rfl ?_
 refine JL.alloc ze_39 .none rfl ?_
 intro b3
 refine JL.storeOwn 0 (cs := [.int .i64 y2.1.Low, .int .i64 y2.1.High]) az_39 rfl rfl rfl (one_cons rfl (one_cons rfl one_nil)) rfl rfl .none ?_
 refine JL.assign .none rfl ?_
 refine JL.done hQ (JQ.go (JC.seq (JC.block (JC.seq (JC.region (by rfl) ?_)))))
 intro hQ
 refine JL.move .none rfl ?_
 refine JL.bin rfl rfl rfl .none rfl ?_
 refine JL.assign .none rfl ?_
 refine JL.done hQ (JQ.go (JC.fresh (fun f => f 2 = .int .i64 0 ∧ f 3 = .int .i64 0 ∧ f 4 = .pointer (some ⟨b3, 0, none⟩) ∧ f 5 = .int .i64 y2.2 ∧ f 11 = .bool (y2.2 != 0)) ⟨rfl, rfl, rfl, rfl, rfl⟩ ?_))
 rintro f ⟨hf2, hf3, hf4, hf5, hf11⟩
 refine (JC.norm (i := 2) hf2 (JC.norm (i := 3) hf3 (JC.norm (i := 4) hf4 (JC.norm (i := 5) hf5 (JC.norm (i := 11) hf11 ?_)))))
 rcases ite_some hF with ⟨hc4, hF⟩ | ⟨hc4, hF⟩
 ·refine JC.cond_t (b := (y2.2 != 0)) rfl hc4 ?_
  refine JC.seq (JC.region (by rfl) ?_)
  intro hQ
  refine JL.move .none rfl ?_
  refine JL.assign .none rfl ?_
  refine JL.assign .none rfl ?_
  refine JL.done hQ (JQ.go (JC.ret (JQ.ret_block (JQ.ret_then ?_))))
  obtain rfl := Option.some.inj hF
  exact JQ.outS rfl (.tmp (.tmp .nil)) rfl
 ·refine JC.cond_f (b := (y2.2 != 0)) rfl hc4 ?_
  refine JC.seq (JC.region (by rfl) ?_)
  intro hQ
  refine JL.fieldAddr fo_39_1 rfl .none rfl ?_
  refine JL.loadOwn 0 az_3 rfl rfl rfl .none rfl ?_
  refine JL.bin rfl rfl rfl .none rfl ?_
  refine JL.assign .none rfl ?_
  refine JL.done hQ (JQ.go ?_)
  rcases ite_some hF with ⟨hc5, hF⟩ | ⟨hc5, hF⟩
  ·refine JC.cond_t (b := (y2.1.High == 0)) rfl hc5 ?_
   refine JC.seq (JC.region (by rfl) ?_)
   intro hQ
   refine JL.assign .none rfl ?_
   refine JL.assign .none rfl ?_
   refine JL.done hQ (JQ.go (JC.ret (JQ.ret_block (JQ.ret_then ?_))))
   obtain rfl := Option.some.inj hF
   exact JQ.outS rfl (.tmp (.tmp .nil)) rfl
  ·refine JC.cond_f (b := (y2.1.High == 0)) rfl hc5 ?_
   refine JC.seq (JC.region (by rfl) ?_)
   intro hQ
   refine JL.fieldAddr fo_39_0 rfl .none rfl ?_
   refine JL.loadOwn 0 az_3 rfl rfl rfl .none rfl ?_
   refine JL.bin rfl rfl rfl .none rfl ?_
   refine JL.assign .none rfl ?_
   refine JL.done hQ (JQ.go ?_)
   rcases ite_some hF with ⟨hc6, hF⟩ | ⟨hc6, hF⟩
   ·refine JC.cond_t (b := decide (0 < y2.1.Low)) rfl hc6 ?_
    refine JC.seq (JC.region (by rfl) ?_)
    intro hQ
    refine JL.assign .none rfl ?_
    refine JL.assign .none rfl ?_
    refine JL.done hQ (JQ.go (JC.ret (JQ.ret_block (JQ.ret_then ?_))))
    obtain rfl := Option.some.inj hF
    exact JQ.outS rfl (.tmp (.tmp .nil)) rfl
   ·refine JC.cond_f (b := decide (0 < y2.1.Low)) rfl hc6 ?_
    refine JC.skip (JQ.normal_block (JQ.go (JC.seq (JC.region (by rfl) ?_))))
    intro hQ
    refine JL.assign .none rfl ?_
    refine JL.assign .none rfl ?_
    refine JL.done hQ (JQ.go (JC.ret ?_))
    obtain rfl := Option.some.inj hF
    exact JQ.outS rfl (.tmp (.tmp .nil)) rfl
-- 187 slices.Clone[[]ferrule/api.Blow,ferrule/api.Blow]
def F_slices_Clone___api_Blow_api_Blow_ (n : Nat) (s : List Blow) : Option (List Blow) := lim s
theorem c_slices_Clone___api_Blow_api_Blow_ (n : Nat) (H : Hp) (s : List Blow) (s_v0 : Value) (hs_0 : SL H 3 R_Blow s_v0 s) (y : List Blow) (hF : F_slices_Clone___api_Blow_api_Blow_ n s = some y) : OC Try.prog 187 [s_v0] H 98 3 (fun m xs => m = y.length ∧ CH H 3 R_Blow xs y) := by
 rw [F_slices_Clone___api_Blow_api_Blow_] at hF
 have hl : lim (([] : List Blow) ++ s) = some y := by rw [List.nil_append]; exact hF
 obtain ⟨rfl, _⟩ := lim_some hF
 obtain ⟨a, c, rfl, hh⟩ := id hs_0
 refine OC.of (N := 8) Try.func187 rfl rfl rfl fun w => ?_
 refine JC.seq (JC.region (by rfl) ?_)
 intro hQ
 refine JL.assign .none rfl ?_
 refine JL.done hQ (JQ.go (JC.seq (JC.seq (JC.region (by rfl) ?_))))
 intro hQ
 refine JL.move .none rfl ?_
 refine JL.eqNil ul_87 rfl rfl .none rfl ?_
 refine JL.done hQ (JQ.go ?_)
 cases a with
 | none =>
  have hnil : y = [] := by
   rcases hh.2 with h | ⟨b, o, h, _⟩
   ·exact h
   ·cases h
  subst hnil
  refine JC.cond_t (b := true) rfl rfl ?_
  refine JC.seq (JC.region (by rfl) ?_)
  intro hQ
  refine JL.assign .none rfl ?_
  refine JL.newNil (e := 98) (sz := 3) ?_
  exact JL.done hQ (JQ.go (JC.ret (JQ.ret_then (JQ.outO 0 rfl rfl rfl ⟨rfl, rfl⟩ ⟨rfl, CH.nil⟩))))
 | some ad =>
  refine JC.cond_f (b := false) rfl rfl ?_
  refine JC.skip (JQ.go (JC.seq (JC.region (by rfl) ?_)))
  intro hQ
  refine JL.emptySlice ap_87 .none rfl ?_
  intro v1
  refine JL.move .none rfl ?_
  refine JL.appD (R := R_Blow) 0 (l := ([] : List Blow)) (m := y) ap_87 rfl ⟨rfl, rfl⟩ rfl CH.nil rfl hs_0 (R_Blow_one _) hl .none rfl ?_
  intro v4 xs5 hch6
  refine JL.assign .none rfl ?_
  exact JL.done hQ (JQ.go (JC.ret (JQ.outO 0 rfl rfl rfl ⟨rfl, rfl⟩ ⟨rfl, hch6⟩)))
-- 153 ferrule/counts.fixed
def F_counts_fixed (n : Nat) (r : Run) (blow : Int) (force : Int) : Option Run :=
 (F_slices_Clone___api_Blow_api_Blow_ n r.Blows).bind fun y3 => (geti y3 blow).bind fun y9 => some (Run.mk r.Canopy (setx y3 blow (Blow.mk y9.At (Span.mk force force))) r.Meters r.Wrong)
theorem c_counts_fixed (n : Nat) (H : Hp) (r : Run) (r_v0 : Value) (hr_0 : SL H 7 R_Section r_v0 r.Canopy.Frame.Sections) (r_v7 : Value) (hr_7 : SL H 2 R_Span r_v7 r.Canopy.Ribs) (r_v8 : Value) (hr_8 : SL H 1 RInt r_v8 r.Canopy.Shares) (r_v9 : Value) (hr_9 : SL H 3 R_Blow r_v9 r.Blows) (r_v10 : Value) (hr_10 : SL H 2 R_Meter r_v10 r.Meters) (blow : Int) (force : Int) (y : Run) (hF : F_counts_fixed n r blow force = some y) : HC Try.prog 153 [.agg [r_v0, .int .i64 r.Canopy.Frame.Low, .int .i64 r.Canopy.Frame.High, .int .i64 r.Canopy.Frame.Ease.Num, .int .i64 r.Canopy.Frame.Ease.Den, .int .i64 r.Canopy.Frame.Rod, .int .i64 r.Canopy.Frame.Case, r_v7, r_v8, r_v9, r_v10, .int .i64 r.Wrong].toArray, .int .i64 blow, .int .i64 force] H (fun H' v => ∃ ra_v0 ra_v7 ra_v8 ra_v9 ra_v10 : Value, v = .agg [ra_v0, .int .i64 y.Canopy.Frame.Low, .int .i64 y.Canopy.Frame.High, .int .i64 y.Canopy.Frame.Ease.Num, .int .i64 y.Canopy.Frame.Ease.Den, .int .i64 y.Canopy.Frame.Rod, .int .i64 y.Canopy.Frame.Case, ra_v7, ra_v8, ra_v9, ra_v10, .int .i64 y.Wrong].toArray ∧ SL H' 7 R_Section ra_v0 y.Canopy.Frame.Sections ∧ SL H' 2 R_Span ra_v7 y.Canopy.Ribs ∧ SL H' 1 RInt ra_v8 y.Canopy.Shares ∧ SL H' 3 R_Blow ra_v9 y.Blows ∧ SL H' 2 R_Meter ra_v10 y.Meters) := by
 rw [F_counts_fixed] at hF
 refine HC.of (N := 20) Try.func153 rfl rfl rfl fun w => ?_
 refine JC.seq (JC.region (by rfl) ?_)
 intro hQ
 refine JL.box (cs := [r_v0, .int .i64 r.Canopy.Frame.Low, .int .i64 r.Canopy.Frame.High, .int .i64 r.Canopy.Frame.Ease.Num, .int .i64 r.Canopy.Frame.Ease.Den, .int .i64 r.Canopy.Frame.Rod, .int .i64 r.Canopy.Frame.Case, r_v7, r_v8, r_v9, r_v10, .int .i64 r.Wrong]) rfl .none rfl ?_
 intro b1
 refine JL.alloc ze_90 .none rfl ?_
 intro b2
 refine JL.done hQ (JQ.go (JC.seq (JC.region (by rfl) ?_)))
 intro hQ
 refine JL.fieldAddr fo_90_1 rfl .none rfl ?_
 refine JL.loadOwn 1 az_87 rfl rfl rfl .none rfl ?_
 obtain ⟨y3, hy3, hF⟩ := bind_some hF
 refine JL.callO (c_slices_Clone___api_Blow_api_Blow_ n H r.Blows r_v9 hr_9 y3 hy3) rfl en_187 .none rfl ?_
 rintro v4 _ xs5 ⟨rfl, hch6⟩
 refine JL.fieldAddr fo_90_1 rfl .none rfl ?_
 refine JL.oneG 0 rfl (fun ho8 => ?_)
 refine JL.storeOwn 1 (cs := [v4]) az_87 rfl ho8.2 rfl (one_cons ho8.1 one_nil) rfl rfl .none ?_
 refine JL.done hQ (JQ.go (JC.seq (JC.region (by rfl) ?_)))
 intro hQ
 refine JL.fieldAddr fo_90_1 rfl .none rfl ?_
 refine JL.loadOwn 1 az_87 rfl rfl rfl .none rfl ?_
 refine JL.move .none rfl ?_
 refine JL.move .none rfl ?_
 refine JL.move .none rfl ?_
 refine JL.build (l := [.int .i64 force, .int .i64 force]) (by kernel_rfl) .none rfl ?_
 obtain ⟨y9, hy9, hF⟩ := bind_some hF
 refine JL.indexG 0 (l := y3) sl_87 rfl rfl rfl rfl hy9 .none rfl ?_
 intro b10 hb11
 refine JL.fieldAddr fo_98_1 rfl .none rfl ?_
 refine JL.storeG (R := R_Blow) 0 (i := blow) (l := y3) (y := y9) (y' := (Blow.mk y9.At (Span.mk force force))) (off := 1) az_39 rfl rfl rfl rfl (one_cons rfl (one_cons rfl one_nil)) rfl hb11 hch6 rfl hy9 rfl (by rintro cs rfl; rfl) .none ?_
 intro xs12 hch13
 refine JL.done hQ (JQ.go (JC.fresh (fun f => f 3 = .pointer (some ⟨b1, 0, none⟩) ∧ f 6 = .pointer (some ⟨b2, 0, none⟩)) ⟨rfl, rfl⟩ ?_))
 rintro f ⟨hf3, hf6⟩
 refine (JC.norm (i := 3) hf3 (JC.norm (i := 6) hf6 ?_))
 refine JC.seq (JC.region (by rfl) ?_)
 intro hQ
 refine JL.loadOwn 1 az_90 rfl rfl rfl .none rfl ?_
 refine JL.oneG 0 rfl (fun ho14 => ?_)
 refine JL.storeOwn 0 (cs := [r_v0, .int .i64 r.Canopy.Frame.Low, .int .i64 r.Canopy.Frame.High, .int .i64 r.Canopy.Frame.Ease.Num, .int .i64 r.Canopy.Frame.Ease.Den, .int .i64 r.Canopy.Frame.Rod, .int .i64 r.Canopy.Frame.Case, r_v7, r_v8, v4, r_v10, .int .i64 r.Wrong]) az_90 rfl rfl rfl (one_cons (SL.one hr_0) (one_cons rfl (one_cons rfl (one_cons rfl (one_cons rfl (one_cons rfl (one_cons rfl (one_cons (SL.one hr_7) (one_cons (SL.one hr_8) (one_cons ho14.1 (one_cons (SL.one hr_10) (one_cons rfl one_nil)))))))))))) rfl rfl .none ?_
 refine JL.done hQ (JQ.go (JC.ret (JQ.freezeG 0 (R := R_Blow) rfl R_Blow_mono hch13 rfl ?_)))
 intro H15 hs15 hg16
 obtain rfl := Option.some.inj hF
 exact JQ.outH rfl (.cell 0 az_90 rfl rfl rfl .nil) ⟨r_v0, r_v7, r_v8, v4, r_v10, rfl, (SL.mono R_Section_mono hs15 hr_0), (SL.mono R_Span_mono hs15 hr_7), (SL.mono RInt.mono hs15 hr_8), hg16, (SL.mono R_Meter_mono hs15 hr_10)⟩
end Go.Proofs.Yteihdclpiekmaaa
end
section
set_option maxRecDepth 100000
set_option maxHeartbeats 40000000
namespace Go.Proofs.Yteihdclpiekmaaa
open Go Go.RowKit Go.Dec
set_option linter.unusedVariables false
-- 101 ferrule/counts.Forces
noncomputable def F_counts_Forces_s1 (n : Nat) (r : Run) (blow : Int) : Int × List Int → Option ((Int × List Int) ⊕ (List Int))
 | (force_210, out_211) => (geti r.Blows blow).bind fun y215 => if decide (force_210 ≤ y215.Force.High) = true then ((F_counts_fixed n r blow force_210).bind fun y221 => (F_counts_open n y221 true (fun a0_ a1_ => F_counts_none n a0_ a1_)).bind fun y224 => (if (y224.2.2 == 0) = true then ((lim (out_211 ++ [force_210])).bind fun l238 => some l238) else (some out_211)).bind fun out_233 => some (Sum.inl ((w64 (force_210 + 1)), out_233))) else (some (Sum.inr out_211))
noncomputable def F_counts_Forces (n : Nat) (r : Run) (blow : Int) : Option ((List Int) × Int) :=
 (F_counts_within n blow 0 (w64 ((r.Blows.length : Int) - 1))).bind fun y4 => (F_counts_open n r y4 (fun a0_ a1_ => F_counts_none n a0_ a1_)).bind fun y5 => if (y5.2.2 != 0) = true then (some (([] : List Int), y5.2.2)) else ((geti r.Blows blow).bind fun y13 => (loopO n (F_counts_Forces_s1 n r blow) (y13.Force.Low, ([] : List Int))).bind fun out_147 => some (out_147, 0))
theorem c_counts_Forces (n : Nat) (H : Hp) (r : Run) (r_v0 : Value) (hr_0 : SL H 7 R_Section r_v0 r.Canopy.Frame.Sections) (r_v7 : Value) (hr_7 : SL H 2 R_Span r_v7 r.Canopy.Ribs) (r_v8 : Value) (hr_8 : SL H 1 RInt r_v8 r.Canopy.Shares) (r_v9 : Value) (hr_9 : SL H 3 R_Blow r_v9 r.Blows) (r_v10 : Value) (hr_10 : SL H 2 R_Meter r_v10 r.Meters) (blow : Int) (y : (List Int) × Int) (hF : F_counts_Forces n r blow = some y) : HC Try.prog 101 [.agg [r_v0, .int .i64 r.Canopy.Frame.Low, .int .i64 r.Canopy.Frame.High, .int .i64 r.Canopy.Frame.Ease.Num, .int .i64 r.Canopy.Frame.Ease.Den, .int .i64 r.Canopy.Frame.Rod, .int .i64 r.Canopy.Frame.Case, r_v7, r_v8, r_v9, r_v10, .int .i64 r.Wrong].toArray, .int .i64 blow] H (fun H' v => ∃ ra_v0 : Value, v = .tuple [ra_v0, .int .i64 y.2].toArray ∧ SL H' 1 RInt ra_v0 y.1) := by
 rw [F_counts_Forces] at hF
 refine HC.of (N := 63) Try.func101 rfl rfl rfl fun w => ?_
 refine JC.seq (JC.region (by rfl) ?_)
 intro hQ
 refine JL.box (cs := [r_v0, .int .i64 r.Canopy.Frame.Low, .int .i64 r.Canopy.Frame.High, .int .i64 r.Canopy.Frame.Ease.Num, .int .i64 r.Canopy.Frame.Ease.Den, .int .i64 r.Canopy.Frame.Rod, .int .i64 r.Canopy.Frame.Case, r_v7, r_v8, r_v9, r_v10, .int .i64 r.Wrong]) rfl .none rfl ?_
 intro b1
 refine JL.assign .none rfl ?_
 refine JL.assign .none rfl ?_
 refine JL.done hQ (JQ.go (JC.seq (JC.seq ?_)))
 obtain ⟨y4, hy4, hF⟩ := bind_some hF
 obtain ⟨y5, hy5, hF⟩ := bind_some hF
 refine JC.mixed 15 15 #[false, false, false, false, false, false, false, false, false, false, false, false, false, false, false] [(b1, .cells [r_v0, .int .i64 r.Canopy.Frame.Low, .int .i64 r.Canopy.Frame.High, .int .i64 r.Canopy.Frame.Ease.Num, .int .i64 r.Canopy.Frame.Ease.Den, .int .i64 r.Canopy.Frame.Rod, .int .i64 r.Canopy.Frame.Case, r_v7, r_v8, r_v9, r_v10, .int .i64 r.Wrong].toArray 90)] (by rfl) mo_ (by kernel_rfl) (by kernel_rfl) ?_
 intro hQ hE
 refine JA.take 0 (listed' := #[true, false, false, false, false, false, false, false, false, false, false, false, false, false, false]) hQ rfl (by kernel_rfl) (by kernel_rfl) (by kernel_rfl) (by kernel_rfl) (by kernel_rfl) hE (HSub.refl _) (.cons_cons _ (List.nil_sublist _)) ?_
 refine JL.loadOwn 0 az_90 rfl rfl rfl .none rfl ?_
 refine JA.cont ?_
 refine JA.take 1 (listed' := #[true, true, false, false, false, false, false, false, false, false, false, false, false, false, false]) hQ rfl (by kernel_rfl) (by kernel_rfl) (by kernel_rfl) (by kernel_rfl) (by kernel_rfl) hE (HSub.refl _) (.cons_cons _ (List.nil_sublist _)) ?_
 refine JL.move .none rfl ?_
 refine JA.cont ?_
 refine JA.take 2 (listed' := #[true, true, true, false, false, false, false, false, false, false, false, false, false, false, false]) hQ rfl (by kernel_rfl) (by kernel_rfl) (by kernel_rfl) (by kernel_rfl) (by kernel_rfl) hE (HSub.refl _) (.cons_cons _ (List.nil_sublist _)) ?_
 refine JL.fieldAddr fo_90_1 rfl .none rfl ?_
 refine JA.cont ?_
 refine JA.take 3 (listed' := #[true, true, true, true, false, false, false, false, false, false, false, false, false, false, false]) hQ rfl (by kernel_rfl) (by kernel_rfl) (by kernel_rfl) (by kernel_rfl) (by kernel_rfl) hE (HSub.refl _) (.cons_cons _ (List.nil_sublist _)) ?_
 refine JL.loadOwn 0 az_87 rfl rfl rfl .none rfl ?_
 refine JA.cont ?_
 refine JA.take 4 (listed' := #[true, true, true, true, true, false, false, false, false, false, false, false, false, false, false]) hQ rfl (by kernel_rfl) (by kernel_rfl) (by kernel_rfl) (by kernel_rfl) (by kernel_rfl) hE (HSub.refl _) (.cons_cons _ (List.nil_sublist _)) ?_
 refine JL.lenSL (R := R_Blow) ul_87 hr_9 .none rfl ?_
 refine JA.cont ?_
 refine JA.take 5 (listed' := #[true, true, true, true, true, true, false, false, false, false, false, false, false, false, false]) hQ rfl (by kernel_rfl) (by kernel_rfl) (by kernel_rfl) (by kernel_rfl) (by kernel_rfl) hE (HSub.refl _) (.cons_cons _ (List.nil_sublist _)) ?_
 refine JL.bin rfl rfl rfl .none rfl ?_
 refine JA.cont ?_
 refine JA.many [6] (by kernel_rfl) (by simp) (all_one ⟨_, #[true, true, true, true, true, true, true, false, false, false, false, false, false, false, false], rfl, (by kernel_rfl), ?_⟩)
 refine JL.callS (c_counts_within n H blow 0 (w64 ((r.Blows.length : Int) - 1)) y4 hy4) rfl en_152 .none rfl ?_
 refine JA.after hE (HSub.refl _) (.cons_cons _ (List.nil_sublist _)) ?_
 refine JA.many [7] (by kernel_rfl) (by simp) (all_one ⟨_, #[true, true, true, true, true, true, true, true, false, false, false, false, false, false, false], rfl, (by kernel_rfl), ?_⟩)
 refine JL.callH (c_counts_open n H r r_v0 hr_0 r_v7 hr_7 r_v8 hr_8 r_v9 hr_9 r_v10 hr_10 y4 (fun a0_ a1_ => F_counts_none n a0_ a1_) 149 [] en_149 (fun H' hs' a0_ a1_ y' hy' => c_counts_none n H' a0_ a1_ y' hy') y5 hy5) rfl en_148 .none rfl ?_
 rintro H10 vv11 hs10 ⟨y5a_v0, y5b_v0, rfl, hy5a_0, hy5b_0⟩
 refine JA.after hE hs10 (.cons_cons _ (List.nil_sublist _)) ?_
 refine JA.take 8 (listed' := #[true, true, true, true, true, true, true, true, true, false, false, false, false, false, false]) hQ rfl (by kernel_rfl) (by kernel_rfl) (by kernel_rfl) (by kernel_rfl) (by kernel_rfl) hE hs10 (.cons_cons _ (List.nil_sublist _)) ?_
 refine JL.move .none rfl ?_
 refine JA.cont ?_
 refine JA.take 9 (listed' := #[true, true, true, true, true, true, true, true, true, true, false, false, false, false, false]) hQ rfl (by kernel_rfl) (by kernel_rfl) (by kernel_rfl) (by kernel_rfl) (by kernel_rfl) hE hs10 (.cons_cons _ (List.nil_sublist _)) ?_
 refine JL.extract rfl rfl .none rfl ?_
 refine JA.cont ?_
 refine JA.take 10 (listed' := #[true, true, true, true, true, true, true, true, true, true, true, false, false, false, false]) hQ rfl (by kernel_rfl) (by kernel_rfl) (by kernel_rfl) (by kernel_rfl) (by kernel_rfl) hE hs10 (.cons_cons _ (List.nil_sublist _)) ?_
 refine JL.extract rfl rfl .none rfl ?_
 refine JA.cont ?_
 refine JA.take 11 (listed' := #[true, true, true, true, true, true, true, true, true, true, true, true, false, false, false]) hQ rfl (by kernel_rfl) (by kernel_rfl) (by kernel_rfl) (by kernel_rfl) (by kernel_rfl) hE hs10 (.cons_cons _ (List.nil_sublist _)) ?_
 refine JL.extract rfl rfl .none rfl ?_
 refine JA.cont ?_
 refine JA.take 12 (listed' := #[true, true, true, true, true, true, true, true, true, true, true, true, true, false, false]) hQ rfl (by kernel_rfl) (by kernel_rfl) (by kernel_rfl) (by kernel_rfl) (by kernel_rfl) hE hs10 (.cons_cons _ (List.nil_sublist _)) ?_
 refine JL.assign .none rfl ?_
 refine JA.cont ?_
 refine JA.take 13 (listed' := #[true, true, true, true, true, true, true, true, true, true, true, true, true, true, false]) hQ rfl (by kernel_rfl) (by kernel_rfl) (by kernel_rfl) (by kernel_rfl) (by kernel_rfl) hE hs10 (.cons_cons _ (List.nil_sublist _)) ?_
 refine JL.assign .none rfl ?_
 refine JA.cont ?_
 refine JA.take 14 (listed' := #[true, true, true, true, true, true, true, true, true, true, true, true, true, true, true]) hQ rfl (by kernel_rfl) (by kernel_rfl) (by kernel_rfl) (by kernel_rfl) (by kernel_rfl) hE hs10 (.cons_cons _ (List.nil_sublist _)) ?_
 refine JL.assign .none rfl ?_
 refine JA.cont ?_
 refine JA.done hQ (by kernel_rfl) ?_
 refine JQ.go (JC.fresh (fun f => f 1 = .int .i64 blow ∧ f 2 = .pointer (some ⟨b1, 0, none⟩) ∧ f 4 = .slice none 0 0 ∧ f 5 = .int .i64 0 ∧ f 8 = .int .i64 y5.2.2) ⟨rfl, rfl, rfl, rfl, rfl⟩ ?_)
 rintro f ⟨hf1, hf2, hf4, hf5, hf8⟩
 refine (JC.norm (i := 1) hf1 (JC.norm (i := 2) hf2 (JC.norm (i := 4) hf4 (JC.norm (i := 5) hf5 (JC.norm (i := 8) hf8 ?_)))))
 refine JC.seq (JC.region (by rfl) ?_)
 intro hQ
 refine JL.move .none rfl ?_
 refine JL.bin rfl rfl rfl .none rfl ?_
 refine JL.done hQ (JQ.go ?_)
 rcases ite_some hF with ⟨hc12, hF⟩ | ⟨hc12, hF⟩
 ·refine JC.cond_t (b := (y5.2.2 != 0)) rfl hc12 ?_
  refine JC.seq (JC.region (by rfl) ?_)
  intro hQ
  refine JL.move .none rfl ?_
  refine JL.assign .none rfl ?_
  refine JL.assign .none rfl ?_
  refine JL.done hQ (JQ.go (JC.ret (JQ.ret_then ?_)))
  obtain rfl := Option.some.inj hF
  exact JQ.outH rfl (.tmp (.tmp .nil)) ⟨(.slice none 0 0), rfl, SL.nil⟩
 ·refine JC.cond_f (b := (y5.2.2 != 0)) rfl hc12 ?_
  refine JC.skip (JQ.go (JC.seq (JC.region (by rfl) ?_)))
  intro hQ
  refine JL.assign .none rfl ?_
  refine JL.done hQ (JQ.go (JC.seq (JC.seq (JC.region (by rfl) ?_))))
  intro hQ
  refine JL.fieldAddr fo_90_1 rfl .none rfl ?_
  refine JL.loadOwn 0 az_87 rfl rfl rfl .none rfl ?_
  refine JL.move .none rfl ?_
  obtain ⟨y13, hy13, hF⟩ := bind_some hF
  refine JL.indexSL (R := R_Blow) sl_87 (SL.mono R_Blow_mono hs10 hr_9) rfl hy13 .none rfl ?_
  rintro b14 o15 cs16 hc17 - rfl
  refine JL.fieldAddr fo_98_1 rfl .none rfl ?_
  refine JL.fieldAddr fo_39_0 rfl .none rfl ?_
  refine JL.loadH 1 az_3 rfl hc17 rfl .none rfl ?_
  refine JL.assign .none rfl ?_
  refine JL.done hQ (JQ.go (JC.fresh (fun f => f 1 = .int .i64 blow ∧ f 2 = .pointer (some ⟨b1, 0, none⟩) ∧ f 4 = .slice none 0 0 ∧ f 5 = .int .i64 0 ∧ f 9 = .slice none 0 0 ∧ f 10 = .int .i64 y13.Force.Low) ⟨rfl, rfl, rfl, rfl, rfl, rfl⟩ ?_))
  rintro f ⟨hf1, hf2, hf4, hf5, hf9, hf10⟩
  refine (JC.norm (i := 1) hf1 (JC.norm (i := 2) hf2 (JC.norm (i := 4) hf4 (JC.norm (i := 5) hf5 (JC.norm (i := 9) hf9 (JC.norm (i := 10) hf10 ?_))))))
  refine JC.newNil (e := 3) (sz := 1) ?_
  obtain ⟨r149, hlr149, hKr149⟩ := bind_some hF
  refine JC.join (fun (out_147 : List Int) H148 f bs gs => ∃ (vout_147 : Value) (xsout_147 : List Value), f 9 = vout_147 ∧ bs = [] ∧ gs = [⟨vout_147, 3, 1, out_147.length, xsout_147⟩] ∧ CH H148 1 RInt xsout_147 out_147 ∧ HSub H10 H148 ∧ out_147 = r149) ?_ ?_
  ·skip
   refine JC.block (JC.loop hlr149 (fun (x : Int × List Int) H212 f bs gs => match x with | (force_210, out_211) => ∃ (vout_211 : Value) (xsout_211 : List Value), f 1 = .int .i64 blow ∧ f 2 = .pointer (some ⟨b1, 0, none⟩) ∧ f 9 = vout_211 ∧ f 10 = .int .i64 force_210 ∧ bs = [(b1, .cells [r_v0, .int .i64 r.Canopy.Frame.Low, .int .i64 r.Canopy.Frame.High, .int .i64 r.Canopy.Frame.Ease.Num, .int .i64 r.Canopy.Frame.Ease.Den, .int .i64 r.Canopy.Frame.Rod, .int .i64 r.Canopy.Frame.Case, r_v7, r_v8, r_v9, r_v10, .int .i64 r.Wrong].toArray 90)] ∧ gs = [⟨vout_211, 3, 1, out_211.length, xsout_211⟩] ∧ CH H212 1 RInt xsout_211 out_211 ∧ HSub H10 H212) ⟨(.slice none 0 0), [], rfl, rfl, rfl, rfl, rfl, rfl, CH.nil, (HSub.refl _)⟩ ?_)
   rintro ⟨force_210, out_211⟩ x214 H212 f bs gs ⟨vout_211, xsout_211, hf1, hf2, hf9, hf10, rfl, rfl, hout_211, hs212⟩ hF hr213
   rw [F_counts_Forces_s1] at hF
   refine (JC.norm (i := 1) hf1 (JC.norm (i := 2) hf2 (JC.norm (i := 9) hf9 (JC.norm (i := 10) hf10 ?_))))
   refine JC.seq (JC.seq (JC.region (by rfl) ?_))
   intro hQ
   refine JL.move .none rfl ?_
   refine JL.fieldAddr fo_90_1 rfl .none rfl ?_
   refine JL.loadOwn 0 az_87 rfl rfl rfl .none rfl ?_
   refine JL.move .none rfl ?_
   obtain ⟨y215, hy215, hF⟩ := bind_some hF
   refine JL.indexSL (R := R_Blow) sl_87 (SL.mono R_Blow_mono (HSub.trans hs10 hs212) hr_9) rfl hy215 .none rfl ?_
   rintro b216 o217 cs218 hc219 - rfl
   refine JL.fieldAddr fo_98_1 rfl .none rfl ?_
   refine JL.fieldAddr fo_39_1 rfl .none rfl ?_
   refine JL.loadH 2 az_3 rfl hc219 rfl .none rfl ?_
   refine JL.bin rfl rfl rfl .none rfl ?_
   refine JL.done hQ (JQ.go ?_)
   rcases ite_some hF with ⟨hc220, hF⟩ | ⟨hc220, hF⟩
   ·refine JC.cond_t (b := decide (force_210 ≤ y215.Force.High)) rfl hc220 ?_
    refine JC.skip (JQ.go (JC.seq (JC.block (JC.seq (JC.region (by rfl) ?_)))))
    intro hQ
    refine JL.loadOwn 0 az_90 rfl rfl rfl .none rfl ?_
    refine JL.move .none rfl ?_
    refine JL.move .none rfl ?_
    obtain ⟨y221, hy221, hF⟩ := bind_some hF
    refine JL.callH (c_counts_fixed n H212 r r_v0 (SL.mono R_Section_mono (HSub.trans hs10 hs212) hr_0) r_v7 (SL.mono R_Span_mono (HSub.trans hs10 hs212) hr_7) r_v8 (SL.mono RInt.mono (HSub.trans hs10 hs212) hr_8) r_v9 (SL.mono R_Blow_mono (HSub.trans hs10 hs212) hr_9) r_v10 (SL.mono R_Meter_mono (HSub.trans hs10 hs212) hr_10) blow force_210 y221 hy221) rfl en_153 .none rfl ?_
    rintro H222 vv223 hs222 ⟨y221a_v0, y221a_v7, y221a_v8, y221a_v9, y221a_v10, rfl, hy221a_0, hy221a_7, hy221a_8, hy221a_9, hy221a_10⟩
    obtain ⟨y224, hy224, hF⟩ := bind_some hF
    refine JL.callH (c_counts_open n H222 y221 y221a_v0 hy221a_0 y221a_v7 hy221a_7 y221a_v8 hy221a_8 y221a_v9 hy221a_9 y221a_v10 hy221a_10 true (fun a0_ a1_ => F_counts_none n a0_ a1_) 149 [] en_149 (fun H' hs' a0_ a1_ y' hy' => c_counts_none n H' a0_ a1_ y' hy') y224 hy224) rfl en_148 .none rfl ?_
    rintro H225 vv226 hs225 ⟨y224a_v0, y224b_v0, rfl, hy224a_0, hy224b_0⟩
    refine JL.move .none rfl ?_
    refine JL.extract rfl rfl .none rfl ?_
    refine JL.extract rfl rfl .none rfl ?_
    refine JL.extract rfl rfl .none rfl ?_
    refine JL.assign .none rfl ?_
    refine JL.assign .none rfl ?_
    refine JL.assign .none rfl ?_
    refine JL.done hQ (JQ.go (JC.fresh (fun f => f 1 = .int .i64 blow ∧ f 2 = .pointer (some ⟨b1, 0, none⟩) ∧ f 9 = vout_211 ∧ f 10 = .int .i64 force_210 ∧ f 13 = .int .i64 y224.2.2) ⟨rfl, rfl, rfl, rfl, rfl⟩ ?_))
    rintro f ⟨hf1, hf2, hf9, hf10, hf13⟩
    refine (JC.norm (i := 1) hf1 (JC.norm (i := 2) hf2 (JC.norm (i := 9) hf9 (JC.norm (i := 10) hf10 (JC.norm (i := 13) hf13 ?_)))))
    refine JC.seq (JC.region (by rfl) ?_)
    intro hQ
    refine JL.move .none rfl ?_
    refine JL.bin rfl rfl rfl .none rfl ?_
    refine JL.done hQ (JQ.go ?_)
    obtain ⟨r235, hlr235, hKr235⟩ := bind_some hF
    refine JC.join (fun (out_233 : List Int) H234 f bs gs => ∃ (vout_233 : Value) (xsout_233 : List Value), f 1 = .int .i64 blow ∧ f 2 = .pointer (some ⟨b1, 0, none⟩) ∧ f 9 = vout_233 ∧ f 10 = .int .i64 force_210 ∧ bs = [(b1, .cells [r_v0, .int .i64 r.Canopy.Frame.Low, .int .i64 r.Canopy.Frame.High, .int .i64 r.Canopy.Frame.Ease.Num, .int .i64 r.Canopy.Frame.Ease.Den, .int .i64 r.Canopy.Frame.Rod, .int .i64 r.Canopy.Frame.Case, r_v7, r_v8, r_v9, r_v10, .int .i64 r.Wrong].toArray 90)] ∧ gs = [⟨vout_233, 3, 1, out_233.length, xsout_233⟩] ∧ CH H234 1 RInt xsout_233 out_233 ∧ HSub H225 H234 ∧ out_233 = r235) ?_ ?_
    ·have hF := hlr235
     rcases ite_some hF with ⟨hc236, hF⟩ | ⟨hc236, hF⟩
     ·refine JC.cond_t (b := (y224.2.2 == 0)) rfl hc236 ?_
      refine JC.region (by rfl) ?_
      intro hQ
      refine JL.move .none rfl ?_
      refine JL.move .none rfl ?_
      refine JL.buildSlice (e := 3) (l := [.int .i64 force_210]) (by kernel_rfl) .none rfl ?_
      intro b237
      obtain ⟨l238, hl238, hF⟩ := bind_some hF
      refine JL.appO (R := RInt) 0 0 (l := out_211) (m := [force_210]) ap_23 rfl ⟨rfl, rfl⟩ rfl (CH.mono RInt.mono (HSub.trans hs222 hs225) hout_211) rfl rfl rfl (CH.cons (cs := [.int .i64 force_210]) rfl rfl CH.nil) rfl (one_cons rfl one_nil) hl238 .none rfl ?_
      intro v239 xs240 hch241
      refine JL.assign .none rfl ?_
      refine JL.done hQ ?_
      obtain rfl := Option.some.inj hF
      refine JQ.mask [false, true] [true] ?_
      exact JQ.join l238 ⟨v239, xs240, rfl, rfl, rfl, rfl, rfl, rfl, hch241, (HSub.refl _), rfl⟩
     ·refine JC.cond_f (b := (y224.2.2 == 0)) rfl hc236 ?_
      refine JC.skip ?_
      obtain rfl := Option.some.inj hF
      exact JQ.join out_211 ⟨vout_211, xsout_211, rfl, rfl, rfl, rfl, rfl, rfl, (CH.mono RInt.mono (HSub.trans hs222 hs225) hout_211), (HSub.refl _), rfl⟩
    ·rintro out_233 H234 f bs gs ⟨vout_233, xsout_233, hf1, hf2, hf9, hf10, rfl, rfl, hout_233, hs234, rfl⟩
     have hF := hKr235
     try dsimp only at hF
     refine (JQ.norm (i := 1) hf1 (JQ.norm (i := 2) hf2 (JQ.norm (i := 9) hf9 (JQ.norm (i := 10) hf10 ?_))))
     refine JQ.normal_block (JQ.go (JC.region (by rfl) ?_))
     intro hQ
     refine JL.move .none rfl ?_
     refine JL.bin rfl rfl rfl .none rfl ?_
     refine JL.assign .none rfl ?_
     refine JL.done hQ ?_
     obtain rfl := Option.some.inj hF
     exact JQ.next rfl ⟨vout_233, xsout_233, rfl, rfl, rfl, rfl, rfl, rfl, hout_233, (HSub.trans hs212 (HSub.trans hs222 (HSub.trans hs225 hs234)))⟩
   ·refine JC.cond_f (b := decide (force_210 ≤ y215.Force.High)) rfl hc220 ?_
    refine JC.exit (JQ.exit_then (JQ.exit_then (JQ.exit_block ?_)))
    obtain rfl := Option.some.inj hF
    have ehr213 := hr213 _ rfl
    subst ehr213
    refine JQ.mask [false] [true] ?_
    exact JQ.join out_211 ⟨vout_211, xsout_211, rfl, rfl, rfl, hout_211, hs212, rfl⟩
  ·rintro out_147 H148 f bs gs ⟨vout_147, xsout_147, hf9, rfl, rfl, hout_147, hs148, rfl⟩
   have hF := hKr149
   try dsimp only at hF
   refine (JQ.norm (i := 9) hf9 ?_)
   refine JQ.go (JC.seq (JC.region (by rfl) ?_))
   intro hQ
   refine JL.move .none rfl ?_
   refine JL.assign .none rfl ?_
   refine JL.assign .none rfl ?_
   refine JL.done hQ (JQ.go (JC.ret (JQ.freezeG 0 (R := RInt) rfl RInt.mono hout_147 rfl ?_)))
   intro H242 hs242 hg243
   obtain rfl := Option.some.inj hF
   exact JQ.outH rfl (.tmp (.tmp .nil)) ⟨vout_147, rfl, hg243⟩
-- 47 ferrule/ferruletop.greatest
noncomputable def F_top_greatest_s1 (n : Nat) (r : Run) : Int × List Gust → Option ((Int × List Gust) ⊕ (((List Gust) × Bool) ⊕ (List Gust)))
 | (i_471, out_472) => if decide (i_471 < (r.Blows.length : Int)) = true then ((F_counts_Forces n r i_471).bind fun y477 => if (((y477.2 != 0) || ((y477.1.length : Int) == 0)) || (decide (20 < (y477.1.length : Int)))) = true then (some (Sum.inr (Sum.inl (([] : List Gust), false)))) else ((geti y477.1 (w64 ((y477.1.length : Int) - 1))).bind fun y495 => (geti r.Blows i_471).bind fun y500 => (lim (out_472 ++ [(Gust.mk y495 y500.At)])).bind fun l506 => some (Sum.inl ((w64 (i_471 + 1)), l506)))) else (some (Sum.inr (Sum.inr out_472)))
noncomputable def F_top_greatest (n : Nat) (r : Run) : Option ((List Gust) × Bool) :=
 (loopO n (F_top_greatest_s1 n r) (0, ([] : List Gust))).bind fun r316 => match r316 with | .inl o => some o | .inr out_314 => some (out_314, true)
theorem c_top_greatest (n : Nat) (H : Hp) (r : Run) (r_v0 : Value) (hr_0 : SL H 7 R_Section r_v0 r.Canopy.Frame.Sections) (r_v7 : Value) (hr_7 : SL H 2 R_Span r_v7 r.Canopy.Ribs) (r_v8 : Value) (hr_8 : SL H 1 RInt r_v8 r.Canopy.Shares) (r_v9 : Value) (hr_9 : SL H 3 R_Blow r_v9 r.Blows) (r_v10 : Value) (hr_10 : SL H 2 R_Meter r_v10 r.Meters) (y : (List Gust) × Bool) (hF : F_top_greatest n r = some y) : HC Try.prog 47 [.agg [r_v0, .int .i64 r.Canopy.Frame.Low, .int .i64 r.Canopy.Frame.High, .int .i64 r.Canopy.Frame.Ease.Num, .int .i64 r.Canopy.Frame.Ease.Den, .int .i64 r.Canopy.Frame.Rod, .int .i64 r.Canopy.Frame.Case, r_v7, r_v8, r_v9, r_v10, .int .i64 r.Wrong].toArray] H (fun H' v => ∃ ra_v0 : Value, v = .tuple [ra_v0, .bool y.2].toArray ∧ SL H' 2 R_Gust ra_v0 y.1) := by
 rw [F_top_greatest] at hF
 refine HC.of (N := 50) Try.func47 rfl rfl rfl fun w => ?_
 refine JC.seq (JC.region (by rfl) ?_)
 intro hQ
 refine JL.box (cs := [r_v0, .int .i64 r.Canopy.Frame.Low, .int .i64 r.Canopy.Frame.High, .int .i64 r.Canopy.Frame.Ease.Num, .int .i64 r.Canopy.Frame.Ease.Den, .int .i64 r.Canopy.Frame.Rod, .int .i64 r.Canopy.Frame.Case, r_v7, r_v8, r_v9, r_v10, .int .i64 r.Wrong]) rfl .none rfl ?_
 intro b1
 refine JL.assign .none rfl ?_
 refine JL.assign .none rfl ?_
 refine JL.done hQ (JQ.go (JC.seq (JC.region (by rfl) ?_)))
 intro hQ
 refine JL.assign .none rfl ?_
 refine JL.done hQ (JQ.go (JC.seq (JC.seq (JC.region (by rfl) ?_))))
 intro hQ
 refine JL.assign .none rfl ?_
 refine JL.done hQ (JQ.go (JC.newNil (e := 86) (sz := 2) ?_))
 obtain ⟨r316, hlr316, hKr316⟩ := bind_some hF
 refine JC.join (fun (out_314 : List Gust) H315 f bs gs => ∃ (vout_314 : Value) (xsout_314 : List Value), f 4 = vout_314 ∧ bs = [] ∧ gs = [⟨vout_314, 86, 2, out_314.length, xsout_314⟩] ∧ CH H315 2 R_Gust xsout_314 out_314 ∧ HSub H H315 ∧ Sum.inr out_314 = r316) ?_ ?_
 ·skip
  refine JC.block (JC.loop hlr316 (fun (x : Int × List Gust) H473 f bs gs => match x with | (i_471, out_472) => ∃ (vout_472 : Value) (xsout_472 : List Value), f 1 = .pointer (some ⟨b1, 0, none⟩) ∧ f 4 = vout_472 ∧ f 5 = .int .i64 i_471 ∧ bs = [(b1, .cells [r_v0, .int .i64 r.Canopy.Frame.Low, .int .i64 r.Canopy.Frame.High, .int .i64 r.Canopy.Frame.Ease.Num, .int .i64 r.Canopy.Frame.Ease.Den, .int .i64 r.Canopy.Frame.Rod, .int .i64 r.Canopy.Frame.Case, r_v7, r_v8, r_v9, r_v10, .int .i64 r.Wrong].toArray 90)] ∧ gs = [⟨vout_472, 86, 2, out_472.length, xsout_472⟩] ∧ CH H473 2 R_Gust xsout_472 out_472 ∧ HSub H H473) ⟨(.slice none 0 0), [], rfl, rfl, rfl, rfl, rfl, CH.nil, (HSub.refl _)⟩ ?_)
  rintro ⟨i_471, out_472⟩ x475 H473 f bs gs ⟨vout_472, xsout_472, hf1, hf4, hf5, rfl, rfl, hout_472, hs473⟩ hF hr474
  rw [F_top_greatest_s1] at hF
  refine (JC.norm (i := 1) hf1 (JC.norm (i := 4) hf4 (JC.norm (i := 5) hf5 ?_)))
  refine JC.seq (JC.seq (JC.region (by rfl) ?_))
  intro hQ
  refine JL.move .none rfl ?_
  refine JL.fieldAddr fo_90_1 rfl .none rfl ?_
  refine JL.loadOwn 0 az_87 rfl rfl rfl .none rfl ?_
  refine JL.lenSL (R := R_Blow) ul_87 (SL.mono R_Blow_mono hs473 hr_9) .none rfl ?_
  refine JL.bin rfl rfl rfl .none rfl ?_
  refine JL.done hQ (JQ.go ?_)
  rcases ite_some hF with ⟨hc476, hF⟩ | ⟨hc476, hF⟩
  ·refine JC.cond_t (b := decide (i_471 < (r.Blows.length : Int))) rfl hc476 ?_
   refine JC.skip (JQ.go (JC.seq (JC.block (JC.seq (JC.region (by rfl) ?_)))))
   intro hQ
   refine JL.loadOwn 0 az_90 rfl rfl rfl .none rfl ?_
   refine JL.move .none rfl ?_
   obtain ⟨y477, hy477, hF⟩ := bind_some hF
   refine JL.callH (c_counts_Forces n H473 r r_v0 (SL.mono R_Section_mono hs473 hr_0) r_v7 (SL.mono R_Span_mono hs473 hr_7) r_v8 (SL.mono RInt.mono hs473 hr_8) r_v9 (SL.mono R_Blow_mono hs473 hr_9) r_v10 (SL.mono R_Meter_mono hs473 hr_10) i_471 y477 hy477) rfl en_101 .none rfl ?_
   rintro H478 vv479 hs478 ⟨y477a_v0, rfl, hy477a_0⟩
   refine JL.move .none rfl ?_
   refine JL.extract rfl rfl .none rfl ?_
   refine JL.extract rfl rfl .none rfl ?_
   refine JL.assign .none rfl ?_
   refine JL.assign .none rfl ?_
   refine JL.done hQ (JQ.go (JC.fresh (fun f => f 1 = .pointer (some ⟨b1, 0, none⟩) ∧ f 4 = vout_472 ∧ f 5 = .int .i64 i_471 ∧ f 6 = y477a_v0 ∧ f 7 = .int .i64 y477.2) ⟨rfl, rfl, rfl, rfl, rfl⟩ ?_))
   rintro f ⟨hf1, hf4, hf5, hf6, hf7⟩
   refine (JC.norm (i := 1) hf1 (JC.norm (i := 4) hf4 (JC.norm (i := 5) hf5 (JC.norm (i := 6) hf6 (JC.norm (i := 7) hf7 ?_)))))
   refine JC.seq (JC.seq (JC.region (by rfl) ?_))
   intro hQ
   refine JL.move .none rfl ?_
   refine JL.bin rfl rfl rfl .none rfl ?_
   refine JL.move .none rfl ?_
   refine JL.cut 4 (fun f => f 1 = .pointer (some ⟨b1, 0, none⟩) ∧ f 4 = vout_472 ∧ f 5 = .int .i64 i_471 ∧ f 6 = y477a_v0 ∧ f 27 = .bool ((y477.2 != 0) || ((y477.1.length : Int) == 0))) ?_ ?_
   ·intro hJ480
    rcases bcases (y477.2 != 0) with hc481 | hc481
    ·skip
     refine JL.skip (.bool rfl rfl rfl hc481) rfl ?_
     refine JL.skip (.bool rfl rfl rfl hc481) rfl ?_
     refine JL.skip (.bool rfl rfl rfl hc481) rfl ?_
     refine JL.pick_t (b := (y477.2 != 0)) rfl hc481 .none rfl ?_
     exact hJ480 _ ⟨rfl, rfl, rfl, rfl, or_t hc481 rfl⟩
    ·skip
     refine JL.move (.some rfl rfl rfl hc481) rfl ?_
     refine JL.lenSL (R := RInt) ul_23 hy477a_0 (.some rfl rfl rfl hc481) rfl ?_
     refine JL.bin rfl rfl rfl (.some rfl rfl rfl hc481) rfl ?_
     refine JL.pick_f (b := (y477.2 != 0)) rfl hc481 .none rfl ?_
     exact hJ480 _ ⟨rfl, rfl, rfl, rfl, or_f hc481 rfl⟩
   ·rintro f ⟨hf1, hf4, hf5, hf6, hf27⟩
    refine (JL.norm (i := 1) hf1 (JL.norm (i := 4) hf4 (JL.norm (i := 5) hf5 (JL.norm (i := 6) hf6 (JL.norm (i := 27) hf27 ?_)))))
    refine JL.move .none rfl ?_
    refine JL.cut 4 (fun f => f 1 = .pointer (some ⟨b1, 0, none⟩) ∧ f 4 = vout_472 ∧ f 5 = .int .i64 i_471 ∧ f 6 = y477a_v0 ∧ f 32 = .bool (((y477.2 != 0) || ((y477.1.length : Int) == 0)) || (decide (20 < (y477.1.length : Int))))) ?_ ?_
    ·intro hJ482
     rcases bcases ((y477.2 != 0) || ((y477.1.length : Int) == 0)) with hc483 | hc483
     ·skip
      refine JL.skip (.bool rfl rfl rfl hc483) rfl ?_
      refine JL.skip (.bool rfl rfl rfl hc483) rfl ?_
      refine JL.skip (.bool rfl rfl rfl hc483) rfl ?_
      refine JL.pick_t (b := ((y477.2 != 0) || ((y477.1.length : Int) == 0))) rfl hc483 .none rfl ?_
      exact hJ482 _ ⟨rfl, rfl, rfl, rfl, or_t hc483 rfl⟩
     ·skip
      refine JL.move (.some rfl rfl rfl hc483) rfl ?_
      refine JL.lenSL (R := RInt) ul_23 hy477a_0 (.some rfl rfl rfl hc483) rfl ?_
      refine JL.bin rfl rfl rfl (.some rfl rfl rfl hc483) rfl ?_
      refine JL.pick_f (b := ((y477.2 != 0) || ((y477.1.length : Int) == 0))) rfl hc483 .none rfl ?_
      exact hJ482 _ ⟨rfl, rfl, rfl, rfl, or_f hc483 rfl⟩
    ·rintro f ⟨hf1, hf4, hf5, hf6, hf32⟩
     refine (JL.norm (i := 1) hf1 (JL.norm (i := 4) hf4 (JL.norm (i := 5) hf5 (JL.norm (i := 6) hf6 (JL.norm (i := 32) hf32 ?_)))))
     refine JL.done hQ (JQ.go ?_)
     rcases ite_some hF with ⟨hc484, hF⟩ | ⟨hc484, hF⟩
     ·refine JC.cond_t (b := (((y477.2 != 0) || ((y477.1.length : Int) == 0)) || (decide (20 < (y477.1.length : Int))))) rfl hc484 ?_
      refine JC.seq (JC.region (by rfl) ?_)
      intro hQ
      refine JL.assign .none rfl ?_
      refine JL.assign .none rfl ?_
      refine JL.done hQ (JQ.go (JC.ret (JQ.ret_then (JQ.ret_block (JQ.ret_then (JQ.ret_then (JQ.ret_block (JQ.ret_join (JQ.ret_then ?_)))))))))
      obtain rfl := Option.some.inj hF
      have ehr474 := hr474 _ rfl
      subst ehr474
      have hF := hKr316
      try dsimp only at hF
      obtain rfl := Option.some.inj hF
      exact JQ.outH rfl (.tmp (.tmp .nil)) ⟨(.slice none 0 0), rfl, SL.nil⟩
     ·refine JC.cond_f (b := (((y477.2 != 0) || ((y477.1.length : Int) == 0)) || (decide (20 < (y477.1.length : Int))))) rfl hc484 ?_
      refine JC.skip (JQ.go ?_)
      obtain ⟨y495, hy495, hF⟩ := bind_some hF
      obtain ⟨y500, hy500, hF⟩ := bind_some hF
      obtain ⟨l506, hl506, hF⟩ := bind_some hF
      refine JC.mixed 17 17 #[false, false, false, false, false, false, false, false, false, false, false, false, false, false, false, false, false] [(b1, .cells [r_v0, .int .i64 r.Canopy.Frame.Low, .int .i64 r.Canopy.Frame.High, .int .i64 r.Canopy.Frame.Ease.Num, .int .i64 r.Canopy.Frame.Ease.Den, .int .i64 r.Canopy.Frame.Rod, .int .i64 r.Canopy.Frame.Case, r_v7, r_v8, r_v9, r_v10, .int .i64 r.Wrong].toArray 90)] (by rfl) mo_ (by kernel_rfl) (by kernel_rfl) ?_
      intro hQ hE
      refine JA.take 0 (listed' := #[true, false, false, false, false, false, false, false, false, false, false, false, false, false, false, false, false]) hQ rfl (by kernel_rfl) (by kernel_rfl) (by kernel_rfl) (by kernel_rfl) (by kernel_rfl) hE (HSub.refl _) (.cons_cons _ (List.nil_sublist _)) ?_
      refine JL.move .none rfl ?_
      refine JA.cont ?_
      refine JA.take 1 (listed' := #[true, true, false, false, false, false, false, false, false, false, false, false, false, false, false, false, false]) hQ rfl (by kernel_rfl) (by kernel_rfl) (by kernel_rfl) (by kernel_rfl) (by kernel_rfl) hE (HSub.refl _) (.cons_cons _ (List.nil_sublist _)) ?_
      refine JL.move .none rfl ?_
      refine JA.cont ?_
      refine JA.take 2 (listed' := #[true, true, true, false, false, false, false, false, false, false, false, false, false, false, false, false, false]) hQ rfl (by kernel_rfl) (by kernel_rfl) (by kernel_rfl) (by kernel_rfl) (by kernel_rfl) hE (HSub.refl _) (.cons_cons _ (List.nil_sublist _)) ?_
      refine JL.move .none rfl ?_
      refine JA.cont ?_
      refine JA.take 3 (listed' := #[true, true, true, true, false, false, false, false, false, false, false, false, false, false, false, false, false]) hQ rfl (by kernel_rfl) (by kernel_rfl) (by kernel_rfl) (by kernel_rfl) (by kernel_rfl) hE (HSub.refl _) (.cons_cons _ (List.nil_sublist _)) ?_
      refine JL.lenSL (R := RInt) ul_23 hy477a_0 .none rfl ?_
      refine JA.cont ?_
      refine JA.take 4 (listed' := #[true, true, true, true, true, false, false, false, false, false, false, false, false, false, false, false, false]) hQ rfl (by kernel_rfl) (by kernel_rfl) (by kernel_rfl) (by kernel_rfl) (by kernel_rfl) hE (HSub.refl _) (.cons_cons _ (List.nil_sublist _)) ?_
      refine JL.bin rfl rfl rfl .none rfl ?_
      refine JA.cont ?_
      refine JA.take 5 (listed' := #[true, true, true, true, true, true, false, false, false, false, false, false, false, false, false, false, false]) hQ rfl (by kernel_rfl) (by kernel_rfl) (by kernel_rfl) (by kernel_rfl) (by kernel_rfl) hE (HSub.refl _) (.cons_cons _ (List.nil_sublist _)) ?_
      refine JL.indexSL (R := RInt) sl_23 hy477a_0 rfl hy495 .none rfl ?_
      rintro b534 o535 cs536 hc537 - rfl
      refine JA.cont ?_
      refine JA.take 6 (listed' := #[true, true, true, true, true, true, true, false, false, false, false, false, false, false, false, false, false]) hQ rfl (by kernel_rfl) (by kernel_rfl) (by kernel_rfl) (by kernel_rfl) (by kernel_rfl) hE (HSub.refl _) (.cons_cons _ (List.nil_sublist _)) ?_
      refine JL.loadH 0 az_3 rfl hc537 rfl .none rfl ?_
      refine JA.cont ?_
      refine JA.take 7 (listed' := #[true, true, true, true, true, true, true, true, false, false, false, false, false, false, false, false, false]) hQ rfl (by kernel_rfl) (by kernel_rfl) (by kernel_rfl) (by kernel_rfl) (by kernel_rfl) hE (HSub.refl _) (.cons_cons _ (List.nil_sublist _)) ?_
      refine JL.fieldAddr fo_90_1 rfl .none rfl ?_
      refine JA.cont ?_
      refine JA.take 8 (listed' := #[true, true, true, true, true, true, true, true, true, false, false, false, false, false, false, false, false]) hQ rfl (by kernel_rfl) (by kernel_rfl) (by kernel_rfl) (by kernel_rfl) (by kernel_rfl) hE (HSub.refl _) (.cons_cons _ (List.nil_sublist _)) ?_
      refine JL.loadOwn 0 az_87 rfl rfl rfl .none rfl ?_
      refine JA.cont ?_
      refine JA.take 9 (listed' := #[true, true, true, true, true, true, true, true, true, true, false, false, false, false, false, false, false]) hQ rfl (by kernel_rfl) (by kernel_rfl) (by kernel_rfl) (by kernel_rfl) (by kernel_rfl) hE (HSub.refl _) (.cons_cons _ (List.nil_sublist _)) ?_
      refine JL.move .none rfl ?_
      refine JA.cont ?_
      refine JA.take 10 (listed' := #[true, true, true, true, true, true, true, true, true, true, true, false, false, false, false, false, false]) hQ rfl (by kernel_rfl) (by kernel_rfl) (by kernel_rfl) (by kernel_rfl) (by kernel_rfl) hE (HSub.refl _) (.cons_cons _ (List.nil_sublist _)) ?_
      refine JL.indexSL (R := R_Blow) sl_87 (SL.mono R_Blow_mono (HSub.trans hs473 hs478) hr_9) rfl hy500 .none rfl ?_
      rintro b542 o543 cs544 hc545 - rfl
      refine JA.cont ?_
      refine JA.take 11 (listed' := #[true, true, true, true, true, true, true, true, true, true, true, true, false, false, false, false, false]) hQ rfl (by kernel_rfl) (by kernel_rfl) (by kernel_rfl) (by kernel_rfl) (by kernel_rfl) hE (HSub.refl _) (.cons_cons _ (List.nil_sublist _)) ?_
      refine JL.fieldAddr fo_98_0 rfl .none rfl ?_
      refine JA.cont ?_
      refine JA.take 12 (listed' := #[true, true, true, true, true, true, true, true, true, true, true, true, true, false, false, false, false]) hQ rfl (by kernel_rfl) (by kernel_rfl) (by kernel_rfl) (by kernel_rfl) (by kernel_rfl) hE (HSub.refl _) (.cons_cons _ (List.nil_sublist _)) ?_
      refine JL.loadH 0 az_3 rfl hc545 rfl .none rfl ?_
      refine JA.cont ?_
      refine JA.take 13 (listed' := #[true, true, true, true, true, true, true, true, true, true, true, true, true, true, false, false, false]) hQ rfl (by kernel_rfl) (by kernel_rfl) (by kernel_rfl) (by kernel_rfl) (by kernel_rfl) hE (HSub.refl _) (.cons_cons _ (List.nil_sublist _)) ?_
      refine JL.build (l := [.int .i64 y495, .int .i64 y500.At]) (by kernel_rfl) .none rfl ?_
      refine JA.cont ?_
      refine JA.many [14] (by kernel_rfl) (by simp) (all_one ⟨_, #[true, true, true, true, true, true, true, true, true, true, true, true, true, true, true, false, false], rfl, (by kernel_rfl), ?_⟩)
      refine JL.buildSlice (e := 86) (l := [.int .i64 y495, .int .i64 y500.At]) (by kernel_rfl) .none rfl ?_
      intro b546
      refine JA.after hE (HSub.refl _) (.cons _ (.cons_cons _ (List.nil_sublist _))) ?_
      refine JA.many [15] (by kernel_rfl) (by simp) (all_one ⟨_, #[true, true, true, true, true, true, true, true, true, true, true, true, true, true, true, true, false], rfl, (by kernel_rfl), ?_⟩)
      refine JL.appO (R := R_Gust) 0 0 (l := out_472) (m := [(Gust.mk y495 y500.At)]) ap_103 rfl ⟨rfl, rfl⟩ rfl (CH.mono R_Gust_mono hs478 hout_472) rfl rfl rfl (CH.cons (cs := [.int .i64 y495, .int .i64 y500.At]) rfl rfl CH.nil) rfl (one_cons rfl (one_cons rfl one_nil)) hl506 .none rfl ?_
      intro v547 xs548 hch549
      refine JA.after hE (HSub.refl _) (.cons _ (.cons_cons _ (List.nil_sublist _))) ?_
      refine JA.take 16 (listed' := #[true, true, true, true, true, true, true, true, true, true, true, true, true, true, true, true, true]) hQ rfl (by kernel_rfl) (by kernel_rfl) (by kernel_rfl) (by kernel_rfl) (by kernel_rfl) hE (HSub.refl _) (.cons _ (.cons_cons _ (List.nil_sublist _))) ?_
      refine JL.assign .none rfl ?_
      refine JA.cont ?_
      refine JA.done hQ (by kernel_rfl) ?_
      refine JQ.normal_block (JQ.go (JC.fresh (fun f => f 1 = .pointer (some ⟨b1, 0, none⟩) ∧ f 4 = v547 ∧ f 5 = .int .i64 i_471) ⟨rfl, rfl, rfl⟩ ?_))
      rintro f ⟨hf1, hf4, hf5⟩
      refine (JC.norm (i := 1) hf1 (JC.norm (i := 4) hf4 (JC.norm (i := 5) hf5 ?_)))
      refine JC.region (by rfl) ?_
      intro hQ
      refine JL.move .none rfl ?_
      refine JL.bin rfl rfl rfl .none rfl ?_
      refine JL.assign .none rfl ?_
      refine JL.done hQ ?_
      obtain rfl := Option.some.inj hF
      refine JQ.mask [false, true] [true] ?_
      exact JQ.next rfl ⟨v547, xs548, rfl, rfl, rfl, rfl, rfl, hch549, (HSub.trans hs473 hs478)⟩
  ·refine JC.cond_f (b := decide (i_471 < (r.Blows.length : Int))) rfl hc476 ?_
   refine JC.exit (JQ.exit_then (JQ.exit_then (JQ.exit_block ?_)))
   obtain rfl := Option.some.inj hF
   have ehr474 := hr474 _ rfl
   subst ehr474
   refine JQ.mask [false] [true] ?_
   exact JQ.join out_472 ⟨vout_472, xsout_472, rfl, rfl, rfl, hout_472, hs473, rfl⟩
 ·rintro out_314 H315 f bs gs ⟨vout_314, xsout_314, hf4, rfl, rfl, hout_314, hs315, rfl⟩
  have hF := hKr316
  try dsimp only at hF
  refine (JQ.norm (i := 4) hf4 ?_)
  refine JQ.go (JC.seq (JC.region (by rfl) ?_))
  intro hQ
  refine JL.move .none rfl ?_
  refine JL.assign .none rfl ?_
  refine JL.assign .none rfl ?_
  refine JL.done hQ (JQ.go (JC.ret (JQ.freezeG 0 (R := R_Gust) rfl R_Gust_mono hout_314 rfl ?_)))
  intro H550 hs550 hg551
  obtain rfl := Option.some.inj hF
  exact JQ.outH rfl (.tmp (.tmp .nil)) ⟨vout_314, rfl, hg551⟩
-- 38 ferrule/gusts.Most
def F_gusts_Most_s1 (n : Nat) (at_ : Int) (y8 : gusts_blown × gusts_blown) : Int → Option (Int ⊕ Int)
 | n_58 => (if decide (n_58 < 99) = true then ((F_gusts_blown_first n y8.2 (Gust.mk (w64 (n_58 + 1)) at_)).bind fun y66 => some (y66 == 0)) else (some false) : Option Bool).bind fun p63 => if p63 = true then (some (Sum.inl (w64 (n_58 + 1)))) else (some (Sum.inr n_58))
def F_gusts_Most (n : Nat) (d : Canopy) (at_ : Int) : Option (Int × Int) :=
 (F_gusts_ask n d [(Gust.mk 0 at_)]).bind fun y6 => if (y6 != 0) = true then (some (0, y6)) else ((F_gusts_ends n d).bind fun y8 => (loopO n (F_gusts_Most_s1 n at_ y8) 0).bind fun n_39 => some (n_39, 0))
theorem c_gusts_Most (n : Nat) (H : Hp) (d : Canopy) (d_v0 : Value) (hd_0 : SL H 7 R_Section d_v0 d.Frame.Sections) (d_v7 : Value) (hd_7 : SL H 2 R_Span d_v7 d.Ribs) (d_v8 : Value) (hd_8 : SL H 1 RInt d_v8 d.Shares) (at_ : Int) (y : Int × Int) (hF : F_gusts_Most n d at_ = some y) : SC Try.prog 38 [.agg [d_v0, .int .i64 d.Frame.Low, .int .i64 d.Frame.High, .int .i64 d.Frame.Ease.Num, .int .i64 d.Frame.Ease.Den, .int .i64 d.Frame.Rod, .int .i64 d.Frame.Case, d_v7, d_v8].toArray, .int .i64 at_] (.tuple [.int .i64 y.1, .int .i64 y.2].toArray) H := by
 rw [F_gusts_Most] at hF
 refine SC.of (N := 37) Try.func38 rfl rfl rfl fun w => ?_
 refine JC.seq (JC.region (by rfl) ?_)
 intro hQ
 refine JL.box (cs := [d_v0, .int .i64 d.Frame.Low, .int .i64 d.Frame.High, .int .i64 d.Frame.Ease.Num, .int .i64 d.Frame.Ease.Den, .int .i64 d.Frame.Rod, .int .i64 d.Frame.Case, d_v7, d_v8]) rfl .none rfl ?_
 intro b1
 refine JL.assign .none rfl ?_
 refine JL.assign .none rfl ?_
 refine JL.done hQ (JQ.go (JC.seq (JC.seq (JC.region (by rfl) ?_))))
 intro hQ
 refine JL.loadOwn 0 az_76 rfl rfl rfl .none rfl ?_
 refine JL.move .none rfl ?_
 refine JL.build (l := [.int .i64 0, .int .i64 at_]) (by kernel_rfl) .none rfl ?_
 refine JL.buildSlice (e := 86) (l := [.int .i64 0, .int .i64 at_]) (by kernel_rfl) .none rfl ?_
 intro b2
 refine JL.freezeC 0 (l := [.int .i64 0, .int .i64 at_]) rfl ?_
 intro H3 hs3 hc4
 have hg5 : SL H3 2 R_Gust (.slice (some ⟨b2, 0, none⟩) 1 1) [(Gust.mk 0 at_)] := CH.sl (l := [(Gust.mk 0 at_)]) (CH.cons (cs := [.int .i64 0, .int .i64 at_]) rfl rfl CH.nil) hc4 ⟨by simp, by simp⟩
 obtain ⟨y6, hy6, hF⟩ := bind_some hF
 refine JL.callS (c_gusts_ask n H3 d d_v0 (SL.mono R_Section_mono hs3 hd_0) d_v7 (SL.mono R_Span_mono hs3 hd_7) d_v8 (SL.mono RInt.mono hs3 hd_8) [(Gust.mk 0 at_)] (.slice (some ⟨b2, 0, none⟩) 1 1) hg5 y6 hy6) rfl en_87 .none rfl ?_
 refine JL.assign .none rfl ?_
 refine JL.done hQ (JQ.go (JC.seq (JC.region (by rfl) ?_)))
 intro hQ
 refine JL.move .none rfl ?_
 refine JL.bin rfl rfl rfl .none rfl ?_
 refine JL.done hQ (JQ.go ?_)
 rcases ite_some hF with ⟨hc7, hF⟩ | ⟨hc7, hF⟩
 ·refine JC.cond_t (b := (y6 != 0)) rfl hc7 ?_
  refine JC.seq (JC.region (by rfl) ?_)
  intro hQ
  refine JL.move .none rfl ?_
  refine JL.assign .none rfl ?_
  refine JL.assign .none rfl ?_
  refine JL.done hQ (JQ.go (JC.fresh (fun f => f 4 = .int .i64 0 ∧ f 5 = .int .i64 y6) ⟨rfl, rfl⟩ ?_))
  rintro f ⟨hf4, hf5⟩
  refine (JC.norm (i := 4) hf4 (JC.norm (i := 5) hf5 ?_))
  refine JC.ret (JQ.ret_then ?_)
  obtain rfl := Option.some.inj hF
  exact JQ.outS rfl (.tmp (.tmp .nil)) rfl
 ·refine JC.cond_f (b := (y6 != 0)) rfl hc7 ?_
  refine JC.skip (JQ.go (JC.seq (JC.region (by rfl) ?_)))
  intro hQ
  refine JL.loadOwn 0 az_76 rfl rfl rfl .none rfl ?_
  obtain ⟨y8, hy8, hF⟩ := bind_some hF
  refine JL.callH (c_gusts_ends n H3 d d_v0 (SL.mono R_Section_mono hs3 hd_0) d_v7 (SL.mono R_Span_mono hs3 hd_7) d_v8 (SL.mono RInt.mono hs3 hd_8) y8 hy8) rfl en_88 .none rfl ?_
  rintro H9 vv10 hs9 ⟨y8a_v1, y8a_v2, y8b_v1, y8b_v2, rfl, hy8a_1, hy8a_2, hy8b_1, hy8b_2⟩
  refine JL.move .none rfl ?_
  refine JL.extract rfl rfl .none rfl ?_
  refine JL.extract rfl rfl .none rfl ?_
  refine JL.alloc ze_156 .none rfl ?_
  intro b11
  refine JL.alloc ze_156 .none rfl ?_
  intro b12
  refine JL.storeOwn 1 (cs := [.int .i64 y8.1.lift, y8a_v1, y8a_v2]) az_156 rfl rfl rfl (one_cons rfl (one_cons (SL.one hy8a_1) (one_cons (SL.one hy8a_2) one_nil))) rfl rfl .none ?_
  refine JL.storeOwn 0 (cs := [.int .i64 y8.2.lift, y8b_v1, y8b_v2]) az_156 rfl rfl rfl (one_cons rfl (one_cons (SL.one hy8b_1) (one_cons (SL.one hy8b_2) one_nil))) rfl rfl .none ?_
  refine JL.done hQ (JQ.go (JC.fresh (fun f => f 1 = .int .i64 at_ ∧ f 4 = .int .i64 0 ∧ f 5 = .int .i64 0 ∧ f 8 = .pointer (some ⟨b12, 0, none⟩)) ⟨rfl, rfl, rfl, rfl⟩ ?_))
  rintro f ⟨hf1, hf4, hf5, hf8⟩
  refine (JC.norm (i := 1) hf1 (JC.norm (i := 4) hf4 (JC.norm (i := 5) hf5 (JC.norm (i := 8) hf8 ?_))))
  refine JC.seq (JC.region (by rfl) ?_)
  intro hQ
  refine JL.assign .none rfl ?_
  refine JL.done hQ (JQ.go (JC.seq ?_))
  obtain ⟨r41, hlr41, hKr41⟩ := bind_some hF
  refine JC.join (fun (n_39 : Int) H40 f bs gs => f 9 = .int .i64 n_39 ∧ bs = [] ∧ gs = [] ∧ HSub H9 H40 ∧ n_39 = r41) ?_ ?_
  ·skip
   refine JC.block (JC.mask [true, false, false] [] ?_)
   refine JC.loop hlr41 (fun (n_58 : Int) H59 f bs gs => f 1 = .int .i64 at_ ∧ f 8 = .pointer (some ⟨b12, 0, none⟩) ∧ f 9 = .int .i64 n_58 ∧ bs = [(b12, .cells [.int .i64 y8.2.lift, y8b_v1, y8b_v2].toArray 156)] ∧ gs = [] ∧ HSub H9 H59) ⟨rfl, rfl, rfl, rfl, rfl, (HSub.refl _)⟩ ?_
   rintro n_58 x61 H59 f bs gs ⟨hf1, hf8, hf9, rfl, rfl, hs59⟩ hF hr60
   rw [F_gusts_Most_s1] at hF
   refine (JC.norm (i := 1) hf1 (JC.norm (i := 8) hf8 (JC.norm (i := 9) hf9 ?_)))
   refine JC.seq (JC.seq (JC.region (by rfl) ?_))
   intro hQ
   refine JL.move .none rfl ?_
   refine JL.bin rfl rfl rfl .none rfl ?_
   refine JL.move .none rfl ?_
   obtain ⟨p63, hp63, hF⟩ := bind_some hF
   refine JL.cut 8 (fun f => f 1 = .int .i64 at_ ∧ f 8 = .pointer (some ⟨b12, 0, none⟩) ∧ f 9 = .int .i64 n_58 ∧ f 33 = .bool p63) ?_ ?_
   ·intro hJ64
    rcases ite_some hp63 with ⟨hc65, hF⟩ | ⟨hc65, hF⟩
    ·skip
     refine JL.loadOwn 0 az_156 rfl rfl rfl (.some rfl rfl rfl hc65) rfl ?_
     refine JL.move (.some rfl rfl rfl hc65) rfl ?_
     refine JL.bin rfl rfl rfl (.some rfl rfl rfl hc65) rfl ?_
     refine JL.move (.some rfl rfl rfl hc65) rfl ?_
     refine JL.build (l := [.int .i64 (w64 (n_58 + 1)), .int .i64 at_]) (by kernel_rfl) (.some rfl rfl rfl hc65) rfl ?_
     obtain ⟨y66, hy66, hF⟩ := bind_some hF
     refine JL.callS (c_gusts_blown_first n H59 y8.2 y8b_v1 (SL.mono RInt.mono hs59 hy8b_1) y8b_v2 (SL.mono RInt.mono hs59 hy8b_2) (Gust.mk (w64 (n_58 + 1)) at_) y66 hy66) rfl en_89 (.some rfl rfl rfl hc65) rfl ?_
     refine JL.bin rfl rfl rfl (.some rfl rfl rfl hc65) rfl ?_
     refine JL.pick_t (b := decide (n_58 < 99)) rfl hc65 .none rfl ?_
     obtain rfl := Option.some.inj hF
     exact hJ64 _ ⟨rfl, rfl, rfl, rfl⟩
    ·skip
     refine JL.skip (.bool rfl rfl rfl hc65) rfl ?_
     refine JL.skip (.bool rfl rfl rfl hc65) rfl ?_
     refine JL.skip (.bool rfl rfl rfl hc65) rfl ?_
     refine JL.skip (.bool rfl rfl rfl hc65) rfl ?_
     refine JL.skip (.bool rfl rfl rfl hc65) rfl ?_
     refine JL.skip (.bool rfl rfl rfl hc65) rfl ?_
     refine JL.skip (.bool rfl rfl rfl hc65) rfl ?_
     refine JL.pick_f (b := decide (n_58 < 99)) rfl hc65 .none rfl ?_
     obtain rfl := Option.some.inj hF
     exact hJ64 _ ⟨rfl, rfl, rfl, rfl⟩
   ·rintro f ⟨hf1, hf8, hf9, hf33⟩
    refine (JL.norm (i := 1) hf1 (JL.norm (i := 8) hf8 (JL.norm (i := 9) hf9 (JL.norm (i := 33) hf33 ?_))))
    refine JL.done hQ (JQ.go ?_)
    rcases ite_some hF with ⟨hc67, hF⟩ | ⟨hc67, hF⟩
    ·refine JC.cond_t (b := p63) rfl hc67 ?_
     refine JC.skip (JQ.go (JC.block (JC.region (by rfl) ?_)))
     intro hQ
     refine JL.move .none rfl ?_
     refine JL.bin rfl rfl rfl .none rfl ?_
     refine JL.assign .none rfl ?_
     refine JL.done hQ (JQ.normal_block ?_)
     obtain rfl := Option.some.inj hF
     exact JQ.next rfl ⟨rfl, rfl, rfl, rfl, rfl, hs59⟩
    ·refine JC.cond_f (b := p63) rfl hc67 ?_
     refine JC.exit (JQ.exit_then (JQ.exit_then (JQ.exit_block ?_)))
     obtain rfl := Option.some.inj hF
     have ehr60 := hr60 _ rfl
     subst ehr60
     refine JQ.mask [false] [] ?_
     exact JQ.join n_58 ⟨rfl, rfl, rfl, hs59, rfl⟩
  ·rintro n_39 H40 f bs gs ⟨hf9, rfl, rfl, hs40, rfl⟩
   have hF := hKr41
   try dsimp only at hF
   refine (JQ.norm (i := 9) hf9 ?_)
   refine JQ.go (JC.seq (JC.region (by rfl) ?_))
   intro hQ
   refine JL.move .none rfl ?_
   refine JL.assign .none rfl ?_
   refine JL.assign .none rfl ?_
   refine JL.done hQ (JQ.go (JC.ret ?_))
   obtain rfl := Option.some.inj hF
   exact JQ.outS rfl (.tmp (.tmp .nil)) rfl
end Go.Proofs.Yteihdclpiekmaaa
end
section
namespace Go.Dec
/-- from some fuel on it yields y -/
def Ev {β : Type} (F : Nat → Option β) (y : β) : Prop := ∃ N, ∀ n, N ≤ n → F n = some y
theorem Ev.some {β : Type} (y : β) : Ev (fun _ => Option.some y) y := ⟨0, fun _ _ => rfl⟩
theorem Ev.of {β : Type} {F : Nat → Option β} {y : β} (h : ∀ n, F n = Option.some y) : Ev F y := ⟨0, fun n _ => h n⟩
theorem Ev.bind {α β : Type} {F : Nat → Option α} {K : Nat → α → Option β} {x : α} {y : β} (h : Ev F x) (k : Ev (fun n => K n x) y) : Ev (fun n => (F n).bind (K n)) y := by
  obtain ⟨N, hN⟩ := h
  obtain ⟨M, hM⟩ := k
  refine ⟨max N M, fun n hn => ?_⟩
  show (F n).bind (K n) = _
  rw [hN n (by omega)]
  exact hM n (by omega)
theorem Ev.get {β : Type} {F : Nat → Option β} {y : β} (h : Ev F y) : ∃ n, F n = Option.some y := let ⟨N, hN⟩ := h; ⟨N, hN N (Nat.le_refl _)⟩
/-- loops: the step's fuel and the loop's own -/
def EvL {S R : Type} (step : Nat → S → Option (S ⊕ R)) (s : S) (r : R) : Prop := ∃ N, ∀ n m, N ≤ n → N ≤ m → loopO m (step n) s = Option.some r
theorem EvL.done {S R : Type} {step : Nat → S → Option (S ⊕ R)} {s : S} {r : R} (h : Ev (fun n => step n s) (.inr r)) : EvL step s r := by
  obtain ⟨N, hN⟩ := h
  refine ⟨N + 1, fun n m hn hm => ?_⟩
  obtain ⟨m, rfl⟩ : ∃ k, m = k + 1 := ⟨m - 1, by omega⟩
  unfold loopO
  have := hN n (by omega)
  simp only at this
  rw [this]
theorem EvL.next {S R : Type} {step : Nat → S → Option (S ⊕ R)} {s s' : S} {r : R} (h : Ev (fun n => step n s) (.inl s')) (k : EvL step s' r) : EvL step s r := by
  obtain ⟨N, hN⟩ := h
  obtain ⟨M, hM⟩ := k
  refine ⟨max N M + 1, fun n m hn hm => ?_⟩
  obtain ⟨m, rfl⟩ : ∃ k, m = k + 1 := ⟨m - 1, by omega⟩
  unfold loopO
  have := hN n (by omega)
  simp only at this
  rw [this]
  exact hM n m (by omega) (by omega)
theorem EvL.ev {S R : Type} {step : Nat → S → Option (S ⊕ R)} {s : S} {r : R} (h : EvL step s r) : Ev (fun n => loopO n (step n) s) r :=
  let ⟨N, hN⟩ := h; ⟨N, fun n hn => hN n n hn hn⟩
/-- a loop over an index from i to k: s i is the state before round i; all rounds go on -/
theorem EvL.upto {S R : Type} {step : Nat → S → Option (S ⊕ R)} (s : Nat → S) {r : R} : ∀ (k i : Nat), i ≤ k → (∀ j, i ≤ j → j < k → Ev (fun n => step n (s j)) (.inl (s (j + 1)))) → Ev (fun n => step n (s k)) (.inr r) → EvL step (s i) r := by
  intro k i hik h hd
  obtain ⟨d, rfl⟩ : ∃ d, k = i + d := ⟨k - i, by omega⟩
  clear hik
  induction d generalizing i with
  | zero => exact .done hd
  | succ d ih =>
    refine .next (h i (Nat.le_refl _) (by omega)) (ih (i + 1) (fun j h1 h2 => h j (by omega) (by omega)) ?_)
    have : i + 1 + d = i + (d + 1) := by omega
    rw [this]; exact hd
/-- a loop that is left in round k -/
theorem EvL.left {S R : Type} {step : Nat → S → Option (S ⊕ R)} (s : Nat → S) {r : R} (k : Nat) (h : ∀ j, j < k → Ev (fun n => step n (s j)) (.inl (s (j + 1)))) (hd : Ev (fun n => step n (s k)) (.inr r)) : EvL step (s 0) r :=
  EvL.upto s k 0 (Nat.zero_le _) (fun j _ h2 => h j h2) hd
theorem geti_nat {α : Type} (l : List α) (i : Nat) : geti l (i : Int) = l[i]? := by
  unfold geti
  rw [if_pos (by omega)]
  simp
theorem w64_id {n : Int} (h1 : -9223372036854775808 ≤ n) (h2 : n ≤ 9223372036854775807) : w64 n = n := by
  have : w64 n = if n % 18446744073709551616 ≥ 9223372036854775808 then n % 18446744073709551616 - 18446744073709551616 else n % 18446744073709551616 := by
    simp [w64, Go.IntKind.wrap, Go.IntKind.signed, Go.IntKind.bits]
  rw [this]
  split <;> omega
def MonoF {β : Type} (F : Nat → Option β) : Prop := ∀ n m y, n ≤ m → F n = some y → F m = some y
theorem MonoF.const {β : Type} (o : Option β) : MonoF (fun _ => o) := fun _ _ _ _ h => h
theorem MonoF.bind {α β : Type} {F : Nat → Option α} {K : Nat → α → Option β} (h : MonoF F) (k : ∀ x, MonoF (fun n => K n x)) : MonoF (fun n => (F n).bind (K n)) := fun n m y hn hy => by
  obtain ⟨x, h1, h2⟩ := bind_some hy
  show (F m).bind (K m) = _
  rw [h n m x hn h1]
  exact k x n m y hn h2
theorem MonoF.loop {S R : Type} {step : Nat → S → Option (S ⊕ R)} (h : ∀ s, MonoF (fun n => step n s)) (s : S) : MonoF (fun n => loopO n (step n) s) := by
  have key : ∀ (k n m j : Nat) (s : S) (r : R), n ≤ m → k ≤ j → loopO k (step n) s = some r → loopO j (step m) s = some r := by
    intro k
    induction k with
    | zero => intro n m j s r _ _ h; simp [loopO] at h
    | succ k ih =>
      intro n m j s r hn hj hl
      obtain ⟨j, rfl⟩ : ∃ i, j = i + 1 := ⟨j - 1, by omega⟩
      unfold loopO at hl ⊢
      cases hs : step n s with
      | none => rw [hs] at hl; cases hl
      | some x =>
        rw [hs] at hl
        have := h s n m x hn hs
        simp only at this
        rw [this]
        cases x with
        | inl s' => exact ih n m j s' r hn (by omega) hl
        | inr r' => exact hl
  exact fun n m y hn hy => key n n m m s y hn hn hy
theorem MonoF.ev {β : Type} {F : Nat → Option β} (h : MonoF F) {n : Nat} {y : β} (hy : F n = some y) : Ev F y := ⟨n, fun m hm => h n m y hm hy⟩
end Go.Dec
end
section
namespace Go.Dec
theorem w64_nat {i : Nat} (h : i ≤ 4611686018427387904) : w64 ((i : Int) + 1) = ((i + 1 : Nat) : Int) := by
  rw [w64_id] <;> omega
theorem lim_ok {α : Type} {l : List α} (h : l.length ≤ 4294967296) : lim l = some l := by simp [lim, h]
section
variable {S R : Type} {step : S → Option (S ⊕ R)}
theorem loopO_succ {n : Nat} {s : S} : loopO (n + 1) step s = (match step s with | none => none | some (.inl s') => loopO n step s' | some (.inr r) => some r) := by
  rw [loopO]; rcases step s with _ | (_ | _) <;> rfl
theorem loop_done {n : Nat} {s : S} {r : R} (h : step s = some (.inr r)) (hn : 0 < n) : loopO n step s = some r := by
  obtain ⟨m, rfl⟩ : ∃ k, n = k + 1 := ⟨n - 1, by omega⟩
  rw [loopO_succ, h]
/-- a run of states -/
theorem loop_run (s : Nat → S) {r : R} : ∀ (k i n : Nat), (∀ j, i ≤ j → j < i + k → step (s j) = some (.inl (s (j + 1)))) → step (s (i + k)) = some (.inr r) → k < n → loopO n step (s i) = some r := by
  intro k
  induction k with
  | zero => intro i n _ h hn; exact loop_done h hn
  | succ k ih =>
    intro i n h hd hn
    obtain ⟨m, rfl⟩ : ∃ k, n = k + 1 := ⟨n - 1, by omega⟩
    rw [loopO_succ, h i (Nat.le_refl _) (by omega)]
    exact ih (i + 1) m (fun j h1 h2 => h j (by omega) (by omega)) (by rw [show i + 1 + k = i + (k + 1) by omega]; exact hd) (by omega)
/-- a loop that folds a list; I: what is so of the state before round i -/
theorem loop_fold {α β : Type} (l : List α) (enc : Nat → β → S) (g : β → α → β) (fin : β → R) (I : Nat → β → Prop) {n : Nat} (b0 : β) (h0 : I 0 b0)
    (h : ∀ i x b, l[i]? = some x → I i b → step (enc i b) = some (.inl (enc (i + 1) (g b x))) ∧ I (i + 1) (g b x))
    (hd : ∀ b, I l.length b → step (enc l.length b) = some (.inr (fin b))) (hn : l.length < n) : loopO n step (enc 0 b0) = some (fin (l.foldl g b0)) ∧ I l.length (l.foldl g b0) := by
  have key : ∀ (k i : Nat) (b : β) (n : Nat), i + k = l.length → I i b → k < n → loopO n step (enc i b) = some (fin ((l.drop i).foldl g b)) ∧ I l.length ((l.drop i).foldl g b) := by
    intro k
    induction k with
    | zero =>
      intro i b n hi hI hn
      have e : i = l.length := by omega
      subst e
      rw [List.drop_length]
      exact ⟨loop_done (hd b hI) hn, hI⟩
    | succ k ih =>
      intro i b n hi hI hn
      obtain ⟨m, rfl⟩ : ∃ k, n = k + 1 := ⟨n - 1, by omega⟩
      have hlt : i < l.length := by omega
      obtain ⟨h1, h2⟩ := h i l[i] b (List.getElem?_eq_getElem hlt) hI
      rw [loopO_succ, h1, List.drop_eq_getElem_cons hlt, List.foldl_cons]
      exact ih (i + 1) _ m (by omega) h2 (by omega)
  have := key l.length 0 b0 n (by omega) h0 hn
  rwa [List.drop_zero] at this
/-- a search by index -/
theorem loop_all {ρ : Type} {step : Int → Option (Int ⊕ (ρ ⊕ Unit))} (k : Nat) (p : Nat → Bool) (r : ρ) {n : Nat} (hk : k ≤ 4611686018427387904)
    (h : ∀ i, i < k → step (i : Int) = some (bif p i then .inl ((i + 1 : Nat) : Int) else .inr (.inl r))) (hd : step (k : Int) = some (.inr (.inr ()))) (hn : k < n) :
    loopO n step 0 = some (bif (List.range k).all p then .inr () else .inl r) := by
  have key : ∀ (m i n : Nat), i + m = k → m < n → loopO n step (i : Int) = some (bif (List.range' i m).all p then .inr () else .inl r) := by
    intro m
    induction m with
    | zero => intro i n hi hn; have : i = k := by omega
              subst this; rw [loop_done hd (by omega)]; simp
    | succ m ih =>
      intro i n hi hn
      obtain ⟨m', rfl⟩ : ∃ k, n = k + 1 := ⟨n - 1, by omega⟩
      rw [loopO_succ, h i (by omega), List.range'_succ, List.all_cons]
      cases hp : p i with
      | false => simp
      | true => simp only [cond_true, Bool.true_and]; exact ih (i + 1) m' (by omega) (by omega)
  have := key k 0 n (by omega) hn
  rw [List.range_eq_range']
  exact this
/-- a search in a list -/
theorem loop_all_l {α ρ : Type} {step : Int → Option (Int ⊕ (ρ ⊕ Unit))} (l : List α) (p : α → Bool) (r : ρ) {n : Nat} (hk : l.length ≤ 4611686018427387904)
    (h : ∀ i x, l[i]? = some x → i < l.length → step (i : Int) = some (bif p x then .inl ((i + 1 : Nat) : Int) else .inr (.inl r))) (hd : step (l.length : Int) = some (.inr (.inr ()))) (hn : l.length < n) :
    loopO n step 0 = some (bif l.all p then .inr () else .inl r) := by
  have := loop_all l.length (fun i => match l[i]? with | some x => p x | none => true) r hk (fun i hi => by
    rw [h i l[i] (List.getElem?_eq_getElem hi) hi]; simp [hi]) hd hn
  rw [this]
  have e : (List.range l.length).all (fun i => match l[i]? with | some x => p x | none => true) = l.all p := by
    rw [Bool.eq_iff_iff]
    simp only [List.all_eq_true, List.mem_range]
    constructor
    · intro h x hx
      obtain ⟨i, hi⟩ := List.mem_iff_getElem?.1 hx
      have := h i (List.getElem?_eq_some_iff.1 hi).1
      simpa [hi] using this
    · intro h i hi
      simpa [hi] using h _ (List.getElem_mem hi)
  rw [e]
end
/-- the first one that is such -/
theorem first_of {α : Type} {p : α → Bool} : ∀ {s : List α}, s.any p = true → ∃ i : Nat, ∃ x, s[i]? = some x ∧ p x = true ∧ ∀ (j : Nat) y, j < i → s[j]? = some y → p y = false
  | [], h => by simp at h
  | a :: s, h => by
    by_cases ha : p a = true
    · exact ⟨0, a, rfl, ha, by intros; omega⟩
    · have hs : s.any p = true := by simpa [ha] using h
      obtain ⟨i, x, h1, h2, h3⟩ := first_of hs
      refine ⟨i + 1, x, by simpa using h1, h2, fun j y hj hy => ?_⟩
      cases j with
      | zero => simp at hy; subst hy; simpa using ha
      | succ j => exact h3 j y (by omega) (by simpa using hy)
/-- a walk over what an iterator yields -/
def foldO {σ ρ α : Type} (cs : σ → α → Option (σ ⊕ ρ)) : σ → List α → Option (σ ⊕ ρ)
  | s, [] => some (.inl s)
  | s, a :: l => (cs s a).bind fun y => match y with | .inl s' => foldO cs s' l | .inr r => some (.inr r)
theorem foldO_foldl {σ ρ α : Type} {cs : σ → α → Option (σ ⊕ ρ)} (g : σ → α → σ) (I : Nat → σ → Prop) : ∀ (l : List α) (k : Nat) (s : σ), I k s → (∀ i s a, i < k + l.length → a ∈ l → I i s → cs s a = some (.inl (g s a)) ∧ I (i + 1) (g s a)) →
    foldO cs s l = some (.inl (l.foldl g s)) ∧ I (k + l.length) (l.foldl g s)
  | [], k, s, h, _ => ⟨rfl, h⟩
  | a :: l, k, s, h, hs => by
    obtain ⟨h1, h2⟩ := hs k s a (by simp) (List.mem_cons_self ..) h
    obtain ⟨h3, h4⟩ := foldO_foldl g I l (k + 1) _ h2 (fun i s a hi ha => hs i s a (by rw [List.length_cons]; omega) (List.mem_cons_of_mem _ ha))
    refine ⟨by simp [foldO, h1, h3], ?_⟩
    rw [List.length_cons, show k + (l.length + 1) = k + 1 + l.length by omega]
    exact h4
theorem foldO_append {σ ρ α : Type} {cs : σ → α → Option (σ ⊕ ρ)} : ∀ (l m : List α) (s : σ), foldO cs s (l ++ m) = (foldO cs s l).bind fun y => match y with | .inl s' => foldO cs s' m | .inr r => some (.inr r)
  | [], m, s => by simp [foldO]
  | a :: l, m, s => by
    simp only [List.cons_append, foldO]
    cases cs s a with
    | none => rfl
    | some y => cases y with
      | inl s' => simp [foldO_append l m s']
      | inr r => simp
theorem foldl_filter_append {α : Type} (p : α → Bool) : ∀ (l out : List α), l.foldl (fun o x => if p x = true then o ++ [x] else o) out = out ++ l.filter p
  | [], out => by simp
  | a :: l, out => by
    rw [List.foldl_cons, foldl_filter_append p l]
    cases h : p a <;> simp [h]
theorem foldl_count {α : Type} (p : α → Bool) : ∀ (l : List α) (k : Int), l.foldl (fun o x => if p x = true then o + 1 else o) k = k + (l.countP p : Nat)
  | [], k => by simp
  | a :: l, k => by
    rw [List.foldl_cons, foldl_count p l]
    cases h : p a <;> simp [h, List.countP_cons]; omega
theorem foldl_append_map {α β : Type} (f : α → β) : ∀ (l : List α) (out : List β), l.foldl (fun o x => o ++ [f x]) out = out ++ l.map f
  | [], out => by simp
  | a :: l, out => by rw [List.foldl_cons, foldl_append_map f l]; simp
theorem foldl_pair {α β γ : Type} (f : β → α → β) (g : γ → α → γ) : ∀ (l : List α) (b : β) (c : γ), l.foldl (fun s x => (f s.1 x, g s.2 x)) (b, c) = (l.foldl f b, l.foldl g c)
  | [], _, _ => rfl
  | a :: l, b, c => by simp only [List.foldl_cons]; exact foldl_pair f g l _ _
end Go.Dec
end
section
namespace Go.Dec
def span (a b : Int) : List Int := (List.range (b + 1 - a).toNat).map fun j : Nat => a + j
def down (b a : Int) : List Int := (List.range (b + 1 - a).toNat).map fun j : Nat => b - j
theorem span_mem' {a b x : Int} : x ∈ span a b ↔ a ≤ x ∧ x ≤ b := by
  simp only [span, List.mem_map, List.mem_range]
  constructor
  · rintro ⟨j, h, rfl⟩; omega
  · intro h; exact ⟨(x - a).toNat, by omega, by omega⟩
theorem span_len (a b : Int) : (span a b).length = (b + 1 - a).toNat := by simp [span]
theorem span_nil {a b : Int} (h : b < a) : span a b = [] := by
  have : (b + 1 - a).toNat = 0 := by omega
  simp [span, this]
theorem span_cons {a b : Int} (h : a ≤ b) : span a b = a :: span (a + 1) b := by
  have : (b + 1 - a).toNat = (b + 1 - (a + 1)).toNat + 1 := by omega
  unfold span
  rw [this, List.range_succ_eq_map, List.map_cons, List.map_map]
  simp only [Int.natCast_zero, Int.add_zero]
  congr 1
  apply List.map_congr_left
  intro j _
  simp only [Function.comp]
  omega
/-- an iterator that counts up -/
theorem loop_up {σ ρ : Type} (cs : σ → Int → Option (σ ⊕ ρ)) {step : Int × σ → Option ((Int × σ) ⊕ (σ ⊕ ρ))} {hi : Int} : ∀ (k : Nat) (lo : Int) (s : σ) (n : Nat), (hi + 1 - lo).toNat = k →
    (∀ b s, lo ≤ b → b ≤ hi → step (b, s) = (cs s b).bind fun y => match y with | .inl s' => some (.inl (b + 1, s')) | .inr e => some (.inr (.inr e))) → (∀ b s, hi < b → b ≤ max lo (hi + 1) → step (b, s) = some (.inr (.inl s))) → k < n →
    loopO n step (lo, s) = foldO cs s (span lo hi) := by
  intro k
  induction k with
  | zero =>
    intro lo s n hk _ hd hn
    rw [span_nil (by omega), loop_done (hd lo s (by omega) (by omega)) hn]
    rfl
  | succ k ih =>
    intro lo s n hk h hd hn
    obtain ⟨m, rfl⟩ : ∃ k, n = k + 1 := ⟨n - 1, by omega⟩
    rw [span_cons (by omega), loopO_succ, h lo s (by omega) (by omega)]
    simp only [foldO]
    cases cs s lo with
    | none => rfl
    | some y => cases y with
      | inl s' =>
        simp only [Option.bind_some]
        exact ih (lo + 1) s' m (by omega) (fun b s h1 h2 => h b s (by omega) h2) (fun b s h1 h2 => hd b s h1 (by omega)) (by omega)
      | inr e => rfl
theorem foldO_flatMap {σ ρ α β : Type} {cs : σ → α → Option (σ ⊕ ρ)} (f : β → List α) : ∀ (l : List β) (s : σ), foldO cs s (l.flatMap f) = foldO (fun s b => foldO cs s (f b)) s l
  | [], s => by simp [foldO]
  | b :: l, s => by
    rw [List.flatMap_cons, foldO_append, foldO]
    congr 1
    funext y
    cases y with
    | inl s' => exact foldO_flatMap f l s'
    | inr r => rfl
theorem foldO_map {σ ρ α β : Type} {cs : σ → α → Option (σ ⊕ ρ)} (f : β → α) : ∀ (l : List β) (s : σ), foldO cs s (l.map f) = foldO (fun s b => cs s (f b)) s l
  | [], s => by simp [foldO]
  | b :: l, s => by
    rw [List.map_cons, foldO, foldO]
    congr 1
    funext y
    cases y with
    | inl s' => exact foldO_map f l s'
    | inr r => rfl
/-- a loop over a span that folds -/
theorem loop_span_fold {S R β : Type} {step : S → Option (S ⊕ R)} (enc : Int → β → S) (g : β → Int → β) (fin : β → R) (I : Int → β → Prop) {hi : Int} : ∀ (k : Nat) (lo : Int) (b0 : β) (n : Nat), (hi + 1 - lo).toNat = k → I lo b0 →
    (∀ i b, lo ≤ i → i ≤ hi → I i b → step (enc i b) = some (.inl (enc (i + 1) (g b i))) ∧ I (i + 1) (g b i)) → (∀ i b, hi < i → i ≤ max lo (hi + 1) → I i b → step (enc i b) = some (.inr (fin b))) → k < n →
    loopO n step (enc lo b0) = some (fin ((span lo hi).foldl g b0)) ∧ I (max lo (hi + 1)) ((span lo hi).foldl g b0) := by
  intro k
  induction k with
  | zero =>
    intro lo b0 n hk h0 _ hd hn
    rw [span_nil (by omega), loop_done (hd lo b0 (by omega) (by omega) h0) hn]
    rw [show max lo (hi + 1) = lo by omega]
    exact ⟨rfl, h0⟩
  | succ k ih =>
    intro lo b0 n hk h0 h hd hn
    obtain ⟨m, rfl⟩ : ∃ k, n = k + 1 := ⟨n - 1, by omega⟩
    obtain ⟨h1, h2⟩ := h lo b0 (by omega) (by omega) h0
    rw [span_cons (by omega), loopO_succ, h1, List.foldl_cons]
    have := ih (lo + 1) (g b0 lo) m (by omega) h2 (fun i b h1 h2 => h i b (by omega) h2) (fun i b h1 h2 => hd i b h1 (by omega)) (by omega)
    rw [show max (lo + 1) (hi + 1) = max lo (hi + 1) by omega] at this
    exact this
theorem loop_gcd {step : Int × Int → Option ((Int × Int) ⊕ Int)} (h0 : ∀ a, step (a, 0) = some (.inr a)) (h : ∀ a b, b ≠ 0 → step (a, b) = some (.inl (b, a.tmod b))) : ∀ (y x n : Nat), y < n → loopO n step ((x : Int), (y : Int)) = some ((Nat.gcd x y : Nat) : Int) := by
  intro y
  induction y using Nat.strongRecOn with
  | _ y ih =>
    intro x n hn
    obtain ⟨m, rfl⟩ : ∃ k, n = k + 1 := ⟨n - 1, by omega⟩
    rw [loopO_succ]
    by_cases hy : y = 0
    · subst hy
      have := h0 (x : Int)
      simp only [Int.natCast_zero] at *
      rw [this]; simp
    · rw [h _ _ (by omega)]
      simp only
      rw [← Int.ofNat_tmod]
      have hlt := Nat.mod_lt x (Nat.pos_of_ne_zero hy)
      rw [ih (x % y) hlt y m (by omega)]
      rw [Nat.gcd_comm x y, Nat.gcd_rec y x, Nat.gcd_comm]
theorem mul_in {x y A C : Int} (h1 : 0 ≤ x) (h2 : x ≤ A) (h3 : 0 ≤ y) (h4 : y ≤ C) : 0 ≤ x * y ∧ x * y ≤ A * C := by
  refine ⟨Int.mul_nonneg h1 h3, ?_⟩
  have a := Int.mul_le_mul_of_nonneg_right h2 h3
  have b := Int.mul_le_mul_of_nonneg_left h4 (show 0 ≤ A by omega)
  omega
theorem mul_abs {x y A C : Int} (h1 : -A ≤ x) (h2 : x ≤ A) (h3 : 0 ≤ y) (h4 : y ≤ C) : -(A * C) ≤ x * y ∧ x * y ≤ A * C := by
  have hA : 0 ≤ A := by omega
  have a := Int.mul_le_mul_of_nonneg_right h2 h3
  have a' := Int.mul_le_mul_of_nonneg_right h1 h3
  have b := Int.mul_le_mul_of_nonneg_left h4 hA
  rw [Int.neg_mul] at a'
  omega
end Go.Dec
end
