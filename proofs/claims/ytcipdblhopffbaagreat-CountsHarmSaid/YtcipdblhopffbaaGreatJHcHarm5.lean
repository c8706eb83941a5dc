/-
  A part of the proof of HcHarm: the texts HaGenK5, HaGenK6.
-/
import Derived.Test.YtcipdblhopffbaaGreatJHcHarm4
section
set_option maxRecDepth 100000
set_option maxHeartbeats 40000000
namespace Go.Proofs.YtcipdblhopffbaaGreat
open Go Go.RowKit Go.Dec
set_option linter.unusedVariables false
-- 69 (*ferrule/counts.test).wrong
def F_counts_test_wrong_s1 (n : Nat) (t : counts_test) (x_ : List Int) : Int × Int → Option ((Int × Int) ⊕ Int)
 | (n_57, x_58) => if decide (x_58 < (t.Run.Meters.length : Int)) = true then ((F_counts_test_right n t x_ x_58).bind fun y63 => (if (!y63) = true then (some (w64 (n_57 + 1))) else (some n_57)).bind fun n_65 => some (Sum.inl (n_65, (w64 (x_58 + 1))))) else (some (Sum.inr n_57))
def F_counts_test_wrong (n : Nat) (t : counts_test) (x_ : List Int) : Option Int :=
 (loopO n (F_counts_test_wrong_s1 n t x_) (0, 0)).bind fun n_34 => some n_34
theorem c_counts_test_wrong (n : Nat) (H : Hp) (t : counts_test) (t_v0 : Value) (ht_0 : SL H 7 R_Section t_v0 t.Run.Canopy.Frame.Sections) (t_v7 : Value) (ht_7 : SL H 2 R_Span t_v7 t.Run.Canopy.Ribs) (t_v8 : Value) (ht_8 : SL H 1 RInt t_v8 t.Run.Canopy.Shares) (t_v9 : Value) (ht_9 : SL H 3 R_Blow t_v9 t.Run.Blows) (t_v10 : Value) (ht_10 : SL H 2 R_Meter t_v10 t.Run.Meters) (t_v12 : Value) (ht_12 : FN_82 H t_v12 t.asked) (t_b t_o : Nat) (t_c : Cells H t_b t_o [t_v0, .int .i64 t.Run.Canopy.Frame.Low, .int .i64 t.Run.Canopy.Frame.High, .int .i64 t.Run.Canopy.Frame.Ease.Num, .int .i64 t.Run.Canopy.Frame.Ease.Den, .int .i64 t.Run.Canopy.Frame.Rod, .int .i64 t.Run.Canopy.Frame.Case, t_v7, t_v8, t_v9, t_v10, .int .i64 t.Run.Wrong, t_v12]) (x_ : List Int) (x__l : x_.length = 6) (y : Int) (hF : F_counts_test_wrong n t x_ = some y) : SC Tryz.prog 69 [.pointer (some ⟨t_b, t_o, none⟩), .agg (av .i64 x_).toArray] (.int .i64 y) H := by
 rw [F_counts_test_wrong] at hF
 refine SC.of (N := 25) Tryz.func69 rfl rfl rfl fun w => ?_
 refine JC.seq (JC.region (by rfl) ?_)
 intro hQ
 refine JL.box (cs := av .i64 x_) rfl .none rfl ?_
 intro b1
 refine JL.assign .none rfl (JL.done hQ (JQ.go (JC.seq (JC.region (by rfl) ?_))))
 intro hQ
 refine JL.assign .none rfl (JL.done hQ (JQ.go (JC.seq (JC.seq (JC.region (by rfl) ?_)))))
 intro hQ
 refine JL.move .none rfl (JL.nilCheck rfl .none rfl ?_)
 refine JL.fieldAddr fo_113_0 rfl .none rfl (JL.fieldAddr fo_34_2 rfl .none rfl (JL.loadH 10 az_32 rfl t_c rfl .none rfl ?_))
 refine JL.lenSL (R := R_Meter) ul_32 ht_10 .none rfl ?_
 refine JL.move .none rfl (JL.done hQ (JQ.go ?_))
 obtain ⟨r36, hlr36, hKr36⟩ := bind_some hF
 refine JC.join (fun (n_34 : Int) H35 f bs gs => f 5 = .int .i64 n_34 ∧ bs = [] ∧ gs = [] ∧ HSub H H35 ∧ n_34 = r36) ?_ ?_
 ·skip
  refine JC.block (JC.loop hlr36 (fun (x : Int × Int) H59 f bs gs => match x with | (n_57, x_58) => f 0 = .pointer (some ⟨t_b, t_o, none⟩) ∧ f 3 = .pointer (some ⟨b1, 0, none⟩) ∧ f 5 = .int .i64 n_57 ∧ f 12 = .int .i64 (t.Run.Meters.length : Int) ∧ f 13 = .int .i64 x_58 ∧ bs = [(b1, .cells (av .i64 x_).toArray 104)] ∧ gs = [] ∧ HSub H H59) ⟨rfl, rfl, rfl, rfl, rfl, rfl, rfl, (HSub.refl _)⟩ ?_)
  rintro ⟨n_57, x_58⟩ x61 H59 f bs gs ⟨hf0, hf3, hf5, hf12, hf13, rfl, rfl, hs59⟩ hF hr60
  rw [F_counts_test_wrong_s1] at hF
  refine (JC.norm (i := 0) hf0 (JC.norm (i := 3) hf3 (JC.norm (i := 5) hf5 (JC.norm (i := 12) hf12 (JC.norm (i := 13) hf13 ?_)))))
  refine JC.seq (JC.region (by rfl) ?_)
  intro hQ
  refine JL.bin rfl rfl rfl .none rfl (JL.done hQ (JQ.go (JC.seq ?_)))
  rcases ite_some hF with ⟨hc62, hF⟩ | ⟨hc62, hF⟩
  ·refine JC.cond_t (b := decide (x_58 < (t.Run.Meters.length : Int))) rfl hc62 ?_
   refine JC.skip (JQ.go (JC.seq (JC.block (JC.seq (JC.region (by rfl) ?_)))))
   intro hQ
   refine JL.move .none rfl (JL.assign .none rfl (JL.done hQ (JQ.go (JC.seq (JC.region (by rfl) ?_)))))
   intro hQ
   refine JL.move .none rfl (JL.loadArr (l := x_) 0 az_104 rfl rfl x__l .none rfl ?_)
   refine JL.move .none rfl ?_
   obtain ⟨y63, hy63, hF⟩ := bind_some hF
   refine JL.callS (c_counts_test_right n H59 t t_v0 (SL.mono R_Section_mono hs59 ht_0) t_v7 (SL.mono R_Span_mono hs59 ht_7) t_v8 (SL.mono RInt.mono hs59 ht_8) t_v9 (SL.mono R_Blow_mono hs59 ht_9) t_v10 (SL.mono R_Meter_mono hs59 ht_10) t_v12 (FN_82.mono hs59 ht_12) t_b t_o (Cells.mono hs59 t_c) x_ x__l x_58 y63 hy63) rfl en_59 .none rfl ?_
   refine JL.not rfl .none rfl (JL.done hQ (JQ.go ?_))
   obtain ⟨r67, hlr67, hKr67⟩ := bind_some hF
   refine JC.join (fun (n_65 : Int) H66 f bs gs => f 0 = .pointer (some ⟨t_b, t_o, none⟩) ∧ f 3 = .pointer (some ⟨b1, 0, none⟩) ∧ f 5 = .int .i64 n_65 ∧ f 12 = .int .i64 (t.Run.Meters.length : Int) ∧ f 13 = .int .i64 x_58 ∧ bs = [(b1, .cells (av .i64 x_).toArray 104)] ∧ gs = [] ∧ HSub H59 H66 ∧ n_65 = r67) ?_ ?_
   ·have hF := hlr67
    rcases ite_some hF with ⟨hc68, hF⟩ | ⟨hc68, hF⟩
    ·refine JC.cond_t (b := (!y63)) rfl hc68 ?_
     refine JC.region (by rfl) ?_
     intro hQ
     refine JL.move .none rfl (JL.bin rfl rfl rfl .none rfl (JL.assign .none rfl (JL.done hQ ?_)))
     obtain rfl := Option.some.inj hF
     exact JQ.join (w64 (n_57 + 1)) ⟨rfl, rfl, rfl, rfl, rfl, rfl, rfl, (HSub.refl _), rfl⟩
    ·refine JC.cond_f (b := (!y63)) rfl hc68 ?_
     refine JC.skip ?_
     obtain rfl := Option.some.inj hF
     exact JQ.join n_57 ⟨rfl, rfl, rfl, rfl, rfl, rfl, rfl, (HSub.refl _), rfl⟩
   ·rintro n_65 H66 f bs gs ⟨hf0, hf3, hf5, hf12, hf13, rfl, rfl, hs66, rfl⟩
    have hF := hKr67
    try dsimp only at hF
    refine (JQ.norm (i := 0) hf0 (JQ.norm (i := 3) hf3 (JQ.norm (i := 5) hf5 (JQ.norm (i := 12) hf12 (JQ.norm (i := 13) hf13 ?_)))))
    refine JQ.normal_block (JQ.go (JC.region (by rfl) ?_))
    intro hQ
    refine JL.bin rfl rfl rfl .none rfl (JL.move .none rfl (JL.done hQ ?_))
    obtain rfl := Option.some.inj hF
    exact JQ.next rfl ⟨rfl, rfl, rfl, rfl, rfl, rfl, rfl, (HSub.trans hs59 hs66)⟩
  ·refine JC.cond_f (b := decide (x_58 < (t.Run.Meters.length : Int))) rfl hc62 ?_
   refine JC.exit (JQ.exit_then (JQ.exit_then (JQ.exit_block ?_)))
   obtain rfl := Option.some.inj hF
   have ehr60 := hr60 _ rfl
   subst ehr60
   refine JQ.mask [false] [] ?_
   exact JQ.join n_57 ⟨rfl, rfl, rfl, hs59, rfl⟩
 ·rintro n_34 H35 f bs gs ⟨hf5, rfl, rfl, hs35, rfl⟩
  have hF := hKr36
  try dsimp only at hF
  refine (JQ.norm (i := 5) hf5 ?_)
  refine JQ.go (JC.seq (JC.region (by rfl) ?_))
  intro hQ
  refine JL.move .none rfl (JL.assign .none rfl (JL.done hQ (JQ.go (JC.ret ?_))))
  obtain rfl := Option.some.inj hF
  exact JQ.outS rfl (.tmp .nil) rfl
-- 78 (*ferrule/counts.test).truths
noncomputable def F_counts_test_truths_s1 (n : Nat) (t : counts_test) : Mp → List Int × Int → Option Mp
 | m_174, (kl182, v183) => (F_counts_test_wrong n t kl182).bind fun y197 => (if decide (t.Run.Wrong < y197) = true then (some (mdel m_174 kl182)) else (some m_174)).bind fun m_203 => some m_203
noncomputable def F_counts_test_truths (n : Nat) (t : counts_test) : Option Mp :=
 (F_counts_test_readings n t).bind fun y1 => ((permO (F_counts_test_truths_s1 n t) y1 y1).bind fun z211 => match z211 with | m_174 => some m_174).bind fun m_110 => some m_110
theorem c_counts_test_truths (n : Nat) (H : Hp) (t : counts_test) (t_v0 : Value) (ht_0 : SL H 7 R_Section t_v0 t.Run.Canopy.Frame.Sections) (t_v7 : Value) (ht_7 : SL H 2 R_Span t_v7 t.Run.Canopy.Ribs) (t_v8 : Value) (ht_8 : SL H 1 RInt t_v8 t.Run.Canopy.Shares) (t_v9 : Value) (ht_9 : SL H 3 R_Blow t_v9 t.Run.Blows) (t_v10 : Value) (ht_10 : SL H 2 R_Meter t_v10 t.Run.Meters) (t_v12 : Value) (ht_12 : FN_82 H t_v12 t.asked) (t_b t_o : Nat) (t_c : Cells H t_b t_o [t_v0, .int .i64 t.Run.Canopy.Frame.Low, .int .i64 t.Run.Canopy.Frame.High, .int .i64 t.Run.Canopy.Frame.Ease.Num, .int .i64 t.Run.Canopy.Frame.Ease.Den, .int .i64 t.Run.Canopy.Frame.Rod, .int .i64 t.Run.Canopy.Frame.Case, t_v7, t_v8, t_v9, t_v10, .int .i64 t.Run.Wrong, t_v12]) (y : Mp) (hF : F_counts_test_truths n t = some y) : XB Tryz.prog 78 [.pointer (some ⟨t_b, t_o, none⟩)] H (fun H' v bs' => ∃ b es ck, v = .map (some b) ∧ bs' = [(b, .map es ck)] ∧ MR 6 ekA y es ck) := by
 rw [F_counts_test_truths] at hF
 refine XB.of (N := 25) Tryz.func78 rfl rfl rfl fun w => ?_
 refine JC.seq (JC.region (by rfl) ?_)
 intro hQ
 refine JL.assign .none rfl (JL.done hQ (JQ.go (JC.seq (JC.region (by rfl) ?_))))
 intro hQ
 refine JL.move .none rfl ?_
 obtain ⟨y1, hy1, hF⟩ := bind_some hF
 refine JL.callXB (c_counts_test_readings n H t t_v0 ht_0 t_v7 ht_7 t_v8 ht_8 t_v9 ht_9 t_v10 ht_10 t_v12 ht_12 t_b t_o t_c y1 hy1) rfl en_68 .none rfl ?_
 rintro H2 _ _ hs2 ⟨b3, es4, ck5, rfl, rfl, hm6⟩
 refine JL.assign .none rfl (JL.done hQ (JQ.go (JC.seq (JC.seq (JC.region (by rfl) ?_)))))
 intro hQ
 refine JL.move .none rfl (JL.rangeM mp_92 rfl (.own 0 rfl) hm6 .none rfl ?_)
 intro r7 sn8 seen9 cz10 hI11
 refine JL.done hQ (JQ.go ?_)
 obtain ⟨r112, hlr112, hKr112⟩ := bind_some hF
 refine JC.join (fun (m_110 : Mp) H111 f bs gs => ∃ (em_110 : Array MapEntry) (cm_110 : Nat), f 3 = .map (some b3) ∧ bs = [(b3, .map em_110 cm_110)] ∧ gs = [] ∧ MR 6 ekA m_110 em_110 cm_110 ∧ HSub H2 H111 ∧ m_110 = r112) ?_ ?_
 ·skip
  obtain ⟨rs176, hper177, hl178⟩ := bind_some hlr112
  refine JC.block (JC.mapLoop (srt_nodup hI11.srt) hper177 (fun (dd : Mp) (m_174 : Mp) H175 f bs gs => ∃ (em_174 : Array MapEntry) (cm_174 : Nat) (sn_r7 : Nat) (se_r7 : Array Nat) (cz_r7 : Nat), f 0 = .pointer (some ⟨t_b, t_o, none⟩) ∧ f 3 = .map (some b3) ∧ f 8 = .pointer (some ⟨r7, 0, none⟩) ∧ bs = [(r7, .mapIter (some b3) sn_r7 se_r7 cz_r7), (b3, .map em_174 cm_174)] ∧ gs = [] ∧ MR 6 ekA m_174 em_174 cm_174 ∧ IR 6 ekA y1 m_174 em_174 cm_174 sn_r7 se_r7 cz_r7 dd ∧ HSub H2 H175) ⟨es4, ck5, sn8, seen9, cz10, rfl, rfl, rfl, rfl, rfl, hm6, hI11, (HSub.refl _)⟩ ?_)
  rintro dd m_174 H175 f bs gs ⟨em_174, cm_174, sn_r7, se_r7, cz_r7, hf0, hf3, hf8, rfl, rfl, hm_174, hI_r7, hs175⟩ hend179 hgo180
  refine (JC.norm (i := 0) hf0 (JC.norm (i := 3) hf3 (JC.norm (i := 8) hf8 ?_)))
  refine JC.seq (JC.region (by rfl) ?_)
  intro hQ
  refine JL.nextM 0 kt_104 rfl rfl (.own 1 rfl) hm_174 hI_r7 .none rfl ?_ ?_
  ·intro hp181
   refine JL.extract rfl rfl .none rfl (JL.done hQ (JQ.go (JC.seq (JC.cond_f (b := false) rfl rfl ?_))))
   refine JC.exit (JQ.exit_then (JQ.exit_then (JQ.exit_block ?_)))
   have er193 := hend179 hp181
   subst er193
   obtain rfl := Option.some.inj hl178
   refine JQ.mask [false, true] [] ?_
   exact JQ.join m_174 ⟨em_174, cm_174, rfl, rfl, rfl, hm_174, hs175, rfl⟩
  ·rintro ⟨kl182, v183⟩ seen184 cz185 hx186 hxm187 hxn188 hI189 hE190
   have kok194 := (hm_174.okk _ hxm187)
   dsimp only at kok194
   obtain ⟨sp192, hst191⟩ := hgo180 (kl182, v183) hx186 hxn188
   have hF := hst191
   rw [F_counts_test_truths_s1] at hF
   refine JL.extract rfl rfl .none rfl (JL.done hQ (JQ.go (JC.seq (JC.cond_t (b := true) rfl rfl ?_))))
   refine JC.skip (JQ.go (JC.block (JC.seq (JC.region (by rfl) ?_))))
   intro hQ
   refine JL.entryIt (y := (kl182, v183)) 0 rfl rfl (.own 1 rfl) hm_174 hE190 .none rfl ?_
   refine JL.extract rfl rfl .none rfl (JL.alloc ze_104 .none rfl ?_)
   intro b195
   refine JL.storeArr (l := [0, 0, 0, 0, 0, 0]) (l' := kl182) 0 az_104 rfl rfl rfl rfl kok194.1 .none ?_
   refine JL.done hQ (JQ.go (JC.seq (JC.draw (by rfl) mo_ (by kernel_rfl) ?_)))
   intro hQ
   refine JL.move .none rfl (JL.loadArr (l := kl182) 0 az_104 rfl rfl kok194.1 .none rfl ?_)
   obtain ⟨y197, hy197, hF⟩ := bind_some hF
   refine JL.callS (c_counts_test_wrong n H175 t t_v0 (SL.mono R_Section_mono (HSub.trans hs2 hs175) ht_0) t_v7 (SL.mono R_Span_mono (HSub.trans hs2 hs175) ht_7) t_v8 (SL.mono RInt.mono (HSub.trans hs2 hs175) ht_8) t_v9 (SL.mono R_Blow_mono (HSub.trans hs2 hs175) ht_9) t_v10 (SL.mono R_Meter_mono (HSub.trans hs2 hs175) ht_10) t_v12 (FN_82.mono (HSub.trans hs2 hs175) ht_12) t_b t_o (Cells.mono (HSub.trans hs2 hs175) t_c) kl182 kok194.1 y197 hy197) rfl en_69 .none rfl ?_
   refine JL.move .none rfl (JL.nilCheck rfl .none rfl ?_)
   refine JL.fieldAddr fo_113_0 rfl .none rfl (JL.fieldAddr fo_34_3 rfl .none rfl (JL.loadH 11 az_3 rfl (Cells.mono (HSub.trans hs2 hs175) t_c) rfl .none rfl ?_))
   refine JL.bin rfl rfl rfl .none rfl (JL.doneQ hQ ?_)
   refine JQ.go (JC.fresh (fun f => f 0 = .pointer (some ⟨t_b, t_o, none⟩) ∧ f 3 = .map (some b3) ∧ f 4 = .pointer (some ⟨b195, 0, none⟩) ∧ f 8 = .pointer (some ⟨r7, 0, none⟩) ∧ f 21 = .bool (decide (t.Run.Wrong < y197))) ⟨rfl, rfl, rfl, rfl, rfl⟩ ?_)
   rintro f ⟨hf0, hf3, hf4, hf8, hf21⟩
   refine (JC.norm (i := 0) hf0 (JC.norm (i := 3) hf3 (JC.norm (i := 4) hf4 (JC.norm (i := 8) hf8 (JC.norm (i := 21) hf21 ?_)))))
   obtain ⟨r205, hlr205, hKr205⟩ := bind_some hF
   refine JC.join (fun (m_203 : Mp) H204 f bs gs => ∃ (em_203 : Array MapEntry) (cm_203 : Nat), f 0 = .pointer (some ⟨t_b, t_o, none⟩) ∧ f 3 = .map (some b3) ∧ f 8 = .pointer (some ⟨r7, 0, none⟩) ∧ bs = [(r7, .mapIter (some b3) sn_r7 seen184 cz185), (b3, .map em_203 cm_203)] ∧ gs = [] ∧ MR 6 ekA m_203 em_203 cm_203 ∧ IR 6 ekA y1 m_203 em_203 cm_203 sn_r7 seen184 cz185 (dd ++ [(kl182, v183)]) ∧ HSub H175 H204 ∧ m_203 = r205) ?_ ?_
   ·have hF := hlr205
    rcases ite_some hF with ⟨hc206, hF⟩ | ⟨hc206, hF⟩
    ·refine JC.cond_t (b := decide (t.Run.Wrong < y197)) rfl hc206 ?_
     refine JC.region (by rfl) ?_
     intro hQ
     refine JL.move .none rfl (JL.loadArr (l := kl182) 0 az_104 rfl rfl kok194.1 .none rfl ?_)
     refine JL.deleteM (k := kl182) 2 mp_92 kt_104 rfl rfl hm_174 rfl kok194 .none rfl ?_
     intro es207 hm208 hsu209
     have hI210 := hI189.drop hsu209 (x := (kl182, v183)) (List.mem_append_right _ (List.mem_singleton.2 rfl))
     refine JL.done hQ ?_
     obtain rfl := Option.some.inj hF
     refine JQ.mask [false, true, true] [] ?_
     exact JQ.join (mdel m_174 kl182) ⟨es207, cm_174, rfl, rfl, rfl, rfl, rfl, hm208, hI210, (HSub.refl _), rfl⟩
    ·refine JC.cond_f (b := decide (t.Run.Wrong < y197)) rfl hc206 ?_
     refine JC.skip ?_
     obtain rfl := Option.some.inj hF
     refine JQ.mask [false, true, true] [] ?_
     exact JQ.join m_174 ⟨em_174, cm_174, rfl, rfl, rfl, rfl, rfl, hm_174, hI189, (HSub.refl _), rfl⟩
   ·rintro m_203 H204 f bs gs ⟨em_203, cm_203, hf0, hf3, hf8, rfl, rfl, hm_203, hIm_203, hs204, rfl⟩
    have hF := hKr205
    try dsimp only at hF
    refine (JQ.norm (i := 0) hf0 (JQ.norm (i := 3) hf3 (JQ.norm (i := 8) hf8 ?_)))
    refine JQ.normal_block ?_
    obtain rfl := Option.some.inj hF
    exact JQ.mnext hx186 hxn188 hst191 ⟨em_203, cm_203, sn_r7, seen184, cz185, rfl, rfl, rfl, rfl, rfl, hm_203, hIm_203, (HSub.trans hs175 hs204)⟩
 ·rintro m_110 H111 f bs gs ⟨em_110, cm_110, hf3, rfl, rfl, hm_110, hs111, rfl⟩
  have hF := hKr112
  try dsimp only at hF
  refine (JQ.norm (i := 3) hf3 ?_)
  refine JQ.go (JC.seq (JC.region (by rfl) ?_))
  intro hQ
  refine JL.move .none rfl (JL.assign .none rfl (JL.done hQ (JQ.go (JC.ret ?_))))
  obtain rfl := Option.some.inj hF
  exact JQ.outB rfl (.tmp .nil) ⟨b3, em_110, cm_110, rfl, rfl, hm_110⟩
-- 47 ferrule/counts.open
noncomputable def F_counts_open (n : Nat) (r : Run) (is : Bool) (asked : Blow → Int → Option Bool) : Option ((Option counts_test) × Mp × Int) :=
 (F_counts_Check n r).bind fun y2 => if (y2 != 0) = true then (some ((none : Option counts_test), ([] : Mp), y2)) else (if (!is) = true then (some ((none : Option counts_test), ([] : Mp), 1)) else ((F_counts_test_truths n (counts_test.mk r asked)).bind fun y23 => if ((y23.length : Int) == 0) = true then (some ((none : Option counts_test), ([] : Mp), 3)) else (some ((some (counts_test.mk r asked)), y23, 0))))
theorem c_counts_open (n : Nat) (H : Hp) (r : Run) (r_v0 : Value) (hr_0 : SL H 7 R_Section r_v0 r.Canopy.Frame.Sections) (r_v7 : Value) (hr_7 : SL H 2 R_Span r_v7 r.Canopy.Ribs) (r_v8 : Value) (hr_8 : SL H 1 RInt r_v8 r.Canopy.Shares) (r_v9 : Value) (hr_9 : SL H 3 R_Blow r_v9 r.Blows) (r_v10 : Value) (hr_10 : SL H 2 R_Meter r_v10 r.Meters) (is : Bool) (asked : Blow → Int → Option Bool) (asked_k : Nat) (asked_c : List Value) (asked_e : Ent Tryz.prog asked_k) (asked_h : ∀ H', HSub H H' → ∀ (a0_ : Blow) (a1_ : Int) (y : Bool), asked a0_ a1_ = some y → SC Tryz.prog asked_k ([.agg [.int .i64 a0_.At, .int .i64 a0_.Force.Low, .int .i64 a0_.Force.High].toArray, .int .i64 a1_] ++ asked_c) (.bool y) H') (y : (Option counts_test) × Mp × Int) (hF : F_counts_open n r is asked = some y) : HC Tryz.prog 47 [.agg [r_v0, .int .i64 r.Canopy.Frame.Low, .int .i64 r.Canopy.Frame.High, .int .i64 r.Canopy.Frame.Ease.Num, .int .i64 r.Canopy.Frame.Ease.Den, .int .i64 r.Canopy.Frame.Rod, .int .i64 r.Canopy.Frame.Case, r_v7, r_v8, r_v9, r_v10, .int .i64 r.Wrong].toArray, .bool is, .func (.func asked_k) #[] asked_c.toArray] H (fun H' v => ∃ ra_v0 rb_v0 : Value, v = .tuple [ra_v0, rb_v0, .int .i64 y.2.2].toArray ∧ PT H' R_counts_test ra_v0 y.1 ∧ MD 6 ekA H' rb_v0 y.2.1) := by
 rw [F_counts_open] at hF
 refine HC.of (N := 30) Tryz.func47 rfl rfl rfl fun w => ?_
 refine JC.seq (JC.region (by rfl) ?_)
 intro hQ
 refine JL.box (cs := [r_v0, .int .i64 r.Canopy.Frame.Low, .int .i64 r.Canopy.Frame.High, .int .i64 r.Canopy.Frame.Ease.Num, .int .i64 r.Canopy.Frame.Ease.Den, .int .i64 r.Canopy.Frame.Rod, .int .i64 r.Canopy.Frame.Case, r_v7, r_v8, r_v9, r_v10, .int .i64 r.Wrong]) rfl .none rfl ?_
 intro b1
 refine JL.assign .none rfl (JL.assign .none rfl (JL.assign .none rfl (JL.done hQ (JQ.go (JC.seq (JC.seq (JC.region (by rfl) ?_)))))))
 intro hQ
 refine JL.loadOwn 0 az_34 rfl rfl rfl .none rfl ?_
 obtain ⟨y2, hy2, hF⟩ := bind_some hF
 refine JL.callS (c_counts_Check n H r r_v0 hr_0 r_v7 hr_7 r_v8 hr_8 r_v9 hr_9 r_v10 hr_10 y2 hy2) rfl en_27 .none rfl ?_
 refine JL.assign .none rfl (JL.done hQ (JQ.go (JC.seq (JC.region (by rfl) ?_))))
 intro hQ
 refine JL.move .none rfl (JL.bin rfl rfl rfl .none rfl (JL.done hQ (JQ.go ?_)))
 rcases ite_some hF with ⟨hc3, hF⟩ | ⟨hc3, hF⟩
 ·refine JC.cond_t (b := (y2 != 0)) rfl hc3 ?_
  refine JC.seq (JC.region (by rfl) ?_)
  intro hQ
  refine JL.move .none rfl (JL.assign .none rfl (JL.assign .none rfl (JL.assign .none rfl (JL.done hQ (JQ.go (JC.ret (JQ.ret_then ?_)))))))
  obtain rfl := Option.some.inj hF
  exact JQ.outH rfl (.tmp (.tmp (.tmp .nil))) ⟨(.pointer none), (.map none), rfl, rfl, MD.nil⟩
 ·refine JC.cond_f (b := (y2 != 0)) rfl hc3 ?_
  refine JC.skip (JQ.go (JC.seq (JC.seq (JC.region (by rfl) ?_))))
  intro hQ
  refine JL.move .none rfl (JL.not rfl .none rfl (JL.done hQ (JQ.go (JC.fresh (fun f => f 2 = .func (.func asked_k) #[] asked_c.toArray ∧ f 3 = .pointer (some ⟨b1, 0, none⟩) ∧ f 6 = .pointer none ∧ f 7 = .map none ∧ f 8 = .int .i64 0 ∧ f 18 = .bool (!is)) ⟨rfl, rfl, rfl, rfl, rfl, rfl⟩ ?_))))
  rintro f ⟨hf2, hf3, hf6, hf7, hf8, hf18⟩
  refine (JC.norm (i := 2) hf2 (JC.norm (i := 3) hf3 (JC.norm (i := 6) hf6 (JC.norm (i := 7) hf7 (JC.norm (i := 8) hf8 (JC.norm (i := 18) hf18 ?_))))))
  rcases ite_some hF with ⟨hc4, hF⟩ | ⟨hc4, hF⟩
  ·refine JC.cond_t (b := (!is)) rfl hc4 ?_
   refine JC.seq (JC.region (by rfl) ?_)
   intro hQ
   refine JL.assign .none rfl (JL.assign .none rfl (JL.assign .none rfl (JL.done hQ (JQ.go (JC.ret (JQ.ret_then ?_))))))
   obtain rfl := Option.some.inj hF
   exact JQ.outH rfl (.tmp (.tmp (.tmp .nil))) ⟨(.pointer none), (.map none), rfl, rfl, MD.nil⟩
  ·refine JC.cond_f (b := (!is)) rfl hc4 ?_
   refine JC.skip (JQ.go (JC.seq (JC.region (by rfl) ?_)))
   intro hQ
   refine JL.loadOwn 0 az_34 rfl rfl rfl .none rfl (JL.move .none rfl ?_)
   obtain ⟨a5, c6, rfl, hh7⟩ := hr_0
   have hr_0 : SL H 7 R_Section (.slice a5 r.Canopy.Frame.Sections.length c6) r.Canopy.Frame.Sections := ⟨a5, c6, rfl, hh7⟩
   obtain ⟨a8, c9, rfl, hh10⟩ := hr_7
   have hr_7 : SL H 2 R_Span (.slice a8 r.Canopy.Ribs.length c9) r.Canopy.Ribs := ⟨a8, c9, rfl, hh10⟩
   obtain ⟨a11, c12, rfl, hh13⟩ := hr_8
   have hr_8 : SL H 1 RInt (.slice a11 r.Canopy.Shares.length c12) r.Canopy.Shares := ⟨a11, c12, rfl, hh13⟩
   obtain ⟨a14, c15, rfl, hh16⟩ := hr_9
   have hr_9 : SL H 3 R_Blow (.slice a14 r.Blows.length c15) r.Blows := ⟨a14, c15, rfl, hh16⟩
   obtain ⟨a17, c18, rfl, hh19⟩ := hr_10
   have hr_10 : SL H 2 R_Meter (.slice a17 r.Meters.length c18) r.Meters := ⟨a17, c18, rfl, hh19⟩
   refine JL.build (l := [(.slice a5 r.Canopy.Frame.Sections.length c6), .int .i64 r.Canopy.Frame.Low, .int .i64 r.Canopy.Frame.High, .int .i64 r.Canopy.Frame.Ease.Num, .int .i64 r.Canopy.Frame.Ease.Den, .int .i64 r.Canopy.Frame.Rod, .int .i64 r.Canopy.Frame.Case, (.slice a8 r.Canopy.Ribs.length c9), (.slice a11 r.Canopy.Shares.length c12), (.slice a14 r.Blows.length c15), (.slice a17 r.Meters.length c18), .int .i64 r.Wrong, .func (.func asked_k) #[] asked_c.toArray]) (by kernel_rfl) .none rfl ?_
   refine JL.box (cs := [(.slice a5 r.Canopy.Frame.Sections.length c6), .int .i64 r.Canopy.Frame.Low, .int .i64 r.Canopy.Frame.High, .int .i64 r.Canopy.Frame.Ease.Num, .int .i64 r.Canopy.Frame.Ease.Den, .int .i64 r.Canopy.Frame.Rod, .int .i64 r.Canopy.Frame.Case, (.slice a8 r.Canopy.Ribs.length c9), (.slice a11 r.Canopy.Shares.length c12), (.slice a14 r.Blows.length c15), (.slice a17 r.Meters.length c18), .int .i64 r.Wrong, .func (.func asked_k) #[] asked_c.toArray]) rfl .none rfl ?_
   intro b20
   refine JL.assign .none rfl (JL.done hQ (JQ.go (JC.seq (JC.region (by rfl) ?_))))
   intro hQ
   refine JL.move .none rfl (JL.freezeC 0 (l := [(.slice a5 r.Canopy.Frame.Sections.length c6), .int .i64 r.Canopy.Frame.Low, .int .i64 r.Canopy.Frame.High, .int .i64 r.Canopy.Frame.Ease.Num, .int .i64 r.Canopy.Frame.Ease.Den, .int .i64 r.Canopy.Frame.Rod, .int .i64 r.Canopy.Frame.Case, (.slice a8 r.Canopy.Ribs.length c9), (.slice a11 r.Canopy.Shares.length c12), (.slice a14 r.Blows.length c15), (.slice a17 r.Meters.length c18), .int .i64 r.Wrong, .func (.func asked_k) #[] asked_c.toArray]) rfl ?_)
   intro H21 hs21 hc22
   obtain ⟨y23, hy23, hF⟩ := bind_some hF
   refine JL.callXB (c_counts_test_truths n H21 (counts_test.mk r asked) (.slice a5 r.Canopy.Frame.Sections.length c6) (SL.mono R_Section_mono hs21 hr_0) (.slice a8 r.Canopy.Ribs.length c9) (SL.mono R_Span_mono hs21 hr_7) (.slice a11 r.Canopy.Shares.length c12) (SL.mono RInt.mono hs21 hr_8) (.slice a14 r.Blows.length c15) (SL.mono R_Blow_mono hs21 hr_9) (.slice a17 r.Meters.length c18) (SL.mono R_Meter_mono hs21 hr_10) (.func (.func asked_k) #[] asked_c.toArray) ⟨asked_k, asked_c, rfl, asked_e, (fun H' hs' => asked_h H' (HSub.trans hs21 hs'))⟩ b20 0 hc22 y23 hy23) rfl en_78 .none rfl ?_
   rintro H24 _ _ hs24 ⟨b25, es26, ck27, rfl, rfl, hm28⟩
   refine JL.assign .none rfl (JL.done hQ (JQ.go (JC.fresh (fun f => f 6 = .pointer none ∧ f 7 = .map none ∧ f 8 = .int .i64 0 ∧ f 10 = .pointer (some ⟨b20, 0, none⟩) ∧ f 11 = .map (some b25)) ⟨rfl, rfl, rfl, rfl, rfl⟩ ?_)))
   rintro f ⟨hf6, hf7, hf8, hf10, hf11⟩
   refine (JC.norm (i := 6) hf6 (JC.norm (i := 7) hf7 (JC.norm (i := 8) hf8 (JC.norm (i := 10) hf10 (JC.norm (i := 11) hf11 ?_)))))
   refine JC.seq (JC.seq (JC.region (by rfl) ?_))
   intro hQ
   refine JL.move .none rfl (JL.lenM mp_92 rfl (.own 0 rfl) hm28 .none rfl ?_)
   refine JL.bin rfl rfl rfl .none rfl (JL.done hQ (JQ.go ?_))
   rcases ite_some hF with ⟨hc29, hF⟩ | ⟨hc29, hF⟩
   ·refine JC.cond_t (b := ((y23.length : Int) == 0)) rfl hc29 ?_
    refine JC.seq (JC.region (by rfl) ?_)
    intro hQ
    refine JL.assign .none rfl (JL.assign .none rfl (JL.assign .none rfl (JL.done hQ (JQ.go (JC.ret (JQ.ret_then ?_))))))
    obtain rfl := Option.some.inj hF
    exact JQ.outH rfl (.tmp (.tmp (.tmp .nil))) ⟨(.pointer none), (.map none), rfl, rfl, MD.nil⟩
   ·refine JC.cond_f (b := ((y23.length : Int) == 0)) rfl hc29 ?_
    refine JC.skip (JQ.go (JC.seq (JC.region (by rfl) ?_)))
    intro hQ
    refine JL.move .none rfl (JL.move .none rfl (JL.assign .none rfl (JL.assign .none rfl (JL.assign .none rfl (JL.done hQ (JQ.go (JC.ret (JQ.freezeM 0 rfl hm28 ?_))))))))
    intro H30 hs30 hmd31
    obtain rfl := Option.some.inj hF
    exact JQ.outH rfl (.tmp (.tmp (.tmp .nil))) ⟨(.pointer (some ⟨b20, 0, none⟩)), (.map (some b25)), rfl, ⟨_, _, _, rfl, (Cells.mono (HSub.trans hs24 hs30) hc22), ⟨(.slice a5 r.Canopy.Frame.Sections.length c6), (.slice a8 r.Canopy.Ribs.length c9), (.slice a11 r.Canopy.Shares.length c12), (.slice a14 r.Blows.length c15), (.slice a17 r.Meters.length c18), .func (.func asked_k) #[] asked_c.toArray, rfl, (SL.mono R_Section_mono (HSub.trans hs21 (HSub.trans hs24 hs30)) hr_0), (SL.mono R_Span_mono (HSub.trans hs21 (HSub.trans hs24 hs30)) hr_7), (SL.mono RInt.mono (HSub.trans hs21 (HSub.trans hs24 hs30)) hr_8), (SL.mono R_Blow_mono (HSub.trans hs21 (HSub.trans hs24 hs30)) hr_9), (SL.mono R_Meter_mono (HSub.trans hs21 (HSub.trans hs24 hs30)) hr_10), ⟨asked_k, asked_c, rfl, asked_e, (fun H' hs' => asked_h H' (HSub.trans (HSub.trans hs21 (HSub.trans hs24 hs30)) hs'))⟩⟩⟩, hmd31⟩
-- 48 ferrule/counts.none
def F_counts_none (n : Nat) (a0 : Blow) (a1 : Int) : Option Bool :=
 some false
theorem c_counts_none (n : Nat) (H : Hp) (a0 : Blow) (a1 : Int) (y : Bool) (hF : F_counts_none n a0 a1 = some y) : SC Tryz.prog 48 [.agg [.int .i64 a0.At, .int .i64 a0.Force.Low, .int .i64 a0.Force.High].toArray, .int .i64 a1] (.bool y) H := by
 rw [F_counts_none] at hF
 refine SC.of (N := 5) Tryz.func48 rfl rfl rfl fun w => ?_
 refine JC.seq (JC.region (by rfl) ?_)
 intro hQ
 refine JL.box (cs := [.int .i64 a0.At, .int .i64 a0.Force.Low, .int .i64 a0.Force.High]) rfl .none rfl ?_
 intro b1
 refine JL.assign .none rfl (JL.done hQ (JQ.go (JC.seq (JC.region (by rfl) ?_))))
 intro hQ
 refine JL.assign .none rfl (JL.done hQ (JQ.go (JC.ret ?_)))
 obtain rfl := Option.some.inj hF
 exact JQ.outS rfl (.tmp .nil) rfl
-- 79 slices.Clone[[]ferrule/api.Blow,ferrule/api.Blow]
def F_slices_Clone___api_Blow_api_Blow_ (n : Nat) (s : List Blow) : Option (List Blow) := lim s
theorem c_slices_Clone___api_Blow_api_Blow_ (n : Nat) (H : Hp) (s : List Blow) (s_v0 : Value) (hs_0 : SL H 3 R_Blow s_v0 s) (y : List Blow) (hF : F_slices_Clone___api_Blow_api_Blow_ n s = some y) : OC Tryz.prog 79 [s_v0] H 62 3 (fun m xs => m = y.length ∧ CH H 3 R_Blow xs y) := by
 rw [F_slices_Clone___api_Blow_api_Blow_] at hF
 have hl : lim (([] : List Blow) ++ s) = some y := by rw [List.nil_append]; exact hF
 obtain ⟨rfl, _⟩ := lim_some hF
 obtain ⟨a, c, rfl, hh⟩ := id hs_0
 refine OC.of (N := 8) Tryz.func79 rfl rfl rfl fun w => ?_
 refine JC.seq (JC.region (by rfl) ?_)
 intro hQ
 refine JL.assign .none rfl (JL.done hQ (JQ.go (JC.seq (JC.seq (JC.region (by rfl) ?_)))))
 intro hQ
 refine JL.move .none rfl (JL.eqNil ul_31 rfl rfl .none rfl ?_)
 refine JL.done hQ (JQ.go ?_)
 cases a with
 | none =>
  have hnil : y = [] := by
   rcases hh.2 with h | ⟨b, o, h, _⟩
   ·exact h
   ·cases h
  subst hnil
  refine JC.cond_t (b := true) rfl rfl ?_
  refine JC.seq (JC.region (by rfl) ?_)
  intro hQ
  refine JL.assign .none rfl (JL.newNil (e := 62) (sz := 3) ?_)
  exact JL.done hQ (JQ.go (JC.ret (JQ.ret_then (JQ.outO 0 rfl rfl rfl ⟨rfl, rfl⟩ ⟨rfl, CH.nil⟩))))
 | some ad =>
  refine JC.cond_f (b := false) rfl rfl ?_
  refine JC.skip (JQ.go (JC.seq (JC.region (by rfl) ?_)))
  intro hQ
  refine JL.emptySlice ap_31 .none rfl ?_
  intro v1
  refine JL.move .none rfl (JL.appD (R := R_Blow) 0 (l := ([] : List Blow)) (m := y) ap_31 rfl ⟨rfl, rfl⟩ rfl CH.nil rfl hs_0 (R_Blow_one _) hl .none rfl ?_)
  intro v4 xs5 hch6
  exact JL.assign .none rfl (JL.done hQ (JQ.go (JC.ret (JQ.outO 0 rfl rfl rfl ⟨rfl, rfl⟩ ⟨rfl, hch6⟩))))
-- 49 ferrule/counts.fixed
def F_counts_fixed (n : Nat) (r : Run) (blow : Int) (force : Int) : Option Run :=
 (F_slices_Clone___api_Blow_api_Blow_ n r.Blows).bind fun y3 => (geti y3 blow).bind fun y9 => some (Run.mk r.Canopy (setx y3 blow (Blow.mk y9.At (Span.mk force force))) r.Meters r.Wrong)
theorem c_counts_fixed (n : Nat) (H : Hp) (r : Run) (r_v0 : Value) (hr_0 : SL H 7 R_Section r_v0 r.Canopy.Frame.Sections) (r_v7 : Value) (hr_7 : SL H 2 R_Span r_v7 r.Canopy.Ribs) (r_v8 : Value) (hr_8 : SL H 1 RInt r_v8 r.Canopy.Shares) (r_v9 : Value) (hr_9 : SL H 3 R_Blow r_v9 r.Blows) (r_v10 : Value) (hr_10 : SL H 2 R_Meter r_v10 r.Meters) (blow : Int) (force : Int) (y : Run) (hF : F_counts_fixed n r blow force = some y) : HC Tryz.prog 49 [.agg [r_v0, .int .i64 r.Canopy.Frame.Low, .int .i64 r.Canopy.Frame.High, .int .i64 r.Canopy.Frame.Ease.Num, .int .i64 r.Canopy.Frame.Ease.Den, .int .i64 r.Canopy.Frame.Rod, .int .i64 r.Canopy.Frame.Case, r_v7, r_v8, r_v9, r_v10, .int .i64 r.Wrong].toArray, .int .i64 blow, .int .i64 force] H (fun H' v => ∃ ra_v0 ra_v7 ra_v8 ra_v9 ra_v10 : Value, v = .agg [ra_v0, .int .i64 y.Canopy.Frame.Low, .int .i64 y.Canopy.Frame.High, .int .i64 y.Canopy.Frame.Ease.Num, .int .i64 y.Canopy.Frame.Ease.Den, .int .i64 y.Canopy.Frame.Rod, .int .i64 y.Canopy.Frame.Case, ra_v7, ra_v8, ra_v9, ra_v10, .int .i64 y.Wrong].toArray ∧ SL H' 7 R_Section ra_v0 y.Canopy.Frame.Sections ∧ SL H' 2 R_Span ra_v7 y.Canopy.Ribs ∧ SL H' 1 RInt ra_v8 y.Canopy.Shares ∧ SL H' 3 R_Blow ra_v9 y.Blows ∧ SL H' 2 R_Meter ra_v10 y.Meters) := by
 rw [F_counts_fixed] at hF
 refine HC.of (N := 20) Tryz.func49 rfl rfl rfl fun w => ?_
 refine JC.seq (JC.region (by rfl) ?_)
 intro hQ
 refine JL.box (cs := [r_v0, .int .i64 r.Canopy.Frame.Low, .int .i64 r.Canopy.Frame.High, .int .i64 r.Canopy.Frame.Ease.Num, .int .i64 r.Canopy.Frame.Ease.Den, .int .i64 r.Canopy.Frame.Rod, .int .i64 r.Canopy.Frame.Case, r_v7, r_v8, r_v9, r_v10, .int .i64 r.Wrong]) rfl .none rfl ?_
 intro b1
 refine JL.alloc ze_34 .none rfl ?_
 intro b2
 refine JL.done hQ (JQ.go (JC.seq (JC.region (by rfl) ?_)))
 intro hQ
 refine JL.fieldAddr fo_34_1 rfl .none rfl (JL.loadOwn 1 az_31 rfl rfl rfl .none rfl ?_)
 obtain ⟨y3, hy3, hF⟩ := bind_some hF
 refine JL.callO (c_slices_Clone___api_Blow_api_Blow_ n H r.Blows r_v9 hr_9 y3 hy3) rfl en_79 .none rfl ?_
 rintro v4 _ xs5 ⟨rfl, hch6⟩
 refine JL.fieldAddr fo_34_1 rfl .none rfl (JL.oneG 0 rfl (fun ho8 => ?_))
 refine JL.storeOwn 1 (cs := [v4]) az_31 rfl ho8.2 rfl (one_cons ho8.1 one_nil) rfl rfl .none ?_
 refine JL.done hQ (JQ.go (JC.seq (JC.region (by rfl) ?_)))
 intro hQ
 refine JL.fieldAddr fo_34_1 rfl .none rfl (JL.loadOwn 1 az_31 rfl rfl rfl .none rfl (JL.move .none rfl (JL.move .none rfl (JL.move .none rfl (JL.build (l := [.int .i64 force, .int .i64 force]) (by kernel_rfl) .none rfl ?_)))))
 obtain ⟨y9, hy9, hF⟩ := bind_some hF
 refine JL.indexG 0 (l := y3) sl_31 rfl rfl rfl rfl hy9 .none rfl ?_
 intro b10 hb11
 refine JL.fieldAddr fo_62_1 rfl .none rfl (JL.storeG (R := R_Blow) 0 (i := blow) (l := y3) (y := y9) (y' := (Blow.mk y9.At (Span.mk force force))) (off := 1) az_42 rfl rfl rfl rfl (one_cons rfl (one_cons rfl one_nil)) rfl hb11 hch6 rfl hy9 rfl (by rintro cs rfl; rfl) .none ?_)
 intro xs12 hch13
 refine JL.done hQ (JQ.go (JC.fresh (fun f => f 3 = .pointer (some ⟨b1, 0, none⟩) ∧ f 6 = .pointer (some ⟨b2, 0, none⟩)) ⟨rfl, rfl⟩ ?_))
 rintro f ⟨hf3, hf6⟩
 refine (JC.norm (i := 3) hf3 (JC.norm (i := 6) hf6 ?_))
 refine JC.seq (JC.region (by rfl) ?_)
 intro hQ
 refine JL.loadOwn 1 az_34 rfl rfl rfl .none rfl (JL.oneG 0 rfl (fun ho14 => ?_))
 refine JL.storeOwn 0 (cs := [r_v0, .int .i64 r.Canopy.Frame.Low, .int .i64 r.Canopy.Frame.High, .int .i64 r.Canopy.Frame.Ease.Num, .int .i64 r.Canopy.Frame.Ease.Den, .int .i64 r.Canopy.Frame.Rod, .int .i64 r.Canopy.Frame.Case, r_v7, r_v8, v4, r_v10, .int .i64 r.Wrong]) az_34 rfl rfl rfl (one_cons (SL.one hr_0) (one_cons rfl (one_cons rfl (one_cons rfl (one_cons rfl (one_cons rfl (one_cons rfl (one_cons (SL.one hr_7) (one_cons (SL.one hr_8) (one_cons ho14.1 (one_cons (SL.one hr_10) (one_cons rfl one_nil)))))))))))) rfl rfl .none ?_
 refine JL.done hQ (JQ.go (JC.ret (JQ.freezeG 0 (R := R_Blow) rfl R_Blow_mono hch13 rfl ?_)))
 intro H15 hs15 hg16
 obtain rfl := Option.some.inj hF
 exact JQ.outH rfl (.cell 0 az_34 rfl rfl rfl .nil) ⟨r_v0, r_v7, r_v8, v4, r_v10, rfl, (SL.mono R_Section_mono hs15 hr_0), (SL.mono R_Span_mono hs15 hr_7), (SL.mono RInt.mono hs15 hr_8), hg16, (SL.mono R_Meter_mono hs15 hr_10)⟩
-- 23 ferrule/counts.Forces
noncomputable def F_counts_Forces_s1 (n : Nat) (r : Run) (blow : Int) : Int × List Int → Option ((Int × List Int) ⊕ (List Int))
 | (force_210, out_211) => (geti r.Blows blow).bind fun y215 => if decide (force_210 ≤ y215.Force.High) = true then ((F_counts_fixed n r blow force_210).bind fun y221 => (F_counts_open n y221 true (fun a0_ a1_ => F_counts_none n a0_ a1_)).bind fun y224 => (if (y224.2.2 == 0) = true then ((lim (out_211 ++ [force_210])).bind fun l238 => some l238) else (some out_211)).bind fun out_233 => some (Sum.inl ((w64 (force_210 + 1)), out_233))) else (some (Sum.inr out_211))
noncomputable def F_counts_Forces (n : Nat) (r : Run) (blow : Int) : Option ((List Int) × Int) :=
 (F_counts_within n blow 0 (w64 ((r.Blows.length : Int) - 1))).bind fun y4 => (F_counts_open n r y4 (fun a0_ a1_ => F_counts_none n a0_ a1_)).bind fun y5 => if (y5.2.2 != 0) = true then (some (([] : List Int), y5.2.2)) else ((geti r.Blows blow).bind fun y13 => (loopO n (F_counts_Forces_s1 n r blow) (y13.Force.Low, ([] : List Int))).bind fun out_147 => some (out_147, 0))
theorem c_counts_Forces (n : Nat) (H : Hp) (r : Run) (r_v0 : Value) (hr_0 : SL H 7 R_Section r_v0 r.Canopy.Frame.Sections) (r_v7 : Value) (hr_7 : SL H 2 R_Span r_v7 r.Canopy.Ribs) (r_v8 : Value) (hr_8 : SL H 1 RInt r_v8 r.Canopy.Shares) (r_v9 : Value) (hr_9 : SL H 3 R_Blow r_v9 r.Blows) (r_v10 : Value) (hr_10 : SL H 2 R_Meter r_v10 r.Meters) (blow : Int) (y : (List Int) × Int) (hF : F_counts_Forces n r blow = some y) : HC Tryz.prog 23 [.agg [r_v0, .int .i64 r.Canopy.Frame.Low, .int .i64 r.Canopy.Frame.High, .int .i64 r.Canopy.Frame.Ease.Num, .int .i64 r.Canopy.Frame.Ease.Den, .int .i64 r.Canopy.Frame.Rod, .int .i64 r.Canopy.Frame.Case, r_v7, r_v8, r_v9, r_v10, .int .i64 r.Wrong].toArray, .int .i64 blow] H (fun H' v => ∃ ra_v0 : Value, v = .tuple [ra_v0, .int .i64 y.2].toArray ∧ SL H' 1 RInt ra_v0 y.1) := by
 rw [F_counts_Forces] at hF
 refine HC.of (N := 63) Tryz.func23 rfl rfl rfl fun w => ?_
 refine JC.seq (JC.region (by rfl) ?_)
 intro hQ
 refine JL.box (cs := [r_v0, .int .i64 r.Canopy.Frame.Low, .int .i64 r.Canopy.Frame.High, .int .i64 r.Canopy.Frame.Ease.Num, .int .i64 r.Canopy.Frame.Ease.Den, .int .i64 r.Canopy.Frame.Rod, .int .i64 r.Canopy.Frame.Case, r_v7, r_v8, r_v9, r_v10, .int .i64 r.Wrong]) rfl .none rfl ?_
 intro b1
 refine JL.assign .none rfl (JL.assign .none rfl (JL.done hQ (JQ.go (JC.seq (JC.seq ?_)))))
 obtain ⟨y4, hy4, hF⟩ := bind_some hF
 obtain ⟨y5, hy5, hF⟩ := bind_some hF
 refine JC.mixed 15 15 (tf 0 15) [(b1, .cells [r_v0, .int .i64 r.Canopy.Frame.Low, .int .i64 r.Canopy.Frame.High, .int .i64 r.Canopy.Frame.Ease.Num, .int .i64 r.Canopy.Frame.Ease.Den, .int .i64 r.Canopy.Frame.Rod, .int .i64 r.Canopy.Frame.Case, r_v7, r_v8, r_v9, r_v10, .int .i64 r.Wrong].toArray 34)] (by rfl) mo_ (by kernel_rfl) (by kernel_rfl) ?_
 intro hQ hE
 refine JA.tk 0 (tf 1 14) hQ rfl hE (.cons_cons _ (List.nil_sublist _)) ?_
 refine JL.loadOwn 0 az_34 rfl rfl rfl .none rfl (JA.cont ?_)
 refine JA.tk 1 (tf 2 13) hQ rfl hE (.cons_cons _ (List.nil_sublist _)) ?_
 refine JL.move .none rfl (JA.cont ?_)
 refine JA.tk 2 (tf 3 12) hQ rfl hE (.cons_cons _ (List.nil_sublist _)) ?_
 refine JL.fieldAddr fo_34_1 rfl .none rfl (JA.cont ?_)
 refine JA.tk 3 (tf 4 11) hQ rfl hE (.cons_cons _ (List.nil_sublist _)) ?_
 refine JL.loadOwn 0 az_31 rfl rfl rfl .none rfl (JA.cont ?_)
 refine JA.tk 4 (tf 5 10) hQ rfl hE (.cons_cons _ (List.nil_sublist _)) ?_
 refine JL.lenSL (R := R_Blow) ul_31 hr_9 .none rfl ?_
 refine JA.cont ?_
 refine JA.tk 5 (tf 6 9) hQ rfl hE (.cons_cons _ (List.nil_sublist _)) ?_
 refine JL.bin rfl rfl rfl .none rfl (JA.cont ?_)
 refine JA.many [6] (by kernel_rfl) (by simp) (all_one ⟨_, (tf 7 8), rfl, (by kernel_rfl), ?_⟩)
 refine JL.callS (c_counts_within n H blow 0 (w64 ((r.Blows.length : Int) - 1)) y4 hy4) rfl en_54 .none rfl ?_
 refine JA.after hE (HSub.refl _) (.cons_cons _ (List.nil_sublist _)) ?_
 refine JA.many [7] (by kernel_rfl) (by simp) (all_one ⟨_, (tf 8 7), rfl, (by kernel_rfl), ?_⟩)
 refine JL.callH (c_counts_open n H r r_v0 hr_0 r_v7 hr_7 r_v8 hr_8 r_v9 hr_9 r_v10 hr_10 y4 (fun a0_ a1_ => F_counts_none n a0_ a1_) 48 [] en_48 (fun H' hs' a0_ a1_ y' hy' => c_counts_none n H' a0_ a1_ y' hy') y5 hy5) rfl en_47 .none rfl ?_
 rintro H10 vv11 hs10 ⟨y5a_v0, y5b_v0, rfl, hy5a_0, hy5b_0⟩
 refine JA.after hE hs10 (.cons_cons _ (List.nil_sublist _)) ?_
 refine JA.take 8 (listed' := (tf 9 6)) hQ rfl (by kernel_rfl) (by kernel_rfl) (by kernel_rfl) (by kernel_rfl) (by kernel_rfl) hE hs10 (.cons_cons _ (List.nil_sublist _)) ?_
 refine JL.move .none rfl (JA.cont ?_)
 refine JA.take 9 (listed' := (tf 10 5)) hQ rfl (by kernel_rfl) (by kernel_rfl) (by kernel_rfl) (by kernel_rfl) (by kernel_rfl) hE hs10 (.cons_cons _ (List.nil_sublist _)) ?_
 refine JL.extract rfl rfl .none rfl (JA.cont ?_)
 refine JA.take 10 (listed' := (tf 11 4)) hQ rfl (by kernel_rfl) (by kernel_rfl) (by kernel_rfl) (by kernel_rfl) (by kernel_rfl) hE hs10 (.cons_cons _ (List.nil_sublist _)) ?_
 refine JL.extract rfl rfl .none rfl (JA.cont ?_)
 refine JA.take 11 (listed' := (tf 12 3)) hQ rfl (by kernel_rfl) (by kernel_rfl) (by kernel_rfl) (by kernel_rfl) (by kernel_rfl) hE hs10 (.cons_cons _ (List.nil_sublist _)) ?_
 refine JL.extract rfl rfl .none rfl (JA.cont ?_)
 refine JA.take 12 (listed' := (tf 13 2)) hQ rfl (by kernel_rfl) (by kernel_rfl) (by kernel_rfl) (by kernel_rfl) (by kernel_rfl) hE hs10 (.cons_cons _ (List.nil_sublist _)) ?_
 refine JL.assign .none rfl (JA.cont ?_)
 refine JA.take 13 (listed' := (tf 14 1)) hQ rfl (by kernel_rfl) (by kernel_rfl) (by kernel_rfl) (by kernel_rfl) (by kernel_rfl) hE hs10 (.cons_cons _ (List.nil_sublist _)) ?_
 refine JL.assign .none rfl (JA.cont ?_)
 refine JA.take 14 (listed' := (tf 15 0)) hQ rfl (by kernel_rfl) (by kernel_rfl) (by kernel_rfl) (by kernel_rfl) (by kernel_rfl) hE hs10 (.cons_cons _ (List.nil_sublist _)) ?_
 refine JL.assign .none rfl (JA.cont ?_)
 refine JA.done hQ (by kernel_rfl) ?_
 refine JQ.go (JC.fresh (fun f => f 1 = .int .i64 blow ∧ f 2 = .pointer (some ⟨b1, 0, none⟩) ∧ f 4 = .slice none 0 0 ∧ f 5 = .int .i64 0 ∧ f 8 = .int .i64 y5.2.2) ⟨rfl, rfl, rfl, rfl, rfl⟩ ?_)
 rintro f ⟨hf1, hf2, hf4, hf5, hf8⟩
 refine (JC.norm (i := 1) hf1 (JC.norm (i := 2) hf2 (JC.norm (i := 4) hf4 (JC.norm (i := 5) hf5 (JC.norm (i := 8) hf8 ?_)))))
 refine JC.seq (JC.region (by rfl) ?_)
 intro hQ
 refine JL.move .none rfl (JL.bin rfl rfl rfl .none rfl (JL.done hQ (JQ.go ?_)))
 rcases ite_some hF with ⟨hc12, hF⟩ | ⟨hc12, hF⟩
 ·refine JC.cond_t (b := (y5.2.2 != 0)) rfl hc12 ?_
  refine JC.seq (JC.region (by rfl) ?_)
  intro hQ
  refine JL.move .none rfl (JL.assign .none rfl (JL.assign .none rfl (JL.done hQ (JQ.go (JC.ret (JQ.ret_then ?_))))))
  obtain rfl := Option.some.inj hF
  exact JQ.outH rfl (.tmp (.tmp .nil)) ⟨(.slice none 0 0), rfl, SL.nil⟩
 ·refine JC.cond_f (b := (y5.2.2 != 0)) rfl hc12 ?_
  refine JC.skip (JQ.go (JC.seq (JC.region (by rfl) ?_)))
  intro hQ
  refine JL.assign .none rfl (JL.done hQ (JQ.go (JC.seq (JC.seq (JC.region (by rfl) ?_)))))
  intro hQ
  refine JL.fieldAddr fo_34_1 rfl .none rfl (JL.loadOwn 0 az_31 rfl rfl rfl .none rfl (JL.move .none rfl ?_))
  obtain ⟨y13, hy13, hF⟩ := bind_some hF
  refine JL.indexSL (R := R_Blow) sl_31 (SL.mono R_Blow_mono hs10 hr_9) rfl hy13 .none rfl ?_
  rintro b14 o15 cs16 hc17 - rfl
  refine JL.fieldAddr fo_62_1 rfl .none rfl (JL.fieldAddr fo_42_0 rfl .none rfl (JL.loadH 1 az_3 rfl hc17 rfl .none rfl ?_))
  refine JL.assign .none rfl (JL.done hQ (JQ.go (JC.fresh (fun f => f 1 = .int .i64 blow ∧ f 2 = .pointer (some ⟨b1, 0, none⟩) ∧ f 4 = .slice none 0 0 ∧ f 5 = .int .i64 0 ∧ f 9 = .slice none 0 0 ∧ f 10 = .int .i64 y13.Force.Low) ⟨rfl, rfl, rfl, rfl, rfl, rfl⟩ ?_)))
  rintro f ⟨hf1, hf2, hf4, hf5, hf9, hf10⟩
  refine (JC.norm (i := 1) hf1 (JC.norm (i := 2) hf2 (JC.norm (i := 4) hf4 (JC.norm (i := 5) hf5 (JC.norm (i := 9) hf9 (JC.norm (i := 10) hf10 ?_))))))
  refine JC.newNil (e := 3) (sz := 1) ?_
  obtain ⟨r149, hlr149, hKr149⟩ := bind_some hF
  refine JC.join (fun (out_147 : List Int) H148 f bs gs => ∃ (vout_147 : Value) (xsout_147 : List Value), f 9 = vout_147 ∧ bs = [] ∧ gs = [⟨vout_147, 3, 1, out_147.length, xsout_147⟩] ∧ CH H148 1 RInt xsout_147 out_147 ∧ HSub H10 H148 ∧ out_147 = r149) ?_ ?_
  ·skip
   refine JC.block (JC.loop hlr149 (fun (x : Int × List Int) H212 f bs gs => match x with | (force_210, out_211) => ∃ (vout_211 : Value) (xsout_211 : List Value), f 1 = .int .i64 blow ∧ f 2 = .pointer (some ⟨b1, 0, none⟩) ∧ f 9 = vout_211 ∧ f 10 = .int .i64 force_210 ∧ bs = [(b1, .cells [r_v0, .int .i64 r.Canopy.Frame.Low, .int .i64 r.Canopy.Frame.High, .int .i64 r.Canopy.Frame.Ease.Num, .int .i64 r.Canopy.Frame.Ease.Den, .int .i64 r.Canopy.Frame.Rod, .int .i64 r.Canopy.Frame.Case, r_v7, r_v8, r_v9, r_v10, .int .i64 r.Wrong].toArray 34)] ∧ gs = [⟨vout_211, 3, 1, out_211.length, xsout_211⟩] ∧ CH H212 1 RInt xsout_211 out_211 ∧ HSub H10 H212) ⟨(.slice none 0 0), [], rfl, rfl, rfl, rfl, rfl, rfl, CH.nil, (HSub.refl _)⟩ ?_)
   rintro ⟨force_210, out_211⟩ x214 H212 f bs gs ⟨vout_211, xsout_211, hf1, hf2, hf9, hf10, rfl, rfl, hout_211, hs212⟩ hF hr213
   rw [F_counts_Forces_s1] at hF
   refine (JC.norm (i := 1) hf1 (JC.norm (i := 2) hf2 (JC.norm (i := 9) hf9 (JC.norm (i := 10) hf10 ?_))))
   refine JC.seq (JC.seq (JC.region (by rfl) ?_))
   intro hQ
   refine JL.move .none rfl (JL.fieldAddr fo_34_1 rfl .none rfl (JL.loadOwn 0 az_31 rfl rfl rfl .none rfl (JL.move .none rfl ?_)))
   obtain ⟨y215, hy215, hF⟩ := bind_some hF
   refine JL.indexSL (R := R_Blow) sl_31 (SL.mono R_Blow_mono (HSub.trans hs10 hs212) hr_9) rfl hy215 .none rfl ?_
   rintro b216 o217 cs218 hc219 - rfl
   refine JL.fieldAddr fo_62_1 rfl .none rfl (JL.fieldAddr fo_42_1 rfl .none rfl (JL.loadH 2 az_3 rfl hc219 rfl .none rfl ?_))
   refine JL.bin rfl rfl rfl .none rfl (JL.done hQ (JQ.go ?_))
   rcases ite_some hF with ⟨hc220, hF⟩ | ⟨hc220, hF⟩
   ·refine JC.cond_t (b := decide (force_210 ≤ y215.Force.High)) rfl hc220 ?_
    refine JC.skip (JQ.go (JC.seq (JC.block (JC.seq (JC.region (by rfl) ?_)))))
    intro hQ
    refine JL.loadOwn 0 az_34 rfl rfl rfl .none rfl (JL.move .none rfl (JL.move .none rfl ?_))
    obtain ⟨y221, hy221, hF⟩ := bind_some hF
    refine JL.callH (c_counts_fixed n H212 r r_v0 (SL.mono R_Section_mono (HSub.trans hs10 hs212) hr_0) r_v7 (SL.mono R_Span_mono (HSub.trans hs10 hs212) hr_7) r_v8 (SL.mono RInt.mono (HSub.trans hs10 hs212) hr_8) r_v9 (SL.mono R_Blow_mono (HSub.trans hs10 hs212) hr_9) r_v10 (SL.mono R_Meter_mono (HSub.trans hs10 hs212) hr_10) blow force_210 y221 hy221) rfl en_49 .none rfl ?_
    rintro H222 vv223 hs222 ⟨y221a_v0, y221a_v7, y221a_v8, y221a_v9, y221a_v10, rfl, hy221a_0, hy221a_7, hy221a_8, hy221a_9, hy221a_10⟩
    obtain ⟨y224, hy224, hF⟩ := bind_some hF
    refine JL.callH (c_counts_open n H222 y221 y221a_v0 hy221a_0 y221a_v7 hy221a_7 y221a_v8 hy221a_8 y221a_v9 hy221a_9 y221a_v10 hy221a_10 true (fun a0_ a1_ => F_counts_none n a0_ a1_) 48 [] en_48 (fun H' hs' a0_ a1_ y' hy' => c_counts_none n H' a0_ a1_ y' hy') y224 hy224) rfl en_47 .none rfl ?_
    rintro H225 vv226 hs225 ⟨y224a_v0, y224b_v0, rfl, hy224a_0, hy224b_0⟩
    refine JL.move .none rfl (JL.extract rfl rfl .none rfl (JL.extract rfl rfl .none rfl (JL.extract rfl rfl .none rfl (JL.assign .none rfl (JL.assign .none rfl (JL.assign .none rfl (JL.done hQ (JQ.go (JC.fresh (fun f => f 1 = .int .i64 blow ∧ f 2 = .pointer (some ⟨b1, 0, none⟩) ∧ f 9 = vout_211 ∧ f 10 = .int .i64 force_210 ∧ f 13 = .int .i64 y224.2.2) ⟨rfl, rfl, rfl, rfl, rfl⟩ ?_)))))))))
    rintro f ⟨hf1, hf2, hf9, hf10, hf13⟩
    refine (JC.norm (i := 1) hf1 (JC.norm (i := 2) hf2 (JC.norm (i := 9) hf9 (JC.norm (i := 10) hf10 (JC.norm (i := 13) hf13 ?_)))))
    refine JC.seq (JC.region (by rfl) ?_)
    intro hQ
    refine JL.move .none rfl (JL.bin rfl rfl rfl .none rfl (JL.done hQ (JQ.go ?_)))
    obtain ⟨r235, hlr235, hKr235⟩ := bind_some hF
    refine JC.join (fun (out_233 : List Int) H234 f bs gs => ∃ (vout_233 : Value) (xsout_233 : List Value), f 1 = .int .i64 blow ∧ f 2 = .pointer (some ⟨b1, 0, none⟩) ∧ f 9 = vout_233 ∧ f 10 = .int .i64 force_210 ∧ bs = [(b1, .cells [r_v0, .int .i64 r.Canopy.Frame.Low, .int .i64 r.Canopy.Frame.High, .int .i64 r.Canopy.Frame.Ease.Num, .int .i64 r.Canopy.Frame.Ease.Den, .int .i64 r.Canopy.Frame.Rod, .int .i64 r.Canopy.Frame.Case, r_v7, r_v8, r_v9, r_v10, .int .i64 r.Wrong].toArray 34)] ∧ gs = [⟨vout_233, 3, 1, out_233.length, xsout_233⟩] ∧ CH H234 1 RInt xsout_233 out_233 ∧ HSub H225 H234 ∧ out_233 = r235) ?_ ?_
    ·have hF := hlr235
     rcases ite_some hF with ⟨hc236, hF⟩ | ⟨hc236, hF⟩
     ·refine JC.cond_t (b := (y224.2.2 == 0)) rfl hc236 ?_
      refine JC.region (by rfl) ?_
      intro hQ
      refine JL.move .none rfl (JL.move .none rfl (JL.buildSlice (e := 3) (l := [.int .i64 force_210]) (by kernel_rfl) .none rfl ?_))
      intro b237
      obtain ⟨l238, hl238, hF⟩ := bind_some hF
      refine JL.appO (R := RInt) 0 0 (l := out_211) (m := [force_210]) ap_28 rfl ⟨rfl, rfl⟩ rfl (CH.mono RInt.mono (HSub.trans hs222 hs225) hout_211) rfl rfl rfl (CH.cons (cs := [.int .i64 force_210]) rfl rfl CH.nil) rfl (one_cons rfl one_nil) hl238 .none rfl ?_
      intro v239 xs240 hch241
      refine JL.assign .none rfl (JL.done hQ ?_)
      obtain rfl := Option.some.inj hF
      refine JQ.mask [false, true] [true] ?_
      exact JQ.join l238 ⟨v239, xs240, rfl, rfl, rfl, rfl, rfl, rfl, hch241, (HSub.refl _), rfl⟩
     ·refine JC.cond_f (b := (y224.2.2 == 0)) rfl hc236 ?_
      refine JC.skip ?_
      obtain rfl := Option.some.inj hF
      exact JQ.join out_211 ⟨vout_211, xsout_211, rfl, rfl, rfl, rfl, rfl, rfl, (CH.mono RInt.mono (HSub.trans hs222 hs225) hout_211), (HSub.refl _), rfl⟩
    ·rintro out_233 H234 f bs gs ⟨vout_233, xsout_233, hf1, hf2, hf9, hf10, rfl, rfl, hout_233, hs234, rfl⟩
     have hF := hKr235
     try dsimp only at hF
     refine (JQ.norm (i := 1) hf1 (JQ.norm (i := 2) hf2 (JQ.norm (i := 9) hf9 (JQ.norm (i := 10) hf10 ?_))))
     refine JQ.normal_block (JQ.go (JC.region (by rfl) ?_))
     intro hQ
     refine JL.move .none rfl (JL.bin rfl rfl rfl .none rfl (JL.assign .none rfl (JL.done hQ ?_)))
     obtain rfl := Option.some.inj hF
     exact JQ.next rfl ⟨vout_233, xsout_233, rfl, rfl, rfl, rfl, rfl, rfl, hout_233, (HSub.trans hs212 (HSub.trans hs222 (HSub.trans hs225 hs234)))⟩
   ·refine JC.cond_f (b := decide (force_210 ≤ y215.Force.High)) rfl hc220 ?_
    refine JC.exit (JQ.exit_then (JQ.exit_then (JQ.exit_block ?_)))
    obtain rfl := Option.some.inj hF
    have ehr213 := hr213 _ rfl
    subst ehr213
    refine JQ.mask [false] [true] ?_
    exact JQ.join out_211 ⟨vout_211, xsout_211, rfl, rfl, rfl, hout_211, hs212, rfl⟩
  ·rintro out_147 H148 f bs gs ⟨vout_147, xsout_147, hf9, rfl, rfl, hout_147, hs148, rfl⟩
   have hF := hKr149
   try dsimp only at hF
   refine (JQ.norm (i := 9) hf9 ?_)
   refine JQ.go (JC.seq (JC.region (by rfl) ?_))
   intro hQ
   refine JL.move .none rfl (JL.assign .none rfl (JL.assign .none rfl (JL.done hQ (JQ.go (JC.ret (JQ.freezeG 0 (R := RInt) rfl RInt.mono hout_147 rfl ?_))))))
   intro H242 hs242 hg243
   obtain rfl := Option.some.inj hF
   exact JQ.outH rfl (.tmp (.tmp .nil)) ⟨vout_147, rfl, hg243⟩
end Go.Proofs.YtcipdblhopffbaaGreat
end
section
set_option maxRecDepth 100000
set_option maxHeartbeats 40000000
namespace Go.Proofs.YtcipdblhopffbaaGreat
open Go Go.RowKit Go.Dec
set_option linter.unusedVariables false
-- 34 ferrule/counts.Many
noncomputable def F_counts_Many_s1 (n : Nat)  : Int → List Int × Int → Option Int
 | sum_100, (kl108, v109) => some (w64 (sum_100 + v109))
noncomputable def F_counts_Many (n : Nat) (r : Run) : Option (Int × Int) :=
 (F_counts_open n r true (fun a0_ a1_ => F_counts_none n a0_ a1_)).bind fun y2 => if (y2.2.2 != 0) = true then (some (0, y2.2.2)) else ((neM y2.2.1).bind fun _ => ((permO (F_counts_Many_s1 n) 0 y2.2.1).bind fun z121 => match z121 with | sum_100 => some sum_100).bind fun sum_68 => some (sum_68, 0))
theorem c_counts_Many (n : Nat) (H : Hp) (r : Run) (r_v0 : Value) (hr_0 : SL H 7 R_Section r_v0 r.Canopy.Frame.Sections) (r_v7 : Value) (hr_7 : SL H 2 R_Span r_v7 r.Canopy.Ribs) (r_v8 : Value) (hr_8 : SL H 1 RInt r_v8 r.Canopy.Shares) (r_v9 : Value) (hr_9 : SL H 3 R_Blow r_v9 r.Blows) (r_v10 : Value) (hr_10 : SL H 2 R_Meter r_v10 r.Meters) (y : Int × Int) (hF : F_counts_Many n r = some y) : SC Tryz.prog 34 [.agg [r_v0, .int .i64 r.Canopy.Frame.Low, .int .i64 r.Canopy.Frame.High, .int .i64 r.Canopy.Frame.Ease.Num, .int .i64 r.Canopy.Frame.Ease.Den, .int .i64 r.Canopy.Frame.Rod, .int .i64 r.Canopy.Frame.Case, r_v7, r_v8, r_v9, r_v10, .int .i64 r.Wrong].toArray] (.tuple [.int .i64 y.1, .int .i64 y.2].toArray) H := by
 rw [F_counts_Many] at hF
 refine SC.of (N := 29) Tryz.func34 rfl rfl rfl fun w => ?_
 refine JC.seq (JC.region (by rfl) ?_)
 intro hQ
 refine JL.box (cs := [r_v0, .int .i64 r.Canopy.Frame.Low, .int .i64 r.Canopy.Frame.High, .int .i64 r.Canopy.Frame.Ease.Num, .int .i64 r.Canopy.Frame.Ease.Den, .int .i64 r.Canopy.Frame.Rod, .int .i64 r.Canopy.Frame.Case, r_v7, r_v8, r_v9, r_v10, .int .i64 r.Wrong]) rfl .none rfl ?_
 intro b1
 refine JL.assign .none rfl (JL.assign .none rfl (JL.done hQ (JQ.go (JC.seq (JC.region (by rfl) ?_)))))
 intro hQ
 refine JL.loadOwn 0 az_34 rfl rfl rfl .none rfl ?_
 obtain ⟨y2, hy2, hF⟩ := bind_some hF
 refine JL.callH (c_counts_open n H r r_v0 hr_0 r_v7 hr_7 r_v8 hr_8 r_v9 hr_9 r_v10 hr_10 true (fun a0_ a1_ => F_counts_none n a0_ a1_) 48 [] en_48 (fun H' hs' a0_ a1_ y' hy' => c_counts_none n H' a0_ a1_ y' hy') y2 hy2) rfl en_47 .none rfl ?_
 rintro H3 vv4 hs3 ⟨y2a_v0, y2b_v0, rfl, hy2a_0, hy2b_0⟩
 refine JL.move .none rfl (JL.extract rfl rfl .none rfl (JL.extract rfl rfl .none rfl (JL.extract rfl rfl .none rfl (JL.assign .none rfl (JL.assign .none rfl (JL.assign .none rfl (JL.done hQ (JQ.go (JC.seq (JC.seq (JC.region (by rfl) ?_)))))))))))
 intro hQ
 refine JL.move .none rfl (JL.bin rfl rfl rfl .none rfl (JL.done hQ (JQ.go (JC.fresh (fun f => f 2 = .int .i64 0 ∧ f 3 = .int .i64 0 ∧ f 5 = y2b_v0 ∧ f 6 = .int .i64 y2.2.2 ∧ f 17 = .bool (y2.2.2 != 0)) ⟨rfl, rfl, rfl, rfl, rfl⟩ ?_))))
 rintro f ⟨hf2, hf3, hf5, hf6, hf17⟩
 refine (JC.norm (i := 2) hf2 (JC.norm (i := 3) hf3 (JC.norm (i := 5) hf5 (JC.norm (i := 6) hf6 (JC.norm (i := 17) hf17 ?_)))))
 rcases ite_some hF with ⟨hc5, hF⟩ | ⟨hc5, hF⟩
 ·refine JC.cond_t (b := (y2.2.2 != 0)) rfl hc5 ?_
  refine JC.seq (JC.region (by rfl) ?_)
  intro hQ
  refine JL.move .none rfl (JL.assign .none rfl (JL.assign .none rfl (JL.done hQ (JQ.go (JC.ret (JQ.ret_then ?_))))))
  obtain rfl := Option.some.inj hF
  exact JQ.outS rfl (.tmp (.tmp .nil)) rfl
 ·refine JC.cond_f (b := (y2.2.2 != 0)) rfl hc5 ?_
  refine JC.skip (JQ.go (JC.seq (JC.region (by rfl) ?_)))
  intro hQ
  refine JL.assign .none rfl (JL.done hQ (JQ.go (JC.seq (JC.seq (JC.region (by rfl) ?_)))))
  intro hQ
  refine JL.move .none rfl ?_
  obtain ⟨u11, hu11, hF⟩ := bind_some hF
  obtain ⟨mb12, es13, ck14, hv15, hH16, hm17⟩ := MD.get hy2b_0 (neM_some hu11)
  refine JL.rangeM mp_92 hv15 (.data hH16) hm17 .none rfl ?_
  intro r6 sn7 seen8 cz9 hI10
  refine JL.done hQ (JQ.go ?_)
  obtain ⟨r70, hlr70, hKr70⟩ := bind_some hF
  refine JC.join (fun (sum_68 : Int) H69 f bs gs => f 7 = .int .i64 sum_68 ∧ bs = [] ∧ gs = [] ∧ HSub H3 H69 ∧ sum_68 = r70) ?_ ?_
  ·skip
   obtain ⟨rs102, hper103, hl104⟩ := bind_some hlr70
   refine JC.block (JC.mask [true, false] [] ?_)
   refine JC.mapLoop (srt_nodup hI10.srt) hper103 (fun (dd : Mp) (sum_100 : Int) H101 f bs gs => ∃ (sn_r6 : Nat) (se_r6 : Array Nat) (cz_r6 : Nat), f 7 = .int .i64 sum_100 ∧ f 20 = .pointer (some ⟨r6, 0, none⟩) ∧ bs = [(r6, .mapIter (some mb12) sn_r6 se_r6 cz_r6)] ∧ gs = [] ∧ IR 6 ekA y2.2.1 y2.2.1 es13 ck14 sn_r6 se_r6 cz_r6 dd ∧ HSub H3 H101) ⟨sn7, seen8, cz9, rfl, rfl, rfl, rfl, hI10, (HSub.refl _)⟩ ?_
   rintro dd sum_100 H101 f bs gs ⟨sn_r6, se_r6, cz_r6, hf7, hf20, rfl, rfl, hI_r6, hs101⟩ hend105 hgo106
   refine (JC.norm (i := 7) hf7 (JC.norm (i := 20) hf20 ?_))
   refine JC.seq (JC.region (by rfl) ?_)
   intro hQ
   refine JL.nextM 0 kt_104 rfl rfl (.data (hs101.le _ _ hH16)) hm17 hI_r6 .none rfl ?_ ?_
   ·intro hp107
    refine JL.extract rfl rfl .none rfl (JL.done hQ (JQ.go (JC.seq (JC.cond_f (b := false) rfl rfl ?_))))
    refine JC.exit (JQ.exit_then (JQ.exit_then (JQ.exit_block ?_)))
    have er119 := hend105 hp107
    subst er119
    obtain rfl := Option.some.inj hl104
    refine JQ.mask [false] [] ?_
    exact JQ.join sum_100 ⟨rfl, rfl, rfl, hs101, rfl⟩
   ·rintro ⟨kl108, v109⟩ seen110 cz111 hx112 hxm113 hxn114 hI115 hE116
    have kok120 := (hm17.okk _ hxm113)
    dsimp only at kok120
    obtain ⟨sp118, hst117⟩ := hgo106 (kl108, v109) hx112 hxn114
    have hF := hst117
    rw [F_counts_Many_s1] at hF
    refine JL.extract rfl rfl .none rfl (JL.done hQ (JQ.go (JC.seq (JC.cond_t (b := true) rfl rfl ?_))))
    refine JC.skip (JQ.go (JC.block (JC.seq (JC.region (by rfl) ?_))))
    intro hQ
    refine JL.entryIt (y := (kl108, v109)) 0 rfl rfl (.data (hs101.le _ _ hH16)) hm17 hE116 .none rfl ?_
    refine JL.extract rfl rfl .none rfl (JL.assign .none rfl (JL.done hQ (JQ.go (JC.region (by rfl) ?_))))
    intro hQ
    refine JL.move .none rfl (JL.move .none rfl (JL.bin rfl rfl rfl .none rfl (JL.assign .none rfl (JL.done hQ (JQ.normal_block ?_)))))
    obtain rfl := Option.some.inj hF
    exact JQ.mnext hx112 hxn114 hst117 ⟨sn_r6, seen110, cz111, rfl, rfl, rfl, rfl, hI115, hs101⟩
  ·rintro sum_68 H69 f bs gs ⟨hf7, rfl, rfl, hs69, rfl⟩
   have hF := hKr70
   try dsimp only at hF
   refine (JQ.norm (i := 7) hf7 ?_)
   refine JQ.go (JC.seq (JC.region (by rfl) ?_))
   intro hQ
   refine JL.move .none rfl (JL.assign .none rfl (JL.assign .none rfl (JL.done hQ (JQ.go (JC.ret ?_)))))
   obtain rfl := Option.some.inj hF
   exact JQ.outS rfl (.tmp (.tmp .nil)) rfl
-- 109 ferrule/gusts.ask$1
def F_gusts_ask_1 (n : Nat) (g : Gust) (c_0 : Canopy) : Option Bool :=
 (F_gusts_within n g.Force 0 99).bind fun y2 => (if (!y2) = true then (some true) else ((F_gusts_within n g.At 0 (w64 ((c_0.Ribs.length : Int) - 1))).bind fun y7 => some (!y7)) : Option Bool).bind fun p4 => some p4
theorem c_gusts_ask_1 (n : Nat) (H : Hp) (g : Gust) (c_0 : Canopy) (c_0_v0 : Value) (hc_0_0 : SL H 7 R_Section c_0_v0 c_0.Frame.Sections) (c_0_v7 : Value) (hc_0_7 : SL H 2 R_Span c_0_v7 c_0.Ribs) (c_0_v8 : Value) (hc_0_8 : SL H 1 RInt c_0_v8 c_0.Shares) (c_0_b : Nat) (c_0_c : Cells H c_0_b 0 [c_0_v0, .int .i64 c_0.Frame.Low, .int .i64 c_0.Frame.High, .int .i64 c_0.Frame.Ease.Num, .int .i64 c_0.Frame.Ease.Den, .int .i64 c_0.Frame.Rod, .int .i64 c_0.Frame.Case, c_0_v7, c_0_v8]) (y : Bool) (hF : F_gusts_ask_1 n g c_0 = some y) : SC Tryz.prog 109 [.agg [.int .i64 g.Force, .int .i64 g.At].toArray, .pointer (some ⟨c_0_b, 0, none⟩)] (.bool y) H := by
 rw [F_gusts_ask_1] at hF
 refine SC.of (N := 18) Tryz.func109 rfl rfl rfl fun w => ?_
 refine JC.seq (JC.region (by rfl) ?_)
 intro hQ
 refine JL.box (cs := [.int .i64 g.Force, .int .i64 g.At]) rfl .none rfl ?_
 intro b1
 refine JL.assign .none rfl (JL.done hQ (JQ.go (JC.seq (JC.region (by rfl) ?_))))
 intro hQ
 refine JL.fieldAddr fo_64_0 rfl .none rfl (JL.loadOwn 0 az_3 rfl rfl rfl .none rfl ?_)
 obtain ⟨y2, hy2, hF⟩ := bind_some hF
 refine JL.callS (c_gusts_within n H g.Force 0 99 y2 hy2) rfl en_85 .none rfl ?_
 refine JL.not rfl .none rfl (JL.move .none rfl ?_)
 obtain ⟨p4, hp4, hF⟩ := bind_some hF
 refine JL.cut 9 (fun f => f 17 = .bool p4) ?_ ?_
 ·intro hJ5
  rcases ite_some hp4 with ⟨hc6, hF⟩ | ⟨hc6, hF⟩
  ·skip
   refine JL.skip (.bool rfl rfl rfl hc6) rfl (JL.skip (.bool rfl rfl rfl hc6) rfl (JL.skip (.bool rfl rfl rfl hc6) rfl (JL.skip (.bool rfl rfl rfl hc6) rfl (JL.skip (.bool rfl rfl rfl hc6) rfl (JL.skip (.bool rfl rfl rfl hc6) rfl (JL.skip (.bool rfl rfl rfl hc6) rfl (JL.skip (.bool rfl rfl rfl hc6) rfl (JL.pick_t (b := (!y2)) rfl hc6 .none rfl ?_))))))))
   obtain rfl := Option.some.inj hF
   exact hJ5 _ (rfl)
  ·skip
   refine JL.fieldAddr fo_64_1 rfl (.some rfl rfl rfl hc6) rfl (JL.loadOwn 0 az_3 rfl rfl rfl (.some rfl rfl rfl hc6) rfl (JL.fieldAddr fo_30_1 rfl (.some rfl rfl rfl hc6) rfl (JL.loadH 7 az_27 rfl c_0_c rfl (.some rfl rfl rfl hc6) rfl ?_)))
   refine JL.lenSL (R := R_Span) ul_27 hc_0_7 (.some rfl rfl rfl hc6) rfl ?_
   refine JL.bin rfl rfl rfl (.some rfl rfl rfl hc6) rfl ?_
   obtain ⟨y7, hy7, hF⟩ := bind_some hF
   refine JL.callS (c_gusts_within n H g.At 0 (w64 ((c_0.Ribs.length : Int) - 1)) y7 hy7) rfl en_85 (.some rfl rfl rfl hc6) rfl ?_
   refine JL.not rfl (.some rfl rfl rfl hc6) rfl (JL.pick_f (b := (!y2)) rfl hc6 .none rfl ?_)
   obtain rfl := Option.some.inj hF
   exact hJ5 _ (rfl)
 ·rintro f hf17
  refine (JL.norm (i := 17) hf17 ?_)
  refine JL.assign .none rfl (JL.done hQ (JQ.go (JC.ret ?_)))
  obtain rfl := Option.some.inj hF
  exact JQ.outS rfl (.tmp .nil) rfl
-- 117 slices.IndexFunc[[]ferrule/api.Gust,ferrule/api.Gust]
def F_slices_IndexFunc___api_Gust_api_Gust__s1 (n : Nat) (s : List Gust) (f_ : Gust → Option Bool) : Int → Option (Int ⊕ (Int ⊕ Unit))
 | x_55 => if decide (x_55 < (s.length : Int)) = true then ((geti s x_55).bind fun y60 => (f_ y60).bind fun y65 => if y65 = true then (some (Sum.inr (Sum.inl x_55))) else (some (Sum.inl (w64 (x_55 + 1))))) else (some (Sum.inr (Sum.inr ())))
def F_slices_IndexFunc___api_Gust_api_Gust_ (n : Nat) (s : List Gust) (f_ : Gust → Option Bool) : Option Int :=
 (loopO n (F_slices_IndexFunc___api_Gust_api_Gust__s1 n s f_) 0).bind fun r34 => match r34 with | .inl o => some o | .inr _ => some (-1)
theorem c_slices_IndexFunc___api_Gust_api_Gust_ (n : Nat) (H : Hp) (s : List Gust) (s_v0 : Value) (hs_0 : SL H 2 R_Gust s_v0 s) (f_ : Gust → Option Bool) (f__k : Nat) (f__c : List Value) (f__e : Ent Tryz.prog f__k) (f__h : ∀ H', HSub H H' → ∀ (a0_ : Gust) (y : Bool), f_ a0_ = some y → SC Tryz.prog f__k ([.agg [.int .i64 a0_.Force, .int .i64 a0_.At].toArray] ++ f__c) (.bool y) H') (y : Int) (hF : F_slices_IndexFunc___api_Gust_api_Gust_ n s f_ = some y) : SC Tryz.prog 117 [s_v0, .func (.func f__k) #[] f__c.toArray] (.int .i64 y) H := by
 rw [F_slices_IndexFunc___api_Gust_api_Gust_] at hF
 refine SC.of (N := 19) Tryz.func117 rfl rfl rfl fun w => ?_
 refine JC.seq (JC.region (by rfl) ?_)
 intro hQ
 refine JL.assign .none rfl (JL.done hQ (JQ.go (JC.seq (JC.seq (JC.region (by rfl) ?_)))))
 intro hQ
 refine JL.move .none rfl (JL.lenSL (R := R_Gust) ul_65 hs_0 .none rfl ?_)
 refine JL.move .none rfl (JL.done hQ (JQ.go ?_))
 obtain ⟨r34, hlr34, hKr34⟩ := bind_some hF
 refine JC.join (fun (_ : Unit) H33 f bs gs => bs = [] ∧ gs = [] ∧ HSub H H33 ∧ Sum.inr () = r34) ?_ ?_
 ·skip
  refine JC.block (JC.loop hlr34 (fun (x_55 : Int) H56 f bs gs => f 0 = s_v0 ∧ f 1 = .func (.func f__k) #[] f__c.toArray ∧ f 7 = .int .i64 (s.length : Int) ∧ f 8 = .int .i64 x_55 ∧ bs = [] ∧ gs = [] ∧ HSub H H56) ⟨rfl, rfl, rfl, rfl, rfl, rfl, (HSub.refl _)⟩ ?_)
  rintro x_55 x58 H56 f bs gs ⟨hf0, hf1, hf7, hf8, rfl, rfl, hs56⟩ hF hr57
  rw [F_slices_IndexFunc___api_Gust_api_Gust__s1] at hF
  refine (JC.norm (i := 0) hf0 (JC.norm (i := 1) hf1 (JC.norm (i := 7) hf7 (JC.norm (i := 8) hf8 ?_))))
  refine JC.seq (JC.region (by rfl) ?_)
  intro hQ
  refine JL.bin rfl rfl rfl .none rfl (JL.done hQ (JQ.go (JC.seq ?_)))
  rcases ite_some hF with ⟨hc59, hF⟩ | ⟨hc59, hF⟩
  ·refine JC.cond_t (b := decide (x_55 < (s.length : Int))) rfl hc59 ?_
   refine JC.skip (JQ.go (JC.seq (JC.block (JC.seq (JC.region (by rfl) ?_)))))
   intro hQ
   refine JL.move .none rfl (JL.assign .none rfl (JL.done hQ (JQ.go (JC.seq (JC.region (by rfl) ?_)))))
   intro hQ
   refine JL.move .none rfl (JL.move .none rfl (JL.move .none rfl ?_))
   obtain ⟨y60, hy60, hF⟩ := bind_some hF
   refine JL.indexSL (R := R_Gust) sl_65 (SL.mono R_Gust_mono hs56 hs_0) rfl hy60 .none rfl ?_
   rintro b61 o62 cs63 hc64 - rfl
   refine JL.loadH 0 az_64 rfl hc64 rfl .none rfl ?_
   obtain ⟨y65, hy65, hF⟩ := bind_some hF
   refine JL.callV rfl (f__h H56 hs56 y60 y65 hy65) rfl f__e .none rfl ?_
   refine JL.done hQ (JQ.go ?_)
   rcases ite_some hF with ⟨hc66, hF⟩ | ⟨hc66, hF⟩
   ·refine JC.cond_t (b := y65) rfl hc66 ?_
    refine JC.seq (JC.region (by rfl) ?_)
    intro hQ
    refine JL.move .none rfl (JL.assign .none rfl (JL.done hQ (JQ.go (JC.fresh (fun f => f 4 = .int .i64 x_55) rfl ?_))))
    rintro f hf4
    refine (JC.norm (i := 4) hf4 ?_)
    refine JC.ret (JQ.ret_block (JQ.ret_then (JQ.ret_then (JQ.ret_block (JQ.ret_join (JQ.ret_then ?_))))))
    obtain rfl := Option.some.inj hF
    have ehr57 := hr57 _ rfl
    subst ehr57
    have hF := hKr34
    try dsimp only at hF
    obtain rfl := Option.some.inj hF
    exact JQ.outS rfl (.tmp .nil) rfl
   ·refine JC.cond_f (b := y65) rfl hc66 ?_
    refine JC.skip (JQ.normal_block (JQ.go (JC.region (by rfl) ?_)))
    intro hQ
    refine JL.bin rfl rfl rfl .none rfl (JL.move .none rfl (JL.done hQ ?_))
    obtain rfl := Option.some.inj hF
    exact JQ.next rfl ⟨rfl, rfl, rfl, rfl, rfl, rfl, hs56⟩
  ·refine JC.cond_f (b := decide (x_55 < (s.length : Int))) rfl hc59 ?_
   refine JC.exit (JQ.exit_then (JQ.exit_then (JQ.exit_block ?_)))
   obtain rfl := Option.some.inj hF
   have ehr57 := hr57 _ rfl
   subst ehr57
   exact JQ.join () ⟨rfl, rfl, hs56, rfl⟩
 ·rintro _ H33 f bs gs ⟨rfl, rfl, hs33, rfl⟩
  have hF := hKr34
  try dsimp only at hF
  refine JQ.go (JC.seq (JC.region (by rfl) ?_))
  intro hQ
  refine JL.assign .none rfl (JL.done hQ (JQ.go (JC.ret ?_)))
  obtain rfl := Option.some.inj hF
  exact JQ.outS rfl (.tmp .nil) rfl
-- 110 slices.ContainsFunc[[]ferrule/api.Gust,ferrule/api.Gust]
def F_slices_ContainsFunc___api_Gust_api_Gust_ (n : Nat) (s : List Gust) (f_ : Gust → Option Bool) : Option Bool :=
 (F_slices_IndexFunc___api_Gust_api_Gust_ n s f_).bind fun y1 => some (decide (0 ≤ y1))
theorem c_slices_ContainsFunc___api_Gust_api_Gust_ (n : Nat) (H : Hp) (s : List Gust) (s_v0 : Value) (hs_0 : SL H 2 R_Gust s_v0 s) (f_ : Gust → Option Bool) (f__k : Nat) (f__c : List Value) (f__e : Ent Tryz.prog f__k) (f__h : ∀ H', HSub H H' → ∀ (a0_ : Gust) (y : Bool), f_ a0_ = some y → SC Tryz.prog f__k ([.agg [.int .i64 a0_.Force, .int .i64 a0_.At].toArray] ++ f__c) (.bool y) H') (y : Bool) (hF : F_slices_ContainsFunc___api_Gust_api_Gust_ n s f_ = some y) : SC Tryz.prog 110 [s_v0, .func (.func f__k) #[] f__c.toArray] (.bool y) H := by
 rw [F_slices_ContainsFunc___api_Gust_api_Gust_] at hF
 refine SC.of (N := 9) Tryz.func110 rfl rfl rfl fun w => ?_
 refine JC.seq (JC.region (by rfl) ?_)
 intro hQ
 refine JL.assign .none rfl (JL.done hQ (JQ.go (JC.seq (JC.region (by rfl) ?_))))
 intro hQ
 refine JL.move .none rfl (JL.move .none rfl ?_)
 obtain ⟨y1, hy1, hF⟩ := bind_some hF
 refine JL.callS (c_slices_IndexFunc___api_Gust_api_Gust_ n H s s_v0 hs_0 f_ f__k f__c f__e (fun H' hs' => f__h H' hs') y1 hy1) rfl en_117 .none rfl ?_
 refine JL.bin rfl rfl rfl .none rfl (JL.assign .none rfl (JL.done hQ (JQ.go (JC.ret ?_))))
 obtain rfl := Option.some.inj hF
 exact JQ.outS rfl (.tmp .nil) rfl
-- 95 ferrule/gusts.ask
def F_gusts_ask (n : Nat) (d : Canopy) (class_ : List Gust) : Option Int :=
 (F_gusts_Check n d).bind fun y2 => if (y2 != 0) = true then (some y2) else ((if decide (20 < (class_.length : Int)) = true then (some true) else ((F_slices_ContainsFunc___api_Gust_api_Gust_ n class_ (fun a0_ => F_gusts_ask_1 n a0_ d)).bind fun y13 => some y13) : Option Bool).bind fun p7 => if p7 = true then (some 1) else (some 0))
theorem c_gusts_ask (n : Nat) (H : Hp) (d : Canopy) (d_v0 : Value) (hd_0 : SL H 7 R_Section d_v0 d.Frame.Sections) (d_v7 : Value) (hd_7 : SL H 2 R_Span d_v7 d.Ribs) (d_v8 : Value) (hd_8 : SL H 1 RInt d_v8 d.Shares) (class_ : List Gust) (class__v0 : Value) (hclass__0 : SL H 2 R_Gust class__v0 class_) (y : Int) (hF : F_gusts_ask n d class_ = some y) : SC Tryz.prog 95 [.agg [d_v0, .int .i64 d.Frame.Low, .int .i64 d.Frame.High, .int .i64 d.Frame.Ease.Num, .int .i64 d.Frame.Ease.Den, .int .i64 d.Frame.Rod, .int .i64 d.Frame.Case, d_v7, d_v8].toArray, class__v0] (.int .i64 y) H := by
 rw [F_gusts_ask] at hF
 refine SC.of (N := 21) Tryz.func95 rfl rfl rfl fun w => ?_
 refine JC.seq (JC.region (by rfl) ?_)
 intro hQ
 refine JL.box (cs := [d_v0, .int .i64 d.Frame.Low, .int .i64 d.Frame.High, .int .i64 d.Frame.Ease.Num, .int .i64 d.Frame.Ease.Den, .int .i64 d.Frame.Rod, .int .i64 d.Frame.Case, d_v7, d_v8]) rfl .none rfl ?_
 intro b1
 refine JL.assign .none rfl (JL.done hQ (JQ.go (JC.seq (JC.seq (JC.region (by rfl) ?_)))))
 intro hQ
 refine JL.loadOwn 0 az_30 rfl rfl rfl .none rfl ?_
 obtain ⟨y2, hy2, hF⟩ := bind_some hF
 refine JL.callS (c_gusts_Check n H d d_v0 hd_0 d_v7 hd_7 d_v8 hd_8 y2 hy2) rfl en_62 .none rfl ?_
 refine JL.assign .none rfl (JL.done hQ (JQ.go (JC.seq (JC.region (by rfl) ?_))))
 intro hQ
 refine JL.move .none rfl (JL.bin rfl rfl rfl .none rfl (JL.done hQ (JQ.go ?_)))
 rcases ite_some hF with ⟨hc3, hF⟩ | ⟨hc3, hF⟩
 ·refine JC.cond_t (b := (y2 != 0)) rfl hc3 ?_
  refine JC.seq (JC.region (by rfl) ?_)
  intro hQ
  refine JL.move .none rfl (JL.assign .none rfl (JL.done hQ (JQ.go (JC.ret (JQ.ret_then ?_)))))
  obtain rfl := Option.some.inj hF
  exact JQ.outS rfl (.tmp .nil) rfl
 ·refine JC.cond_f (b := (y2 != 0)) rfl hc3 ?_
  refine JC.skip (JQ.go (JC.seq (JC.region (by rfl) ?_)))
  intro hQ
  refine JL.makeFunc .none rfl ?_
  refine JL.assign .none rfl (JL.done hQ (JQ.go (JC.seq (JC.seq (JC.region (by rfl) ?_)))))
  intro hQ
  refine JL.move .none rfl (JL.lenSL (R := R_Gust) ul_65 hclass__0 .none rfl ?_)
  refine JL.bin rfl rfl rfl .none rfl (JL.move .none rfl ?_)
  obtain ⟨p7, hp7, hF⟩ := bind_some hF
  refine JL.cutW 4 (fun H8 f bs gs => f 20 = .bool p7 ∧ bs = [] ∧ gs = [] ∧ HSub H H8) ?_ ?_
  ·intro hJ9
   rcases ite_some hp7 with ⟨hc10, hF⟩ | ⟨hc10, hF⟩
   ·skip
    refine JL.skip (.bool rfl rfl rfl hc10) rfl (JL.skip (.bool rfl rfl rfl hc10) rfl (JL.skip (.bool rfl rfl rfl hc10) rfl (JL.pick_t (b := decide (20 < (class_.length : Int))) rfl hc10 .none rfl ?_)))
    obtain rfl := Option.some.inj hF
    refine JL.mask [false] [] ?_
    exact hJ9 _ _ _ _ ⟨rfl, rfl, rfl, (HSub.refl _)⟩
   ·skip
    refine JL.move (.some rfl rfl rfl hc10) rfl (JL.move (.some rfl rfl rfl hc10) rfl (JL.freezeC 0 (l := [d_v0, .int .i64 d.Frame.Low, .int .i64 d.Frame.High, .int .i64 d.Frame.Ease.Num, .int .i64 d.Frame.Ease.Den, .int .i64 d.Frame.Rod, .int .i64 d.Frame.Case, d_v7, d_v8]) rfl ?_))
    intro H11 hs11 hc12
    obtain ⟨y13, hy13, hF⟩ := bind_some hF
    refine JL.callS (c_slices_ContainsFunc___api_Gust_api_Gust_ n H11 class_ class__v0 (SL.mono R_Gust_mono hs11 hclass__0) (fun a0_ => F_gusts_ask_1 n a0_ d) 109 [.pointer (some ⟨b1, 0, none⟩)] en_109 (fun H' hs' a0_ y' hy' => c_gusts_ask_1 n H' a0_ d d_v0 (SL.mono R_Section_mono hs' (SL.mono R_Section_mono hs11 hd_0)) d_v7 (SL.mono R_Span_mono hs' (SL.mono R_Span_mono hs11 hd_7)) d_v8 (SL.mono RInt.mono hs' (SL.mono RInt.mono hs11 hd_8)) b1 (Cells.mono hs' hc12) y' hy') y13 hy13) rfl en_110 (.some rfl rfl rfl hc10) rfl ?_
    refine JL.pick_f (b := decide (20 < (class_.length : Int))) rfl hc10 .none rfl ?_
    obtain rfl := Option.some.inj hF
    refine JL.mask [] [] ?_
    exact hJ9 _ _ _ _ ⟨rfl, rfl, rfl, hs11⟩
  ·rintro H8 f bs gs ⟨hf20, rfl, rfl, hs8⟩
   refine (JL.norm (i := 20) hf20 ?_)
   refine JL.done hQ (JQ.go ?_)
   rcases ite_some hF with ⟨hc14, hF⟩ | ⟨hc14, hF⟩
   ·refine JC.cond_t (b := p7) rfl hc14 ?_
    refine JC.seq (JC.region (by rfl) ?_)
    intro hQ
    refine JL.assign .none rfl (JL.done hQ (JQ.go (JC.ret (JQ.ret_then ?_))))
    obtain rfl := Option.some.inj hF
    exact JQ.outS rfl (.tmp .nil) rfl
   ·refine JC.cond_f (b := p7) rfl hc14 ?_
    refine JC.skip (JQ.go (JC.seq (JC.region (by rfl) ?_)))
    intro hQ
    refine JL.assign .none rfl (JL.done hQ (JQ.go (JC.ret ?_)))
    obtain rfl := Option.some.inj hF
    exact JQ.outS rfl (.tmp .nil) rfl
-- 123 ferrule/frames.ask
def F_frames_ask (n : Nat) (f_ : Frame) (section_ : Int) (r : Int) : Option Int :=
 (F_frames_Check n f_).bind fun y2 => if (y2 != 0) = true then (some y2) else ((F_frames_within n section_ 0 (w64 ((f_.Sections.length : Int) - 1))).bind fun y4 => (if (!y4) = true then (some true) else ((F_frames_within n r f_.Low f_.High).bind fun y9 => some (!y9)) : Option Bool).bind fun p6 => if p6 = true then (some 1) else (some 0))
theorem c_frames_ask (n : Nat) (H : Hp) (f_ : Frame) (f__v0 : Value) (hf__0 : SL H 7 R_Section f__v0 f_.Sections) (section_ : Int) (r : Int) (y : Int) (hF : F_frames_ask n f_ section_ r = some y) : SC Tryz.prog 123 [.agg [f__v0, .int .i64 f_.Low, .int .i64 f_.High, .int .i64 f_.Ease.Num, .int .i64 f_.Ease.Den, .int .i64 f_.Rod, .int .i64 f_.Case].toArray, .int .i64 section_, .int .i64 r] (.int .i64 y) H := by
 rw [F_frames_ask] at hF
 refine SC.of (N := 29) Tryz.func123 rfl rfl rfl fun w => ?_
 refine JC.seq (JC.region (by rfl) ?_)
 intro hQ
 refine JL.box (cs := [f__v0, .int .i64 f_.Low, .int .i64 f_.High, .int .i64 f_.Ease.Num, .int .i64 f_.Ease.Den, .int .i64 f_.Rod, .int .i64 f_.Case]) rfl .none rfl ?_
 intro b1
 refine JL.assign .none rfl (JL.done hQ (JQ.go (JC.seq (JC.seq (JC.region (by rfl) ?_)))))
 intro hQ
 refine JL.loadOwn 0 az_26 rfl rfl rfl .none rfl ?_
 obtain ⟨y2, hy2, hF⟩ := bind_some hF
 refine JL.callS (c_frames_Check n H f_ f__v0 hf__0 y2 hy2) rfl en_87 .none rfl ?_
 refine JL.assign .none rfl (JL.done hQ (JQ.go (JC.seq (JC.region (by rfl) ?_))))
 intro hQ
 refine JL.move .none rfl (JL.bin rfl rfl rfl .none rfl (JL.done hQ (JQ.go ?_)))
 rcases ite_some hF with ⟨hc3, hF⟩ | ⟨hc3, hF⟩
 ·refine JC.cond_t (b := (y2 != 0)) rfl hc3 ?_
  refine JC.seq (JC.region (by rfl) ?_)
  intro hQ
  refine JL.move .none rfl (JL.assign .none rfl (JL.done hQ (JQ.go (JC.ret (JQ.ret_then ?_)))))
  obtain rfl := Option.some.inj hF
  exact JQ.outS rfl (.tmp .nil) rfl
 ·refine JC.cond_f (b := (y2 != 0)) rfl hc3 ?_
  refine JC.skip (JQ.go (JC.seq (JC.seq (JC.region (by rfl) ?_))))
  intro hQ
  refine JL.move .none rfl (JL.fieldAddr fo_26_0 rfl .none rfl (JL.loadOwn 0 az_22 rfl rfl rfl .none rfl (JL.lenSL (R := R_Section) ul_22 hf__0 .none rfl ?_)))
  refine JL.bin rfl rfl rfl .none rfl ?_
  obtain ⟨y4, hy4, hF⟩ := bind_some hF
  refine JL.callS (c_frames_within n H section_ 0 (w64 ((f_.Sections.length : Int) - 1)) y4 hy4) rfl en_102 .none rfl ?_
  refine JL.not rfl .none rfl (JL.move .none rfl ?_)
  obtain ⟨p6, hp6, hF⟩ := bind_some hF
  refine JL.cut 8 (fun f => f 28 = .bool p6) ?_ ?_
  ·intro hJ7
   rcases ite_some hp6 with ⟨hc8, hF⟩ | ⟨hc8, hF⟩
   ·skip
    refine JL.skip (.bool rfl rfl rfl hc8) rfl (JL.skip (.bool rfl rfl rfl hc8) rfl (JL.skip (.bool rfl rfl rfl hc8) rfl (JL.skip (.bool rfl rfl rfl hc8) rfl (JL.skip (.bool rfl rfl rfl hc8) rfl (JL.skip (.bool rfl rfl rfl hc8) rfl (JL.skip (.bool rfl rfl rfl hc8) rfl (JL.pick_t (b := (!y4)) rfl hc8 .none rfl ?_)))))))
    obtain rfl := Option.some.inj hF
    exact hJ7 _ (rfl)
   ·skip
    refine JL.move (.some rfl rfl rfl hc8) rfl (JL.fieldAddr fo_26_1 rfl (.some rfl rfl rfl hc8) rfl (JL.loadOwn 0 az_3 rfl rfl rfl (.some rfl rfl rfl hc8) rfl (JL.fieldAddr fo_26_2 rfl (.some rfl rfl rfl hc8) rfl (JL.loadOwn 0 az_3 rfl rfl rfl (.some rfl rfl rfl hc8) rfl ?_))))
    obtain ⟨y9, hy9, hF⟩ := bind_some hF
    refine JL.callS (c_frames_within n H r f_.Low f_.High y9 hy9) rfl en_102 (.some rfl rfl rfl hc8) rfl ?_
    refine JL.not rfl (.some rfl rfl rfl hc8) rfl (JL.pick_f (b := (!y4)) rfl hc8 .none rfl ?_)
    obtain rfl := Option.some.inj hF
    exact hJ7 _ (rfl)
  ·rintro f hf28
   refine (JL.norm (i := 28) hf28 ?_)
   refine JL.done hQ (JQ.go ?_)
   rcases ite_some hF with ⟨hc10, hF⟩ | ⟨hc10, hF⟩
   ·refine JC.cond_t (b := p6) rfl hc10 ?_
    refine JC.seq (JC.region (by rfl) ?_)
    intro hQ
    refine JL.assign .none rfl (JL.done hQ (JQ.go (JC.ret (JQ.ret_then ?_))))
    obtain rfl := Option.some.inj hF
    exact JQ.outS rfl (.tmp .nil) rfl
   ·refine JC.cond_f (b := p6) rfl hc10 ?_
    refine JC.skip (JQ.go (JC.seq (JC.region (by rfl) ?_)))
    intro hQ
    refine JL.assign .none rfl (JL.done hQ (JQ.go (JC.ret ?_)))
    obtain rfl := Option.some.inj hF
    exact JQ.outS rfl (.tmp .nil) rfl
-- 124 ferrule/frames.distance
def F_frames_distance_s1 (n : Nat) (y2 : List Section) : Int × Int → Option ((Int × Int) ⊕ Int)
 | (r_70, x_71) => if decide (x_71 < (y2.length : Int)) = true then ((geti y2 x_71).bind fun y76 => (nz y76.Gear.Den).bind fun _ => some (Sum.inl ((w64 (y76.Base + (w64 ((w64 (r_70 * y76.Gear.Num)).tdiv y76.Gear.Den)))), (w64 (x_71 + 1))))) else (some (Sum.inr r_70))
def F_frames_distance (n : Nat) (f_ : Frame) (section_ : Int) (r : Int) : Option Int :=
 (slc f_.Sections 1 (w64 (section_ + 1))).bind fun y2 => (loopO n (F_frames_distance_s1 n y2) (r, 0)).bind fun r_43 => some r_43
theorem c_frames_distance (n : Nat) (H : Hp) (f_ : Frame) (f__v0 : Value) (hf__0 : SL H 7 R_Section f__v0 f_.Sections) (section_ : Int) (r : Int) (y : Int) (hF : F_frames_distance n f_ section_ r = some y) : SC Tryz.prog 124 [.agg [f__v0, .int .i64 f_.Low, .int .i64 f_.High, .int .i64 f_.Ease.Num, .int .i64 f_.Ease.Den, .int .i64 f_.Rod, .int .i64 f_.Case].toArray, .int .i64 section_, .int .i64 r] (.int .i64 y) H := by
 rw [F_frames_distance] at hF
 refine SC.of (N := 33) Tryz.func124 rfl rfl rfl fun w => ?_
 refine JC.seq (JC.region (by rfl) ?_)
 intro hQ
 refine JL.box (cs := [f__v0, .int .i64 f_.Low, .int .i64 f_.High, .int .i64 f_.Ease.Num, .int .i64 f_.Ease.Den, .int .i64 f_.Rod, .int .i64 f_.Case]) rfl .none rfl ?_
 intro b1
 refine JL.assign .none rfl (JL.done hQ (JQ.go (JC.seq (JC.seq (JC.region (by rfl) ?_)))))
 intro hQ
 refine JL.fieldAddr fo_26_0 rfl .none rfl (JL.loadOwn 0 az_22 rfl rfl rfl .none rfl (JL.move .none rfl (JL.bin rfl rfl rfl .none rfl ?_)))
 obtain ⟨y2, hy2, hF⟩ := bind_some hF
 refine JL.sliceLoHi (R := R_Section) sl_22 hf__0 rfl rfl hy2 .none rfl ?_
 intro v3 hv4
 refine JL.lenSL (R := R_Section) ul_22 hv4 .none rfl ?_
 refine JL.move .none rfl (JL.done hQ (JQ.go ?_))
 obtain ⟨r45, hlr45, hKr45⟩ := bind_some hF
 refine JC.join (fun (r_43 : Int) H44 f bs gs => f 2 = .int .i64 r_43 ∧ bs = [] ∧ gs = [] ∧ HSub H H44 ∧ r_43 = r45) ?_ ?_
 ·skip
  refine JC.block (JC.mask [false] [] ?_)
  refine JC.loop hlr45 (fun (x : Int × Int) H72 f bs gs => match x with | (r_70, x_71) => f 2 = .int .i64 r_70 ∧ f 13 = v3 ∧ f 14 = .int .i64 (y2.length : Int) ∧ f 15 = .int .i64 x_71 ∧ bs = [] ∧ gs = [] ∧ HSub H H72) ⟨rfl, rfl, rfl, rfl, rfl, rfl, (HSub.refl _)⟩ ?_
  rintro ⟨r_70, x_71⟩ x74 H72 f bs gs ⟨hf2, hf13, hf14, hf15, rfl, rfl, hs72⟩ hF hr73
  rw [F_frames_distance_s1] at hF
  refine (JC.norm (i := 2) hf2 (JC.norm (i := 13) hf13 (JC.norm (i := 14) hf14 (JC.norm (i := 15) hf15 ?_))))
  refine JC.seq (JC.region (by rfl) ?_)
  intro hQ
  refine JL.bin rfl rfl rfl .none rfl (JL.done hQ (JQ.go (JC.seq ?_)))
  rcases ite_some hF with ⟨hc75, hF⟩ | ⟨hc75, hF⟩
  ·refine JC.cond_t (b := decide (x_71 < (y2.length : Int))) rfl hc75 ?_
   refine JC.skip (JQ.go (JC.seq (JC.block (JC.seq (JC.region (by rfl) ?_)))))
   intro hQ
   obtain ⟨y76, hy76, hF⟩ := bind_some hF
   refine JL.indexSL (R := R_Section) sl_22 (SL.mono R_Section_mono hs72 hv4) rfl hy76 .none rfl ?_
   rintro b77 o78 cs79 hc80 - rfl
   refine JL.loadH 0 az_124 rfl hc80 rfl .none rfl ?_
   refine JL.alloc ze_124 .none rfl ?_
   intro b81
   refine JL.storeOwn 0 (cs := [.int .i64 y76.Arm.Low, .int .i64 y76.Arm.High, .int .i64 y76.Stretch.Low, .int .i64 y76.Stretch.High, .int .i64 y76.Base, .int .i64 y76.Gear.Num, .int .i64 y76.Gear.Den]) az_124 rfl rfl rfl (one_cons rfl (one_cons rfl (one_cons rfl (one_cons rfl (one_cons rfl (one_cons rfl (one_cons rfl one_nil))))))) rfl rfl .none ?_
   refine JL.done hQ (JQ.go (JC.draw (by rfl) mo_ (by kernel_rfl) ?_))
   intro hQ
   refine JL.fieldAddr fo_124_2 rfl .none rfl (JL.loadOwn 0 az_3 rfl rfl rfl .none rfl (JL.move .none rfl (JL.fieldAddr fo_124_3 rfl .none rfl (JL.fieldAddr fo_24_0 rfl .none rfl (JL.loadOwn 0 az_3 rfl rfl rfl .none rfl (JL.bin rfl rfl rfl .none rfl (JL.fieldAddr fo_124_3 rfl .none rfl (JL.fieldAddr fo_24_1 rfl .none rfl (JL.loadOwn 0 az_3 rfl rfl rfl .none rfl ?_)))))))))
   obtain ⟨u83, hu83, hF⟩ := bind_some hF
   refine JL.div rfl rfl (nz_some hu83) rfl .none rfl ?_
   refine JL.bin rfl rfl rfl .none rfl (JL.assign .none rfl (JL.doneQ hQ ?_))
   refine JQ.normal_block (JQ.go (JC.fresh (fun f => f 2 = .int .i64 (w64 (y76.Base + (w64 ((w64 (r_70 * y76.Gear.Num)).tdiv y76.Gear.Den)))) ∧ f 13 = v3 ∧ f 14 = .int .i64 (y2.length : Int) ∧ f 15 = .int .i64 x_71) ⟨rfl, rfl, rfl, rfl⟩ ?_))
   rintro f ⟨hf2, hf13, hf14, hf15⟩
   refine (JC.norm (i := 2) hf2 (JC.norm (i := 13) hf13 (JC.norm (i := 14) hf14 (JC.norm (i := 15) hf15 ?_))))
   refine JC.region (by rfl) ?_
   intro hQ
   refine JL.bin rfl rfl rfl .none rfl (JL.move .none rfl (JL.done hQ ?_))
   obtain rfl := Option.some.inj hF
   refine JQ.mask [false] [] ?_
   exact JQ.next rfl ⟨rfl, rfl, rfl, rfl, rfl, rfl, hs72⟩
  ·refine JC.cond_f (b := decide (x_71 < (y2.length : Int))) rfl hc75 ?_
   refine JC.exit (JQ.exit_then (JQ.exit_then (JQ.exit_block ?_)))
   obtain rfl := Option.some.inj hF
   have ehr73 := hr73 _ rfl
   subst ehr73
   exact JQ.join r_70 ⟨rfl, rfl, rfl, hs72, rfl⟩
 ·rintro r_43 H44 f bs gs ⟨hf2, rfl, rfl, hs44, rfl⟩
  have hF := hKr45
  try dsimp only at hF
  refine (JQ.norm (i := 2) hf2 ?_)
  refine JQ.go (JC.seq (JC.region (by rfl) ?_))
  intro hQ
  refine JL.move .none rfl (JL.assign .none rfl (JL.done hQ (JQ.go (JC.ret ?_))))
  obtain rfl := Option.some.inj hF
  exact JQ.outS rfl (.tmp .nil) rfl
-- 126 (ferrule/frames.sides).cosine
def F_frames_sides_cosine (n : Nat) (x_ : frames_sides) (d : Int) : Option Frac :=
 some (Frac.mk (w64 ((w64 ((w64 (d * d)) + (w64 (x_.arm * x_.arm)))) - (w64 (x_.stretch * x_.stretch)))) (w64 ((w64 (2 * d)) * x_.arm)))
theorem c_frames_sides_cosine (n : Nat) (H : Hp) (x_ : frames_sides) (d : Int) (y : Frac) (hF : F_frames_sides_cosine n x_ d = some y) : SC Tryz.prog 126 [.agg [.int .i64 x_.arm, .int .i64 x_.stretch].toArray, .int .i64 d] (.agg [.int .i64 y.Num, .int .i64 y.Den].toArray) H := by
 rw [F_frames_sides_cosine] at hF
 refine SC.of (N := 26) Tryz.func126 rfl rfl rfl fun w => ?_
 refine JC.seq (JC.region (by rfl) ?_)
 intro hQ
 refine JL.box (cs := [.int .i64 x_.arm, .int .i64 x_.stretch]) rfl .none rfl ?_
 intro b1
 refine JL.alloc ze_24 .none rfl ?_
 intro b2
 refine JL.done hQ (JQ.go (JC.seq (JC.region (by rfl) ?_)))
 intro hQ
 refine JL.move .none rfl (JL.move .none rfl (JL.bin rfl rfl rfl .none rfl (JL.fieldAddr fo_173_0 rfl .none rfl (JL.loadOwn 1 az_3 rfl rfl rfl .none rfl (JL.fieldAddr fo_173_0 rfl .none rfl (JL.loadOwn 1 az_3 rfl rfl rfl .none rfl (JL.bin rfl rfl rfl .none rfl (JL.bin rfl rfl rfl .none rfl (JL.fieldAddr fo_173_1 rfl .none rfl (JL.loadOwn 1 az_3 rfl rfl rfl .none rfl (JL.fieldAddr fo_173_1 rfl .none rfl (JL.loadOwn 1 az_3 rfl rfl rfl .none rfl (JL.bin rfl rfl rfl .none rfl (JL.bin rfl rfl rfl .none rfl (JL.move .none rfl (JL.bin rfl rfl rfl .none rfl (JL.fieldAddr fo_173_0 rfl .none rfl (JL.loadOwn 1 az_3 rfl rfl rfl .none rfl (JL.bin rfl rfl rfl .none rfl (JL.build (l := [.int .i64 (w64 ((w64 ((w64 (d * d)) + (w64 (x_.arm * x_.arm)))) - (w64 (x_.stretch * x_.stretch)))), .int .i64 (w64 ((w64 (2 * d)) * x_.arm))]) (by kernel_rfl) .none rfl ?_))))))))))))))))))))
 refine JL.storeOwn 0 (cs := [.int .i64 (w64 ((w64 ((w64 (d * d)) + (w64 (x_.arm * x_.arm)))) - (w64 (x_.stretch * x_.stretch)))), .int .i64 (w64 ((w64 (2 * d)) * x_.arm))]) az_24 rfl rfl rfl (one_cons rfl (one_cons rfl one_nil)) rfl rfl .none ?_
 refine JL.done hQ (JQ.go (JC.fresh (fun f => f 4 = .pointer (some ⟨b2, 0, none⟩)) rfl ?_))
 rintro f hf4
 refine (JC.norm (i := 4) hf4 ?_)
 refine JC.ret ?_
 obtain rfl := Option.some.inj hF
 exact JQ.outS rfl (.cell 0 az_24 rfl rfl rfl .nil) rfl
-- 134 cmp.isNaN[int]
def F_cmp_isNaN_int_ (n : Nat) (x_ : Int) : Option Bool :=
 some (x_ != x_)
theorem c_cmp_isNaN_int_ (n : Nat) (H : Hp) (x_ : Int) (y : Bool) (hF : F_cmp_isNaN_int_ n x_ = some y) : SC Tryz.prog 134 [.int .i64 x_] (.bool y) H := by
 rw [F_cmp_isNaN_int_] at hF
 refine SC.of (N := 6) Tryz.func134 rfl rfl rfl fun w => ?_
 refine JC.seq (JC.region (by rfl) ?_)
 intro hQ
 refine JL.assign .none rfl (JL.done hQ (JQ.go (JC.seq (JC.region (by rfl) ?_))))
 intro hQ
 refine JL.move .none rfl (JL.move .none rfl (JL.bin rfl rfl rfl .none rfl (JL.assign .none rfl (JL.done hQ (JQ.go (JC.ret ?_))))))
 obtain rfl := Option.some.inj hF
 exact JQ.outS rfl (.tmp .nil) rfl
-- 132 cmp.Compare[int]
def F_cmp_Compare_int_ (n : Nat) (x_ : Int) (y_ : Int) : Option Int :=
 (F_cmp_isNaN_int_ n x_).bind fun y1 => (F_cmp_isNaN_int_ n y_).bind fun y2 => if y1 = true then (if y2 = true then (some 0) else (some (-1))) else (if y2 = true then (some 1) else (if decide (x_ < y_) = true then (some (-1)) else (if decide (y_ < x_) = true then (some 1) else (some 0))))
theorem c_cmp_Compare_int_ (n : Nat) (H : Hp) (x_ : Int) (y_ : Int) (y : Int) (hF : F_cmp_Compare_int_ n x_ y_ = some y) : SC Tryz.prog 132 [.int .i64 x_, .int .i64 y_] (.int .i64 y) H := by
 rw [F_cmp_Compare_int_] at hF
 refine SC.of (N := 20) Tryz.func132 rfl rfl rfl fun w => ?_
 refine JC.seq (JC.region (by rfl) ?_)
 intro hQ
 refine JL.assign .none rfl (JL.done hQ (JQ.go (JC.seq (JC.region (by rfl) ?_))))
 intro hQ
 refine JL.move .none rfl ?_
 obtain ⟨y1, hy1, hF⟩ := bind_some hF
 refine JL.callS (c_cmp_isNaN_int_ n H x_ y1 hy1) rfl en_134 .none rfl ?_
 refine JL.assign .none rfl (JL.done hQ (JQ.go (JC.seq (JC.region (by rfl) ?_))))
 intro hQ
 refine JL.move .none rfl ?_
 obtain ⟨y2, hy2, hF⟩ := bind_some hF
 refine JL.callS (c_cmp_isNaN_int_ n H y_ y2 hy2) rfl en_134 .none rfl ?_
 refine JL.assign .none rfl (JL.done hQ (JQ.go (JC.seq (JC.seq (JC.region (by rfl) ?_)))))
 intro hQ
 refine JL.move .none rfl (JL.done hQ (JQ.go ?_))
 rcases ite_some hF with ⟨hc3, hF⟩ | ⟨hc3, hF⟩
 ·refine JC.cond_t (b := y1) rfl hc3 ?_
  refine JC.seq (JC.seq (JC.region (by rfl) ?_))
  intro hQ
  refine JL.move .none rfl (JL.done hQ (JQ.go ?_))
  rcases ite_some hF with ⟨hc4, hF⟩ | ⟨hc4, hF⟩
  ·refine JC.cond_t (b := y2) rfl hc4 ?_
   refine JC.seq (JC.region (by rfl) ?_)
   intro hQ
   refine JL.assign .none rfl (JL.done hQ (JQ.go (JC.ret (JQ.ret_then (JQ.ret_then ?_)))))
   obtain rfl := Option.some.inj hF
   exact JQ.outS rfl (.tmp .nil) rfl
  ·refine JC.cond_f (b := y2) rfl hc4 ?_
   refine JC.skip (JQ.go (JC.seq (JC.region (by rfl) ?_)))
   intro hQ
   refine JL.assign .none rfl (JL.done hQ (JQ.go (JC.ret (JQ.ret_then ?_))))
   obtain rfl := Option.some.inj hF
   exact JQ.outS rfl (.tmp .nil) rfl
 ·refine JC.cond_f (b := y1) rfl hc3 ?_
  refine JC.skip (JQ.go (JC.seq (JC.seq (JC.region (by rfl) ?_))))
  intro hQ
  refine JL.move .none rfl (JL.done hQ (JQ.go ?_))
  rcases ite_some hF with ⟨hc5, hF⟩ | ⟨hc5, hF⟩
  ·refine JC.cond_t (b := y2) rfl hc5 ?_
   refine JC.seq (JC.region (by rfl) ?_)
   intro hQ
   refine JL.assign .none rfl (JL.done hQ (JQ.go (JC.ret (JQ.ret_then ?_))))
   obtain rfl := Option.some.inj hF
   exact JQ.outS rfl (.tmp .nil) rfl
  ·refine JC.cond_f (b := y2) rfl hc5 ?_
   refine JC.skip (JQ.go (JC.seq (JC.seq (JC.region (by rfl) ?_))))
   intro hQ
   refine JL.move .none rfl (JL.move .none rfl (JL.bin rfl rfl rfl .none rfl (JL.done hQ (JQ.go (JC.fresh (fun f => f 0 = .int .i64 x_ ∧ f 1 = .int .i64 y_ ∧ f 4 = .int .i64 0 ∧ f 16 = .bool (decide (x_ < y_))) ⟨rfl, rfl, rfl, rfl⟩ ?_)))))
   rintro f ⟨hf0, hf1, hf4, hf16⟩
   refine (JC.norm (i := 0) hf0 (JC.norm (i := 1) hf1 (JC.norm (i := 4) hf4 (JC.norm (i := 16) hf16 ?_))))
   rcases ite_some hF with ⟨hc6, hF⟩ | ⟨hc6, hF⟩
   ·refine JC.cond_t (b := decide (x_ < y_)) rfl hc6 ?_
    refine JC.seq (JC.region (by rfl) ?_)
    intro hQ
    refine JL.assign .none rfl (JL.done hQ (JQ.go (JC.ret (JQ.ret_then ?_))))
    obtain rfl := Option.some.inj hF
    exact JQ.outS rfl (.tmp .nil) rfl
   ·refine JC.cond_f (b := decide (x_ < y_)) rfl hc6 ?_
    refine JC.skip (JQ.go (JC.seq (JC.seq (JC.region (by rfl) ?_))))
    intro hQ
    refine JL.move .none rfl (JL.move .none rfl (JL.bin rfl rfl rfl .none rfl (JL.done hQ (JQ.go ?_))))
    rcases ite_some hF with ⟨hc7, hF⟩ | ⟨hc7, hF⟩
    ·refine JC.cond_t (b := decide (y_ < x_)) rfl hc7 ?_
     refine JC.seq (JC.region (by rfl) ?_)
     intro hQ
     refine JL.assign .none rfl (JL.done hQ (JQ.go (JC.ret (JQ.ret_then ?_))))
     obtain rfl := Option.some.inj hF
     exact JQ.outS rfl (.tmp .nil) rfl
    ·refine JC.cond_f (b := decide (y_ < x_)) rfl hc7 ?_
     refine JC.skip (JQ.go (JC.seq (JC.region (by rfl) ?_)))
     intro hQ
     refine JL.assign .none rfl (JL.done hQ (JQ.go (JC.ret ?_)))
     obtain rfl := Option.some.inj hF
     exact JQ.outS rfl (.tmp .nil) rfl
-- 127 ferrule/frames.compare
def F_frames_compare (n : Nat) (a : Frac) (b : Frac) : Option Int :=
 (F_cmp_Compare_int_ n (w64 (a.Num * b.Den)) (w64 (b.Num * a.Den))).bind fun y3 => some y3
theorem c_frames_compare (n : Nat) (H : Hp) (a : Frac) (b : Frac) (y : Int) (hF : F_frames_compare n a b = some y) : SC Tryz.prog 127 [.agg [.int .i64 a.Num, .int .i64 a.Den].toArray, .agg [.int .i64 b.Num, .int .i64 b.Den].toArray] (.int .i64 y) H := by
 rw [F_frames_compare] at hF
 refine SC.of (N := 16) Tryz.func127 rfl rfl rfl fun w => ?_
 refine JC.seq (JC.region (by rfl) ?_)
 intro hQ
 refine JL.box (cs := [.int .i64 a.Num, .int .i64 a.Den]) rfl .none rfl ?_
 intro b1
 refine JL.box (cs := [.int .i64 b.Num, .int .i64 b.Den]) rfl .none rfl ?_
 intro b2
 refine JL.assign .none rfl (JL.done hQ (JQ.go (JC.seq (JC.region (by rfl) ?_))))
 intro hQ
 refine JL.fieldAddr fo_24_0 rfl .none rfl (JL.loadOwn 1 az_3 rfl rfl rfl .none rfl (JL.fieldAddr fo_24_1 rfl .none rfl (JL.loadOwn 0 az_3 rfl rfl rfl .none rfl (JL.bin rfl rfl rfl .none rfl (JL.fieldAddr fo_24_0 rfl .none rfl (JL.loadOwn 0 az_3 rfl rfl rfl .none rfl (JL.fieldAddr fo_24_1 rfl .none rfl (JL.loadOwn 1 az_3 rfl rfl rfl .none rfl (JL.bin rfl rfl rfl .none rfl ?_)))))))))
 obtain ⟨y3, hy3, hF⟩ := bind_some hF
 refine JL.callS (c_cmp_Compare_int_ n H (w64 (a.Num * b.Den)) (w64 (b.Num * a.Den)) y3 hy3) rfl en_132 .none rfl ?_
 refine JL.assign .none rfl (JL.done hQ (JQ.go (JC.fresh (fun f => f 4 = .int .i64 y3) rfl ?_)))
 rintro f hf4
 refine (JC.norm (i := 4) hf4 ?_)
 refine JC.ret ?_
 obtain rfl := Option.some.inj hF
 exact JQ.outS rfl (.tmp .nil) rfl
-- 128 ferrule/frames.reduced
def F_frames_reduced_s1 (n : Nat)  : Int × Int → Option ((Int × Int) ⊕ Int)
 | (a_38, b_39) => if (b_39 != 0) = true then ((nz b_39).bind fun _ => some (Sum.inl (b_39, (a_38.tmod b_39)))) else (some (Sum.inr a_38))
def F_frames_reduced (n : Nat) (f_ : Frac) : Option Frac :=
 (loopO n (F_frames_reduced_s1 n) ((max f_.Num (w64 (-f_.Num))), f_.Den)).bind fun a_23 => (nz a_23).bind fun _ => (nz a_23).bind fun _ => some (Frac.mk (w64 (f_.Num.tdiv a_23)) (w64 (f_.Den.tdiv a_23)))
theorem c_frames_reduced (n : Nat) (H : Hp) (f_ : Frac) (y : Frac) (hF : F_frames_reduced n f_ = some y) : SC Tryz.prog 128 [.agg [.int .i64 f_.Num, .int .i64 f_.Den].toArray] (.agg [.int .i64 y.Num, .int .i64 y.Den].toArray) H := by
 rw [F_frames_reduced] at hF
 refine SC.of (N := 28) Tryz.func128 rfl rfl rfl fun w => ?_
 refine JC.seq (JC.region (by rfl) ?_)
 intro hQ
 refine JL.box (cs := [.int .i64 f_.Num, .int .i64 f_.Den]) rfl .none rfl ?_
 intro b1
 refine JL.alloc ze_24 .none rfl ?_
 intro b2
 refine JL.done hQ (JQ.go (JC.seq (JC.draw (by rfl) mo_ (by kernel_rfl) ?_)))
 intro hQ
 refine JL.fieldAddr fo_24_0 rfl .none rfl (JL.loadOwn 1 az_3 rfl rfl rfl .none rfl (JL.fieldAddr fo_24_0 rfl .none rfl (JL.loadOwn 1 az_3 rfl rfl rfl .none rfl (JL.neg rfl .none rfl ?_))))
 refine JL.max rfl rfl .none rfl ?_
 refine JL.fieldAddr fo_24_1 rfl .none rfl (JL.loadOwn 1 az_3 rfl rfl rfl .none rfl (JL.assign .none rfl (JL.assign .none rfl (JL.doneQ hQ ?_))))
 refine JQ.go (JC.seq ?_)
 obtain ⟨r25, hlr25, hKr25⟩ := bind_some hF
 refine JC.join (fun (a_23 : Int) H24 f bs gs => f 1 = .pointer (some ⟨b1, 0, none⟩) ∧ f 2 = .pointer (some ⟨b2, 0, none⟩) ∧ f 3 = .int .i64 a_23 ∧ bs = [(b2, .cells [.int .i64 0, .int .i64 0].toArray 24), (b1, .cells [.int .i64 f_.Num, .int .i64 f_.Den].toArray 24)] ∧ gs = [] ∧ HSub H H24 ∧ a_23 = r25) ?_ ?_
 ·skip
  refine JC.block (JC.loop hlr25 (fun (x : Int × Int) H40 f bs gs => match x with | (a_38, b_39) => f 1 = .pointer (some ⟨b1, 0, none⟩) ∧ f 2 = .pointer (some ⟨b2, 0, none⟩) ∧ f 3 = .int .i64 a_38 ∧ f 4 = .int .i64 b_39 ∧ bs = [(b2, .cells [.int .i64 0, .int .i64 0].toArray 24), (b1, .cells [.int .i64 f_.Num, .int .i64 f_.Den].toArray 24)] ∧ gs = [] ∧ HSub H H40) ⟨rfl, rfl, rfl, rfl, rfl, rfl, (HSub.refl _)⟩ ?_)
  rintro ⟨a_38, b_39⟩ x42 H40 f bs gs ⟨hf1, hf2, hf3, hf4, rfl, rfl, hs40⟩ hF hr41
  rw [F_frames_reduced_s1] at hF
  refine (JC.norm (i := 1) hf1 (JC.norm (i := 2) hf2 (JC.norm (i := 3) hf3 (JC.norm (i := 4) hf4 ?_))))
  refine JC.seq (JC.seq (JC.region (by rfl) ?_))
  intro hQ
  refine JL.move .none rfl (JL.bin rfl rfl rfl .none rfl (JL.done hQ (JQ.go ?_)))
  rcases ite_some hF with ⟨hc43, hF⟩ | ⟨hc43, hF⟩
  ·refine JC.cond_t (b := (b_39 != 0)) rfl hc43 ?_
   refine JC.skip (JQ.go (JC.block (JC.draw (by rfl) mo_ (by kernel_rfl) ?_)))
   intro hQ
   refine JL.move .none rfl (JL.move .none rfl (JL.move .none rfl ?_))
   obtain ⟨u45, hu45, hF⟩ := bind_some hF
   refine JL.div rfl rfl (nz_some hu45) rfl .none rfl ?_
   refine JL.assign .none rfl (JL.assign .none rfl (JL.doneQ hQ ?_))
   refine JQ.normal_block ?_
   obtain rfl := Option.some.inj hF
   exact JQ.next rfl ⟨rfl, rfl, rfl, rfl, rfl, rfl, hs40⟩
  ·refine JC.cond_f (b := (b_39 != 0)) rfl hc43 ?_
   refine JC.exit (JQ.exit_then (JQ.exit_then (JQ.exit_block ?_)))
   obtain rfl := Option.some.inj hF
   have ehr41 := hr41 _ rfl
   subst ehr41
   exact JQ.join a_38 ⟨rfl, rfl, rfl, rfl, rfl, hs40, rfl⟩
 ·rintro a_23 H24 f bs gs ⟨hf1, hf2, hf3, rfl, rfl, hs24, rfl⟩
  have hF := hKr25
  try dsimp only at hF
  refine (JQ.norm (i := 1) hf1 (JQ.norm (i := 2) hf2 (JQ.norm (i := 3) hf3 ?_)))
  refine JQ.go (JC.seq ?_)
  obtain ⟨u48, hu48, hF⟩ := bind_some hF
  obtain ⟨u49, hu49, hF⟩ := bind_some hF
  refine JC.mixed 9 10 (tf 0 10) [(b2, .cells [.int .i64 0, .int .i64 0].toArray 24), (b1, .cells [.int .i64 f_.Num, .int .i64 f_.Den].toArray 24)] (by rfl) mo_ (by kernel_rfl) (by kernel_rfl) ?_
  intro hQ hE
  refine JA.tk 0 (tf 1 9) hQ rfl hE (.cons_cons _ (.cons_cons _ (List.nil_sublist _))) ?_
  refine JL.fieldAddr fo_24_0 rfl .none rfl (JA.cont ?_)
  refine JA.tk 1 (tf 2 8) hQ rfl hE (.cons_cons _ (.cons_cons _ (List.nil_sublist _))) ?_
  refine JL.loadOwn 1 az_3 rfl rfl rfl .none rfl (JA.cont ?_)
  refine JA.tk 2 (tf 3 7) hQ rfl hE (.cons_cons _ (.cons_cons _ (List.nil_sublist _))) ?_
  refine JL.move .none rfl (JA.cont ?_)
  refine JA.tk 3 (tf 4 6) hQ rfl hE (.cons_cons _ (.cons_cons _ (List.nil_sublist _))) ?_
  refine JL.div rfl rfl (nz_some hu48) rfl .none rfl ?_
  refine JA.cont ?_
  refine JA.tk 4 (tf 5 5) hQ rfl hE (.cons_cons _ (.cons_cons _ (List.nil_sublist _))) ?_
  refine JL.fieldAddr fo_24_1 rfl .none rfl (JA.cont ?_)
  refine JA.tk 5 (tf 6 4) hQ rfl hE (.cons_cons _ (.cons_cons _ (List.nil_sublist _))) ?_
  refine JL.loadOwn 1 az_3 rfl rfl rfl .none rfl (JA.cont ?_)
  refine JA.tk 6 (tf 7 3) hQ rfl hE (.cons_cons _ (.cons_cons _ (List.nil_sublist _))) ?_
  refine JL.move .none rfl (JA.cont ?_)
  refine JA.tk 7 (tf 8 2) hQ rfl hE (.cons_cons _ (.cons_cons _ (List.nil_sublist _))) ?_
  refine JL.div rfl rfl (nz_some hu49) rfl .none rfl ?_
  refine JA.cont ?_
  refine JA.tk 8 (tf 9 1) hQ rfl hE (.cons_cons _ (.cons_cons _ (List.nil_sublist _))) ?_
  refine JL.build (l := [.int .i64 (w64 (f_.Num.tdiv a_23)), .int .i64 (w64 (f_.Den.tdiv a_23))]) (by kernel_rfl) .none rfl ?_
  refine JA.cont ?_
  refine JA.many [9] (by kernel_rfl) (by simp) (all_one ⟨_, (tf 10 0), rfl, (by kernel_rfl), ?_⟩)
  refine JL.storeOwn 0 (cs := [.int .i64 (w64 (f_.Num.tdiv a_23)), .int .i64 (w64 (f_.Den.tdiv a_23))]) az_24 rfl rfl rfl (one_cons rfl (one_cons rfl one_nil)) rfl rfl .none ?_
  refine JA.sink (by kernel_rfl) ?_
  refine JA.done hQ (by kernel_rfl) ?_
  refine JQ.go (JC.ret ?_)
  obtain rfl := Option.some.inj hF
  exact JQ.outS rfl (.cell 0 az_24 rfl rfl rfl .nil) rfl
end Go.Proofs.YtcipdblhopffbaaGreat
end
