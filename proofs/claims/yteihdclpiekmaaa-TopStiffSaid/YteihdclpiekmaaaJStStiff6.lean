/-
  A part of the proof of StStiff: the texts StGenK8, StGenK9, EngQ, EngR, EngZ.
-/
import Derived.Test.YteihdclpiekmaaaJStStiff5
section
set_option maxRecDepth 100000
set_option maxHeartbeats 40000000
namespace Go.Proofs.Yteihdclpiekmaaa
open Go Go.RowKit Go.Dec
set_option linter.unusedVariables false
-- 62 (*ferrule/seams.ring).closed
noncomputable def F_seams_ring_closed_s3 (n : Nat) (r : seams_ring) (y3554 : List Int) (k4158 : Int) : Int × Mp → Option ((Int × Mp) ⊕ Mp)
 | (x_4239, m_4240) => if decide (x_4239 < (y3554.length : Int)) = true then ((geti y3554 x_4239).bind fun y4245 => (F_seams_ring_modulo n r (w64 (k4158 + y4245))).bind fun y4250 => (kok 1 [y4250]).bind fun _ => (kok 1 [y4250]).bind fun _ => some (Sum.inl ((w64 (x_4239 + 1)), (mput m_4240 [y4250] (w64 ((mget m_4240 [y4250]) + 1)))))) else (some (Sum.inr m_4240))
noncomputable def F_seams_ring_closed_s2 (n : Nat) (r : seams_ring) (y3554 : List Int) : Mp → List Int × Int → Option Mp
 | m_4137, ([k4158], v4146) => (loopO n (F_seams_ring_closed_s3 n r y3554 k4158) (0, m_4137)).bind fun m_4206 => some m_4206
 | _, _ => none
noncomputable def F_seams_ring_closed_s1 (n : Nat) (r : seams_ring) (y6 : (List (List Int))) : Mp × Int → Option ((Mp × Int) ⊕ Mp)
 | (m_3548, x_3549) => if decide (x_3549 < (y6.length : Int)) = true then ((geti y6 x_3549).bind fun y3554 => ((permO (F_seams_ring_closed_s2 n r y3554) ([] : Mp) m_3548).bind fun z4256 => match z4256 with | m_4137 => some m_4137).bind fun m_3909 => some (Sum.inl (m_3909, (w64 (x_3549 + 1))))) else (some (Sum.inr m_3548))
noncomputable def F_seams_ring_closed (n : Nat) (r : seams_ring) (near : Int) : Option Bool :=
 (kok 1 [0]).bind fun _ => (F_seams_ring_steps n r near).bind fun y6 => (loopO n (F_seams_ring_closed_s1 n r y6) ((mput ([] : Mp) [0] 1), 0)).bind fun m_2131 => (kok 1 [0]).bind fun _ => some (decide (0 < (mget m_2131 [0])))
theorem c_seams_ring_closed (n : Nat) (H : Hp) (r : seams_ring) (r_v0 : Value) (hr_0 : SL H 4 R_Bolt r_v0 r.Figure.Dome.Bolts) (r_v1 : Value) (hr_1 : SL H 1 RInt r_v1 r.Figure.Dome.Gores) (r_v3 : Value) (hr_3 : SL H 2 R_Span r_v3 r.Figure.Dome.Rounds) (r_v4 : Value) (hr_4 : SL H 1 RInt r_v4 r.Figure.Dome.Widths) (r_v9 : Value) (hr_9 : SL H 1 RInt r_v9 r.Figure.Starts) (r_v10 : Value) (hr_10 : SL H 1 RInt r_v10 r.Figure.Times) (r_v11 : Value) (hr_11 : SL H 1 (RSl 1 RInt) r_v11 r.moves) (r_b r_o : Nat) (r_c : Cells H r_b r_o [r_v0, r_v1, .int .i64 r.Figure.Dome.Loss, r_v3, r_v4, .int .i64 r.Figure.Dome.Slope, .int .i64 r.Figure.Period, .int .i64 r.Figure.Run, .int .i64 r.Figure.Near, r_v9, r_v10, r_v11]) (near : Int) (y : Bool) (hF : F_seams_ring_closed n r near = some y) : SC Try.prog 62 [.pointer (some ⟨r_b, r_o, none⟩), .int .i64 near] (.bool y) H := by
 rw [F_seams_ring_closed] at hF
 refine SC.of (N := 49) Try.func62 rfl rfl rfl fun w => ?_
 refine JC.seq (JC.region (by rfl) ?_)
 intro hQ
 refine JL.assign .none rfl ?_
 refine JL.done hQ (JQ.go (JC.seq (JC.region (by rfl) ?_)))
 intro hQ
 refine JL.makeMap .none rfl ?_
 intro b1
 obtain ⟨u2, hu2, hF⟩ := bind_some hF
 refine JL.insertM (k := [0]) 0 mp_186 kt_3 rfl rfl MR.empty rfl hu2 rfl .none rfl ?_
 intro es3 ck4 hm5
 refine JL.move .none rfl ?_
 refine JL.assign .none rfl ?_
 refine JL.done hQ (JQ.go (JC.seq (JC.seq (JC.region (by rfl) ?_))))
 intro hQ
 refine JL.move .none rfl ?_
 refine JL.move .none rfl ?_
 obtain ⟨y6, hy6, hF⟩ := bind_some hF
 refine JL.callH (c_seams_ring_steps n H r r_v0 hr_0 r_v1 hr_1 r_v3 hr_3 r_v4 hr_4 r_v9 hr_9 r_v10 hr_10 r_v11 hr_11 r_b r_o r_c near y6 hy6) rfl en_116 .none rfl ?_
 intro H7 y6a_v0 hs7 hy6a_0
 refine JL.lenSL (R := (RSl 1 RInt)) ul_115 hy6a_0 .none rfl ?_
 refine JL.move .none rfl ?_
 refine JL.done hQ (JQ.go ?_)
 obtain ⟨r2133, hlr2133, hKr2133⟩ := bind_some hF
 refine JC.join (fun (m_2131 : Mp) H2132 f bs gs => ∃ (bm_2131 : Nat) (em_2131 : Array MapEntry) (cm_2131 : Nat), f 5 = .map (some bm_2131) ∧ bs = [(bm_2131, .map em_2131 cm_2131)] ∧ gs = [] ∧ MR 1 ekI m_2131 em_2131 cm_2131 ∧ HSub H7 H2132 ∧ m_2131 = r2133) ?_ ?_
 ·skip
  refine JC.block (JC.loop hlr2133 (fun (x : Mp × Int) H3550 f bs gs => match x with | (m_3548, x_3549) => ∃ (bm_3548 : Nat) (em_3548 : Array MapEntry) (cm_3548 : Nat), f 0 = .pointer (some ⟨r_b, r_o, none⟩) ∧ f 5 = .map (some bm_3548) ∧ f 16 = y6a_v0 ∧ f 17 = .int .i64 (y6.length : Int) ∧ f 18 = .int .i64 x_3549 ∧ bs = [(bm_3548, .map em_3548 cm_3548)] ∧ gs = [] ∧ MR 1 ekI m_3548 em_3548 cm_3548 ∧ HSub H7 H3550) ⟨b1, es3, ck4, rfl, rfl, rfl, rfl, rfl, rfl, rfl, hm5, (HSub.refl _)⟩ ?_)
  rintro ⟨m_3548, x_3549⟩ x3552 H3550 f bs gs ⟨bm_3548, em_3548, cm_3548, hf0, hf5, hf16, hf17, hf18, rfl, rfl, hm_3548, hs3550⟩ hF hr3551
  rw [F_seams_ring_closed_s1] at hF
  refine (JC.norm (i := 0) hf0 (JC.norm (i := 5) hf5 (JC.norm (i := 16) hf16 (JC.norm (i := 17) hf17 (JC.norm (i := 18) hf18 ?_)))))
  refine JC.seq (JC.region (by rfl) ?_)
  intro hQ
  refine JL.bin rfl rfl rfl .none rfl ?_
  refine JL.done hQ (JQ.go (JC.seq ?_))
  rcases ite_some hF with ⟨hc3553, hF⟩ | ⟨hc3553, hF⟩
  ·refine JC.cond_t (b := decide (x_3549 < (y6.length : Int))) rfl hc3553 ?_
   refine JC.skip (JQ.go (JC.seq (JC.block (JC.seq (JC.region (by rfl) ?_)))))
   intro hQ
   obtain ⟨y3554, hy3554, hF⟩ := bind_some hF
   refine JL.indexSL (R := (RSl 1 RInt)) sl_115 (SL.mono (RSl.mono RInt.mono) hs3550 hy6a_0) rfl hy3554 .none rfl ?_
   rintro b3555 o3556 cs3557 hc3558 - ⟨y3554_v0, rfl, hy3554_0⟩
   refine JL.loadH 0 az_23 rfl hc3558 rfl .none rfl ?_
   refine JL.assign .none rfl ?_
   refine JL.done hQ (JQ.go (JC.seq (JC.region (by rfl) ?_)))
   intro hQ
   refine JL.makeMap .none rfl ?_
   intro b3559
   refine JL.assign .none rfl ?_
   refine JL.done hQ (JQ.go (JC.seq (JC.seq (JC.region (by rfl) ?_))))
   intro hQ
   refine JL.move .none rfl ?_
   refine JL.rangeM mp_186 rfl (.own 1 rfl) hm_3548 .none rfl ?_
   intro r3560 sn3561 seen3562 cz3563 hI3564
   refine JL.done hQ (JQ.go ?_)
   obtain ⟨r3911, hlr3911, hKr3911⟩ := bind_some hF
   refine JC.join (fun (m_3909 : Mp) H3910 f bs gs => ∃ (em_3909 : Array MapEntry) (cm_3909 : Nat), f 0 = .pointer (some ⟨r_b, r_o, none⟩) ∧ f 8 = .map (some b3559) ∧ f 16 = y6a_v0 ∧ f 17 = .int .i64 (y6.length : Int) ∧ f 18 = .int .i64 x_3549 ∧ bs = [(b3559, .map em_3909 cm_3909)] ∧ gs = [] ∧ MR 1 ekI m_3909 em_3909 cm_3909 ∧ HSub H3550 H3910 ∧ m_3909 = r3911) ?_ ?_
   ·skip
    obtain ⟨rs4139, hper4140, hl4141⟩ := bind_some hlr3911
    refine JC.block (JC.mapLoop (srt_nodup hI3564.srt) hper4140 (fun (dd : Mp) (m_4137 : Mp) H4138 f bs gs => ∃ (em_4137 : Array MapEntry) (cm_4137 : Nat) (sn_r3560 : Nat) (se_r3560 : Array Nat) (cz_r3560 : Nat), f 0 = .pointer (some ⟨r_b, r_o, none⟩) ∧ f 7 = y3554_v0 ∧ f 8 = .map (some b3559) ∧ f 16 = y6a_v0 ∧ f 17 = .int .i64 (y6.length : Int) ∧ f 18 = .int .i64 x_3549 ∧ f 24 = .pointer (some ⟨r3560, 0, none⟩) ∧ bs = [(r3560, .mapIter (some bm_3548) sn_r3560 se_r3560 cz_r3560), (b3559, .map em_4137 cm_4137), (bm_3548, .map em_3548 cm_3548)] ∧ gs = [] ∧ MR 1 ekI m_4137 em_4137 cm_4137 ∧ IR 1 ekI m_3548 m_3548 em_3548 cm_3548 sn_r3560 se_r3560 cz_r3560 dd ∧ HSub H3550 H4138) ⟨#[], 0, sn3561, seen3562, cz3563, rfl, rfl, rfl, rfl, rfl, rfl, rfl, rfl, rfl, MR.empty, hI3564, (HSub.refl _)⟩ ?_)
    rintro dd m_4137 H4138 f bs gs ⟨em_4137, cm_4137, sn_r3560, se_r3560, cz_r3560, hf0, hf7, hf8, hf16, hf17, hf18, hf24, rfl, rfl, hm_4137, hI_r3560, hs4138⟩ hend4142 hgo4143
    refine (JC.norm (i := 0) hf0 (JC.norm (i := 7) hf7 (JC.norm (i := 8) hf8 (JC.norm (i := 16) hf16 (JC.norm (i := 17) hf17 (JC.norm (i := 18) hf18 (JC.norm (i := 24) hf24 ?_)))))))
    refine JC.seq (JC.region (by rfl) ?_)
    intro hQ
    refine JL.nextM 0 kt_3 rfl rfl (.own 2 rfl) hm_3548 hI_r3560 .none rfl ?_ ?_
    ·intro hp4144
     refine JL.extract rfl rfl .none rfl ?_
     refine JL.done hQ (JQ.go (JC.seq (JC.cond_f (b := false) rfl rfl ?_)))
     refine JC.exit (JQ.exit_then (JQ.exit_then (JQ.exit_block ?_)))
     have er4156 := hend4142 hp4144
     subst er4156
     obtain rfl := Option.some.inj hl4141
     refine JQ.mask [false, true, false] [] ?_
     exact JQ.join m_4137 ⟨em_4137, cm_4137, rfl, rfl, rfl, rfl, rfl, rfl, rfl, hm_4137, hs4138, rfl⟩
    ·rintro ⟨kl4145, v4146⟩ seen4147 cz4148 hx4149 hxm4150 hxn4151 hI4152 hE4153
     have kok4157 := (hm_3548.okk _ hxm4150)
     dsimp only at kok4157
     obtain ⟨k4158, rfl⟩ := Kok.one kok4157
     obtain ⟨sp4155, hst4154⟩ := hgo4143 ([k4158], v4146) hx4149 hxn4151
     have hF := hst4154
     rw [F_seams_ring_closed_s2] at hF
     refine JL.extract rfl rfl .none rfl ?_
     refine JL.done hQ (JQ.go (JC.seq (JC.cond_t (b := true) rfl rfl ?_)))
     refine JC.skip (JQ.go (JC.block (JC.seq (JC.region (by rfl) ?_))))
     intro hQ
     refine JL.entryIt (y := ([k4158], v4146)) 0 rfl rfl (.own 2 rfl) hm_3548 hE4153 .none rfl ?_
     refine JL.extract rfl rfl .none rfl ?_
     refine JL.assign .none rfl ?_
     refine JL.done hQ (JQ.go (JC.seq (JC.region (by rfl) ?_)))
     intro hQ
     refine JL.move .none rfl ?_
     refine JL.lenSL (R := RInt) ul_23 (SL.mono RInt.mono hs4138 hy3554_0) .none rfl ?_
     refine JL.move .none rfl ?_
     refine JL.done hQ (JQ.go ?_)
     obtain ⟨r4208, hlr4208, hKr4208⟩ := bind_some hF
     refine JC.join (fun (m_4206 : Mp) H4207 f bs gs => ∃ (em_4206 : Array MapEntry) (cm_4206 : Nat), f 0 = .pointer (some ⟨r_b, r_o, none⟩) ∧ f 7 = y3554_v0 ∧ f 8 = .map (some b3559) ∧ f 16 = y6a_v0 ∧ f 17 = .int .i64 (y6.length : Int) ∧ f 18 = .int .i64 x_3549 ∧ f 24 = .pointer (some ⟨r3560, 0, none⟩) ∧ bs = [(r3560, .mapIter (some bm_3548) sn_r3560 seen4147 cz4148), (b3559, .map em_4206 cm_4206), (bm_3548, .map em_3548 cm_3548)] ∧ gs = [] ∧ MR 1 ekI m_4206 em_4206 cm_4206 ∧ HSub H4138 H4207 ∧ m_4206 = r4208) ?_ ?_
     ·skip
      refine JC.block (JC.loop hlr4208 (fun (x : Int × Mp) H4241 f bs gs => match x with | (x_4239, m_4240) => ∃ (em_4240 : Array MapEntry) (cm_4240 : Nat), f 0 = .pointer (some ⟨r_b, r_o, none⟩) ∧ f 7 = y3554_v0 ∧ f 8 = .map (some b3559) ∧ f 9 = .int .i64 k4158 ∧ f 16 = y6a_v0 ∧ f 17 = .int .i64 (y6.length : Int) ∧ f 18 = .int .i64 x_3549 ∧ f 24 = .pointer (some ⟨r3560, 0, none⟩) ∧ f 29 = y3554_v0 ∧ f 30 = .int .i64 (y3554.length : Int) ∧ f 31 = .int .i64 x_4239 ∧ bs = [(r3560, .mapIter (some bm_3548) sn_r3560 seen4147 cz4148), (b3559, .map em_4240 cm_4240), (bm_3548, .map em_3548 cm_3548)] ∧ gs = [] ∧ MR 1 ekI m_4240 em_4240 cm_4240 ∧ HSub H4138 H4241) ⟨em_4137, cm_4137, rfl, rfl, rfl, rfl, rfl, rfl, rfl, rfl, rfl, rfl, rfl, rfl, rfl, hm_4137, (HSub.refl _)⟩ ?_)
      rintro ⟨x_4239, m_4240⟩ x4243 H4241 f bs gs ⟨em_4240, cm_4240, hf0, hf7, hf8, hf9, hf16, hf17, hf18, hf24, hf29, hf30, hf31, rfl, rfl, hm_4240, hs4241⟩ hF hr4242
      rw [F_seams_ring_closed_s3] at hF
      refine (JC.norm (i := 0) hf0 (JC.norm (i := 7) hf7 (JC.norm (i := 8) hf8 (JC.norm (i := 9) hf9 (JC.norm (i := 16) hf16 (JC.norm (i := 17) hf17 (JC.norm (i := 18) hf18 (JC.norm (i := 24) hf24 (JC.norm (i := 29) hf29 (JC.norm (i := 30) hf30 (JC.norm (i := 31) hf31 ?_)))))))))))
      refine JC.seq (JC.region (by rfl) ?_)
      intro hQ
      refine JL.bin rfl rfl rfl .none rfl ?_
      refine JL.done hQ (JQ.go (JC.seq ?_))
      rcases ite_some hF with ⟨hc4244, hF⟩ | ⟨hc4244, hF⟩
      ·refine JC.cond_t (b := decide (x_4239 < (y3554.length : Int))) rfl hc4244 ?_
       refine JC.skip (JQ.go (JC.seq (JC.block (JC.seq (JC.region (by rfl) ?_)))))
       intro hQ
       obtain ⟨y4245, hy4245, hF⟩ := bind_some hF
       refine JL.indexSL (R := RInt) sl_23 (SL.mono RInt.mono (HSub.trans hs4138 hs4241) hy3554_0) rfl hy4245 .none rfl ?_
       rintro b4246 o4247 cs4248 hc4249 - rfl
       refine JL.loadH 0 az_3 rfl hc4249 rfl .none rfl ?_
       refine JL.assign .none rfl ?_
       refine JL.done hQ (JQ.go (JC.region (by rfl) ?_))
       intro hQ
       refine JL.move .none rfl ?_
       refine JL.move .none rfl ?_
       refine JL.move .none rfl ?_
       refine JL.move .none rfl ?_
       refine JL.bin rfl rfl rfl .none rfl ?_
       obtain ⟨y4250, hy4250, hF⟩ := bind_some hF
       refine JL.callS (c_seams_ring_modulo n H4241 r r_v0 (SL.mono R_Bolt_mono (HSub.trans hs7 (HSub.trans hs3550 (HSub.trans hs4138 hs4241))) hr_0) r_v1 (SL.mono RInt.mono (HSub.trans hs7 (HSub.trans hs3550 (HSub.trans hs4138 hs4241))) hr_1) r_v3 (SL.mono R_Span_mono (HSub.trans hs7 (HSub.trans hs3550 (HSub.trans hs4138 hs4241))) hr_3) r_v4 (SL.mono RInt.mono (HSub.trans hs7 (HSub.trans hs3550 (HSub.trans hs4138 hs4241))) hr_4) r_v9 (SL.mono RInt.mono (HSub.trans hs7 (HSub.trans hs3550 (HSub.trans hs4138 hs4241))) hr_9) r_v10 (SL.mono RInt.mono (HSub.trans hs7 (HSub.trans hs3550 (HSub.trans hs4138 hs4241))) hr_10) r_v11 (SL.mono (RSl.mono RInt.mono) (HSub.trans hs7 (HSub.trans hs3550 (HSub.trans hs4138 hs4241))) hr_11) r_b r_o (Cells.mono (HSub.trans hs7 (HSub.trans hs3550 (HSub.trans hs4138 hs4241))) r_c) (w64 (k4158 + y4245)) y4250 hy4250) rfl en_112 .none rfl ?_
       obtain ⟨u4251, hu4251, hF⟩ := bind_some hF
       refine JL.lookupM (k := [y4250]) mp_186 kt_3 rfl (.own 1 rfl) hm_4240 rfl hu4251 .none rfl ?_
       refine JL.bin rfl rfl rfl .none rfl ?_
       obtain ⟨u4252, hu4252, hF⟩ := bind_some hF
       refine JL.updateM (k := [y4250]) 1 mp_186 kt_3 rfl rfl hm_4240 rfl hu4252 rfl .none rfl ?_
       intro es4253 ck4254 hm4255
       refine JL.done hQ (JQ.normal_block (JQ.go (JC.fresh (fun f => f 0 = .pointer (some ⟨r_b, r_o, none⟩) ∧ f 7 = y3554_v0 ∧ f 8 = .map (some b3559) ∧ f 9 = .int .i64 k4158 ∧ f 16 = y6a_v0 ∧ f 17 = .int .i64 (y6.length : Int) ∧ f 18 = .int .i64 x_3549 ∧ f 24 = .pointer (some ⟨r3560, 0, none⟩) ∧ f 29 = y3554_v0 ∧ f 30 = .int .i64 (y3554.length : Int) ∧ f 31 = .int .i64 x_4239) ⟨rfl, rfl, rfl, rfl, rfl, rfl, rfl, rfl, rfl, rfl, rfl⟩ ?_)))
       rintro f ⟨hf0, hf7, hf8, hf9, hf16, hf17, hf18, hf24, hf29, hf30, hf31⟩
       refine (JC.norm (i := 0) hf0 (JC.norm (i := 7) hf7 (JC.norm (i := 8) hf8 (JC.norm (i := 9) hf9 (JC.norm (i := 16) hf16 (JC.norm (i := 17) hf17 (JC.norm (i := 18) hf18 (JC.norm (i := 24) hf24 (JC.norm (i := 29) hf29 (JC.norm (i := 30) hf30 (JC.norm (i := 31) hf31 ?_)))))))))))
       refine JC.region (by rfl) ?_
       intro hQ
       refine JL.bin rfl rfl rfl .none rfl ?_
       refine JL.move .none rfl ?_
       refine JL.done hQ ?_
       obtain rfl := Option.some.inj hF
       exact JQ.next rfl ⟨es4253, ck4254, rfl, rfl, rfl, rfl, rfl, rfl, rfl, rfl, rfl, rfl, rfl, rfl, rfl, hm4255, hs4241⟩
      ·refine JC.cond_f (b := decide (x_4239 < (y3554.length : Int))) rfl hc4244 ?_
       refine JC.exit (JQ.exit_then (JQ.exit_then (JQ.exit_block ?_)))
       obtain rfl := Option.some.inj hF
       have ehr4242 := hr4242 _ rfl
       subst ehr4242
       exact JQ.join m_4240 ⟨em_4240, cm_4240, rfl, rfl, rfl, rfl, rfl, rfl, rfl, rfl, rfl, hm_4240, hs4241, rfl⟩
     ·rintro m_4206 H4207 f bs gs ⟨em_4206, cm_4206, hf0, hf7, hf8, hf16, hf17, hf18, hf24, rfl, rfl, hm_4206, hs4207, rfl⟩
      have hF := hKr4208
      try dsimp only at hF
      refine (JQ.norm (i := 0) hf0 (JQ.norm (i := 7) hf7 (JQ.norm (i := 8) hf8 (JQ.norm (i := 16) hf16 (JQ.norm (i := 17) hf17 (JQ.norm (i := 18) hf18 (JQ.norm (i := 24) hf24 ?_)))))))
      refine JQ.normal_block ?_
      obtain rfl := Option.some.inj hF
      exact JQ.mnext hx4149 hxn4151 hst4154 ⟨em_4206, cm_4206, sn_r3560, seen4147, cz4148, rfl, rfl, rfl, rfl, rfl, rfl, rfl, rfl, rfl, hm_4206, hI4152, (HSub.trans hs4138 hs4207)⟩
   ·rintro m_3909 H3910 f bs gs ⟨em_3909, cm_3909, hf0, hf8, hf16, hf17, hf18, rfl, rfl, hm_3909, hs3910, rfl⟩
    have hF := hKr3911
    try dsimp only at hF
    refine (JQ.norm (i := 0) hf0 (JQ.norm (i := 8) hf8 (JQ.norm (i := 16) hf16 (JQ.norm (i := 17) hf17 (JQ.norm (i := 18) hf18 ?_)))))
    refine JQ.go (JC.region (by rfl) ?_)
    intro hQ
    refine JL.move .none rfl ?_
    refine JL.assign .none rfl ?_
    refine JL.done hQ (JQ.normal_block (JQ.go (JC.region (by rfl) ?_)))
    intro hQ
    refine JL.bin rfl rfl rfl .none rfl ?_
    refine JL.move .none rfl ?_
    refine JL.done hQ ?_
    obtain rfl := Option.some.inj hF
    exact JQ.next rfl ⟨b3559, em_3909, cm_3909, rfl, rfl, rfl, rfl, rfl, rfl, rfl, hm_3909, (HSub.trans hs3550 hs3910)⟩
  ·refine JC.cond_f (b := decide (x_3549 < (y6.length : Int))) rfl hc3553 ?_
   refine JC.exit (JQ.exit_then (JQ.exit_then (JQ.exit_block ?_)))
   obtain rfl := Option.some.inj hF
   have ehr3551 := hr3551 _ rfl
   subst ehr3551
   exact JQ.join m_3548 ⟨bm_3548, em_3548, cm_3548, rfl, rfl, rfl, hm_3548, hs3550, rfl⟩
 ·rintro m_2131 H2132 f bs gs ⟨bm_2131, em_2131, cm_2131, hf5, rfl, rfl, hm_2131, hs2132, rfl⟩
  have hF := hKr2133
  try dsimp only at hF
  refine (JQ.norm (i := 5) hf5 ?_)
  refine JQ.go (JC.seq (JC.region (by rfl) ?_))
  intro hQ
  refine JL.move .none rfl ?_
  obtain ⟨u4257, hu4257, hF⟩ := bind_some hF
  refine JL.lookupM (k := [0]) mp_186 kt_3 rfl (.own 0 rfl) hm_2131 rfl hu4257 .none rfl ?_
  refine JL.bin rfl rfl rfl .none rfl ?_
  refine JL.assign .none rfl ?_
  refine JL.done hQ (JQ.go (JC.ret ?_))
  obtain rfl := Option.some.inj hF
  exact JQ.outS rfl (.tmp .nil) rfl
-- 17 ferrule/seams.Closest
noncomputable def F_seams_Closest_s1 (n : Nat) (w15 : seams_ring) : Int → Option (Int ⊕ Int)
 | near_46 => (F_seams_ring_closed n w15 near_46).bind fun y50 => if (!y50) = true then (some (Sum.inl (w64 (near_46 + 1)))) else (some (Sum.inr near_46))
noncomputable def F_seams_Closest (n : Nat) (f_ : Figure) : Option (Int × Int) :=
 (F_seams_open n f_ true).bind fun y2 => if (y2.2 != 0) = true then (some (0, y2.2)) else (y2.1.bind fun w15 => (loopO n (F_seams_Closest_s1 n w15) 0).bind fun near_35 => some (near_35, 0))
theorem c_seams_Closest (n : Nat) (H : Hp) (f_ : Figure) (f__v0 : Value) (hf__0 : SL H 4 R_Bolt f__v0 f_.Dome.Bolts) (f__v1 : Value) (hf__1 : SL H 1 RInt f__v1 f_.Dome.Gores) (f__v3 : Value) (hf__3 : SL H 2 R_Span f__v3 f_.Dome.Rounds) (f__v4 : Value) (hf__4 : SL H 1 RInt f__v4 f_.Dome.Widths) (f__v9 : Value) (hf__9 : SL H 1 RInt f__v9 f_.Starts) (f__v10 : Value) (hf__10 : SL H 1 RInt f__v10 f_.Times) (y : Int × Int) (hF : F_seams_Closest n f_ = some y) : SC Try.prog 17 [.agg [f__v0, f__v1, .int .i64 f_.Dome.Loss, f__v3, f__v4, .int .i64 f_.Dome.Slope, .int .i64 f_.Period, .int .i64 f_.Run, .int .i64 f_.Near, f__v9, f__v10].toArray] (.tuple [.int .i64 y.1, .int .i64 y.2].toArray) H := by
 rw [F_seams_Closest] at hF
 refine SC.of (N := 22) Try.func17 rfl rfl rfl fun w => ?_
 refine JC.seq (JC.region (by rfl) ?_)
 intro hQ
 refine JL.box (cs := [f__v0, f__v1, .int .i64 f_.Dome.Loss, f__v3, f__v4, .int .i64 f_.Dome.Slope, .int .i64 f_.Period, .int .i64 f_.Run, .int .i64 f_.Near, f__v9, f__v10]) rfl .none rfl ?_
 intro b1
 refine JL.assign .none rfl ?_
 refine JL.assign .none rfl ?_
 refine JL.done hQ (JQ.go (JC.seq (JC.region (by rfl) ?_)))
 intro hQ
 refine JL.loadOwn 0 az_28 rfl rfl rfl .none rfl ?_
 obtain ⟨y2, hy2, hF⟩ := bind_some hF
 refine JL.callH (c_seams_open n H f_ f__v0 hf__0 f__v1 hf__1 f__v3 hf__3 f__v4 hf__4 f__v9 hf__9 f__v10 hf__10 true y2 hy2) rfl en_56 .none rfl ?_
 rintro H3 vv4 hs3 ⟨y2a_v0, rfl, hy2a_0⟩
 refine JL.move .none rfl ?_
 refine JL.extract rfl rfl .none rfl ?_
 refine JL.extract rfl rfl .none rfl ?_
 refine JL.assign .none rfl ?_
 refine JL.assign .none rfl ?_
 refine JL.done hQ (JQ.go (JC.seq (JC.seq (JC.region (by rfl) ?_))))
 intro hQ
 refine JL.move .none rfl ?_
 refine JL.bin rfl rfl rfl .none rfl ?_
 refine JL.done hQ (JQ.go ?_)
 rcases ite_some hF with ⟨hc5, hF⟩ | ⟨hc5, hF⟩
 ·refine JC.cond_t (b := (y2.2 != 0)) rfl hc5 ?_
  refine JC.seq (JC.region (by rfl) ?_)
  intro hQ
  refine JL.move .none rfl ?_
  refine JL.assign .none rfl ?_
  refine JL.assign .none rfl ?_
  refine JL.done hQ (JQ.go (JC.fresh (fun f => f 2 = .int .i64 0 ∧ f 3 = .int .i64 y2.2) ⟨rfl, rfl⟩ ?_))
  rintro f ⟨hf2, hf3⟩
  refine (JC.norm (i := 2) hf2 (JC.norm (i := 3) hf3 ?_))
  refine JC.ret (JQ.ret_then ?_)
  obtain rfl := Option.some.inj hF
  exact JQ.outS rfl (.tmp (.tmp .nil)) rfl
 ·refine JC.cond_f (b := (y2.2 != 0)) rfl hc5 ?_
  refine JC.skip (JQ.go (JC.seq (JC.region (by rfl) ?_)))
  intro hQ
  refine JL.assign .none rfl ?_
  refine JL.done hQ (JQ.go (JC.fresh (fun f => f 2 = .int .i64 0 ∧ f 3 = .int .i64 0 ∧ f 4 = y2a_v0 ∧ f 6 = .int .i64 0) ⟨rfl, rfl, rfl, rfl⟩ ?_))
  rintro f ⟨hf2, hf3, hf4, hf6⟩
  refine (JC.norm (i := 2) hf2 (JC.norm (i := 3) hf3 (JC.norm (i := 4) hf4 (JC.norm (i := 6) hf6 ?_))))
  refine JC.seq ?_
  obtain ⟨w15, hw15, hF⟩ := bind_some hF
  obtain ⟨b16, o17, cs18, hv19, hc20, ⟨w15_v0, w15_v1, w15_v3, w15_v4, w15_v9, w15_v10, w15_v11, rfl, hw15_0, hw15_1, hw15_3, hw15_4, hw15_9, hw15_10, hw15_11⟩⟩ := (show PT H3 R_seams_ring y2a_v0 (some w15) by rw [← hw15]; exact hy2a_0)
  subst hv19
  obtain ⟨r37, hlr37, hKr37⟩ := bind_some hF
  refine JC.join (fun (near_35 : Int) H36 f bs gs => f 6 = .int .i64 near_35 ∧ bs = [] ∧ gs = [] ∧ HSub H3 H36 ∧ near_35 = r37) ?_ ?_
  ·skip
   refine JC.block (JC.mask [false] [] ?_)
   refine JC.loop hlr37 (fun (near_46 : Int) H47 f bs gs => f 4 = .pointer (some ⟨b16, o17, none⟩) ∧ f 6 = .int .i64 near_46 ∧ bs = [] ∧ gs = [] ∧ HSub H3 H47) ⟨rfl, rfl, rfl, rfl, (HSub.refl _)⟩ ?_
   rintro near_46 x49 H47 f bs gs ⟨hf4, hf6, rfl, rfl, hs47⟩ hF hr48
   rw [F_seams_Closest_s1] at hF
   refine (JC.norm (i := 4) hf4 (JC.norm (i := 6) hf6 ?_))
   refine JC.seq (JC.seq (JC.region (by rfl) ?_))
   intro hQ
   refine JL.move .none rfl ?_
   refine JL.move .none rfl ?_
   obtain ⟨y50, hy50, hF⟩ := bind_some hF
   refine JL.callS (c_seams_ring_closed n H47 w15 w15_v0 (SL.mono R_Bolt_mono hs47 hw15_0) w15_v1 (SL.mono RInt.mono hs47 hw15_1) w15_v3 (SL.mono R_Span_mono hs47 hw15_3) w15_v4 (SL.mono RInt.mono hs47 hw15_4) w15_v9 (SL.mono RInt.mono hs47 hw15_9) w15_v10 (SL.mono RInt.mono hs47 hw15_10) w15_v11 (SL.mono (RSl.mono RInt.mono) hs47 hw15_11) b16 o17 (Cells.mono hs47 hc20) near_46 y50 hy50) rfl en_62 .none rfl ?_
   refine JL.not rfl .none rfl ?_
   refine JL.done hQ (JQ.go ?_)
   rcases ite_some hF with ⟨hc51, hF⟩ | ⟨hc51, hF⟩
   ·refine JC.cond_t (b := (!y50)) rfl hc51 ?_
    refine JC.skip (JQ.go (JC.block (JC.region (by rfl) ?_)))
    intro hQ
    refine JL.move .none rfl ?_
    refine JL.bin rfl rfl rfl .none rfl ?_
    refine JL.assign .none rfl ?_
    refine JL.done hQ (JQ.normal_block ?_)
    obtain rfl := Option.some.inj hF
    exact JQ.next rfl ⟨rfl, rfl, rfl, rfl, hs47⟩
   ·refine JC.cond_f (b := (!y50)) rfl hc51 ?_
    refine JC.exit (JQ.exit_then (JQ.exit_then (JQ.exit_block ?_)))
    obtain rfl := Option.some.inj hF
    have ehr48 := hr48 _ rfl
    subst ehr48
    exact JQ.join near_46 ⟨rfl, rfl, rfl, hs47, rfl⟩
  ·rintro near_35 H36 f bs gs ⟨hf6, rfl, rfl, hs36, rfl⟩
   have hF := hKr37
   try dsimp only at hF
   refine (JQ.norm (i := 6) hf6 ?_)
   refine JQ.go (JC.seq (JC.region (by rfl) ?_))
   intro hQ
   refine JL.move .none rfl ?_
   refine JL.assign .none rfl ?_
   refine JL.assign .none rfl ?_
   refine JL.done hQ (JQ.go (JC.ret ?_))
   obtain rfl := Option.some.inj hF
   exact JQ.outS rfl (.tmp (.tmp .nil)) rfl
-- 11 ferrule/ferruletop.sewn
noncomputable def F_top_sewn (n : Nat)  : Option Bool :=
 (F_law02_Example n).bind fun y1 => (F_cloth_Round n y1 2).bind fun y4 => (F_law04_Example n).bind fun y6 => (F_seams_Closest n y6).bind fun y9 => some ((((y4.2 == 0) && (y9.2 == 0)) && ((y4.1.Low == 802) && (y4.1.High == 808))) && (y9.1 == 2))
theorem c_top_sewn (n : Nat) (H : Hp)  (y : Bool) (hF : F_top_sewn n = some y) : SC Try.prog 11 [] (.bool y) H := by
 rw [F_top_sewn] at hF
 refine SC.of (N := 30) Try.func11 rfl rfl rfl fun w => ?_
 refine JC.seq (JC.region (by rfl) ?_)
 intro hQ
 refine JL.assign .none rfl ?_
 refine JL.done hQ (JQ.go (JC.seq (JC.region (by rfl) ?_)))
 intro hQ
 obtain ⟨y1, hy1, hF⟩ := bind_some hF
 refine JL.callH (c_law02_Example n H y1 hy1) rfl en_52 .none rfl ?_
 rintro H2 vv3 hs2 ⟨y1a_v0, y1a_v1, y1a_v3, y1a_v4, rfl, hy1a_0, hy1a_1, hy1a_3, hy1a_4⟩
 obtain ⟨y4, hy4, hF⟩ := bind_some hF
 refine JL.callS (c_cloth_Round n H2 y1 y1a_v0 hy1a_0 y1a_v1 hy1a_1 y1a_v3 hy1a_3 y1a_v4 hy1a_4 2 y4 hy4) rfl en_15 .none rfl ?_
 refine JL.move .none rfl ?_
 refine JL.extract rfl rfl .none rfl ?_
 refine JL.extract rfl rfl .none rfl ?_
 refine JL.alloc ze_39 .none rfl ?_
 intro b5
 refine JL.storeOwn 0 (cs := [.int .i64 y4.1.Low, .int .i64 y4.1.High]) az_39 rfl rfl rfl (one_cons rfl (one_cons rfl one_nil)) rfl rfl .none ?_
 refine JL.assign .none rfl ?_
 refine JL.done hQ (JQ.go (JC.seq (JC.region (by rfl) ?_)))
 intro hQ
 obtain ⟨y6, hy6, hF⟩ := bind_some hF
 refine JL.callH (c_law04_Example n H2 y6 hy6) rfl en_53 .none rfl ?_
 rintro H7 vv8 hs7 ⟨y6a_v0, y6a_v1, y6a_v3, y6a_v4, y6a_v9, y6a_v10, rfl, hy6a_0, hy6a_1, hy6a_3, hy6a_4, hy6a_9, hy6a_10⟩
 obtain ⟨y9, hy9, hF⟩ := bind_some hF
 refine JL.callS (c_seams_Closest n H7 y6 y6a_v0 hy6a_0 y6a_v1 hy6a_1 y6a_v3 hy6a_3 y6a_v4 hy6a_4 y6a_v9 hy6a_9 y6a_v10 hy6a_10 y9 hy9) rfl en_17 .none rfl ?_
 refine JL.move .none rfl ?_
 refine JL.extract rfl rfl .none rfl ?_
 refine JL.extract rfl rfl .none rfl ?_
 refine JL.assign .none rfl ?_
 refine JL.assign .none rfl ?_
 refine JL.done hQ (JQ.go (JC.fresh (fun f => f 0 = .bool false ∧ f 1 = .pointer (some ⟨b5, 0, none⟩) ∧ f 2 = .int .i64 y4.2 ∧ f 3 = .int .i64 y9.1 ∧ f 4 = .int .i64 y9.2) ⟨rfl, rfl, rfl, rfl, rfl⟩ ?_))
 rintro f ⟨hf0, hf1, hf2, hf3, hf4⟩
 refine (JC.norm (i := 0) hf0 (JC.norm (i := 1) hf1 (JC.norm (i := 2) hf2 (JC.norm (i := 3) hf3 (JC.norm (i := 4) hf4 ?_)))))
 refine JC.seq (JC.region (by rfl) ?_)
 intro hQ
 refine JL.move .none rfl ?_
 refine JL.bin rfl rfl rfl .none rfl ?_
 refine JL.move .none rfl ?_
 refine JL.cut 3 (fun f => f 1 = .pointer (some ⟨b5, 0, none⟩) ∧ f 3 = .int .i64 y9.1 ∧ f 20 = .bool ((y4.2 == 0) && (y9.2 == 0))) ?_ ?_
 ·intro hJ10
  rcases bcases (y4.2 == 0) with hc11 | hc11
  ·skip
   refine JL.move (.some rfl rfl rfl hc11) rfl ?_
   refine JL.bin rfl rfl rfl (.some rfl rfl rfl hc11) rfl ?_
   refine JL.pick_t (b := (y4.2 == 0)) rfl hc11 .none rfl ?_
   exact hJ10 _ ⟨rfl, rfl, and_t hc11 rfl⟩
  ·skip
   refine JL.skip (.bool rfl rfl rfl hc11) rfl ?_
   refine JL.skip (.bool rfl rfl rfl hc11) rfl ?_
   refine JL.pick_f (b := (y4.2 == 0)) rfl hc11 .none rfl ?_
   exact hJ10 _ ⟨rfl, rfl, and_f hc11 rfl⟩
 ·rintro f ⟨hf1, hf3, hf20⟩
  refine (JL.norm (i := 1) hf1 (JL.norm (i := 3) hf3 (JL.norm (i := 20) hf20 ?_)))
  refine JL.move .none rfl ?_
  refine JL.cut 4 (fun f => f 3 = .int .i64 y9.1 ∧ f 25 = .bool (((y4.2 == 0) && (y9.2 == 0)) && ((y4.1.Low == 802) && (y4.1.High == 808)))) ?_ ?_
  ·intro hJ12
   rcases bcases ((y4.2 == 0) && (y9.2 == 0)) with hc13 | hc13
   ·skip
    refine JL.loadOwn 0 az_39 rfl rfl rfl (.some rfl rfl rfl hc13) rfl ?_
    refine JL.build (l := [.int .i64 802, .int .i64 808]) (by kernel_rfl) (.some rfl rfl rfl hc13) rfl ?_
    refine JL.eqAgg eqg_39 rfl rfl (fun w => eqa_39 y4.1.Low y4.1.High 802 808 w) (.some rfl rfl rfl hc13) rfl ?_
    refine JL.pick_t (b := ((y4.2 == 0) && (y9.2 == 0))) rfl hc13 .none rfl ?_
    exact hJ12 _ ⟨rfl, and_t hc13 rfl⟩
   ·skip
    refine JL.skip (.bool rfl rfl rfl hc13) rfl ?_
    refine JL.skip (.bool rfl rfl rfl hc13) rfl ?_
    refine JL.skip (.bool rfl rfl rfl hc13) rfl ?_
    refine JL.pick_f (b := ((y4.2 == 0) && (y9.2 == 0))) rfl hc13 .none rfl ?_
    exact hJ12 _ ⟨rfl, and_f hc13 rfl⟩
  ·rintro f ⟨hf3, hf25⟩
   refine (JL.norm (i := 3) hf3 (JL.norm (i := 25) hf25 ?_))
   refine JL.move .none rfl ?_
   refine JL.cut 3 (fun f => f 29 = .bool ((((y4.2 == 0) && (y9.2 == 0)) && ((y4.1.Low == 802) && (y4.1.High == 808))) && (y9.1 == 2))) ?_ ?_
   ·intro hJ14
    rcases bcases (((y4.2 == 0) && (y9.2 == 0)) && ((y4.1.Low == 802) && (y4.1.High == 808))) with hc15 | hc15
    ·skip
     refine JL.move (.some rfl rfl rfl hc15) rfl ?_
     refine JL.bin rfl rfl rfl (.some rfl rfl rfl hc15) rfl ?_
     refine JL.pick_t (b := (((y4.2 == 0) && (y9.2 == 0)) && ((y4.1.Low == 802) && (y4.1.High == 808)))) rfl hc15 .none rfl ?_
     exact hJ14 _ (and_t hc15 rfl)
    ·skip
     refine JL.skip (.bool rfl rfl rfl hc15) rfl ?_
     refine JL.skip (.bool rfl rfl rfl hc15) rfl ?_
     refine JL.pick_f (b := (((y4.2 == 0) && (y9.2 == 0)) && ((y4.1.Low == 802) && (y4.1.High == 808)))) rfl hc15 .none rfl ?_
     exact hJ14 _ (and_f hc15 rfl)
   ·rintro f hf29
    refine (JL.norm (i := 29) hf29 ?_)
    refine JL.assign .none rfl ?_
    refine JL.done hQ (JQ.go (JC.ret ?_))
    obtain rfl := Option.some.inj hF
    exact JQ.outS rfl (.tmp .nil) rfl
-- 113 (*ferrule/seams.ring).next
def F_seams_ring_next (n : Nat) (r : seams_ring) (gore : Int) : Option Int :=
 (nz (r.moves.length : Int)).bind fun _ => some ((w64 (gore + 1)).tmod (r.moves.length : Int))
theorem c_seams_ring_next (n : Nat) (H : Hp) (r : seams_ring) (r_v0 : Value) (hr_0 : SL H 4 R_Bolt r_v0 r.Figure.Dome.Bolts) (r_v1 : Value) (hr_1 : SL H 1 RInt r_v1 r.Figure.Dome.Gores) (r_v3 : Value) (hr_3 : SL H 2 R_Span r_v3 r.Figure.Dome.Rounds) (r_v4 : Value) (hr_4 : SL H 1 RInt r_v4 r.Figure.Dome.Widths) (r_v9 : Value) (hr_9 : SL H 1 RInt r_v9 r.Figure.Starts) (r_v10 : Value) (hr_10 : SL H 1 RInt r_v10 r.Figure.Times) (r_v11 : Value) (hr_11 : SL H 1 (RSl 1 RInt) r_v11 r.moves) (r_b r_o : Nat) (r_c : Cells H r_b r_o [r_v0, r_v1, .int .i64 r.Figure.Dome.Loss, r_v3, r_v4, .int .i64 r.Figure.Dome.Slope, .int .i64 r.Figure.Period, .int .i64 r.Figure.Run, .int .i64 r.Figure.Near, r_v9, r_v10, r_v11]) (gore : Int) (y : Int) (hF : F_seams_ring_next n r gore = some y) : SC Try.prog 113 [.pointer (some ⟨r_b, r_o, none⟩), .int .i64 gore] (.int .i64 y) H := by
 rw [F_seams_ring_next] at hF
 refine SC.of (N := 13) Try.func113 rfl rfl rfl fun w => ?_
 refine JC.seq (JC.region (by rfl) ?_)
 intro hQ
 refine JL.assign .none rfl ?_
 refine JL.done hQ (JQ.go (JC.seq (JC.region (by rfl) ?_)))
 intro hQ
 refine JL.move .none rfl ?_
 refine JL.bin rfl rfl rfl .none rfl ?_
 refine JL.move .none rfl ?_
 refine JL.nilCheck rfl .none rfl ?_
 refine JL.fieldAddr fo_184_1 rfl .none rfl ?_
 refine JL.loadH 11 az_115 rfl r_c rfl .none rfl ?_
 refine JL.lenSL (R := (RSl 1 RInt)) ul_115 hr_11 .none rfl ?_
 obtain ⟨u1, hu1, hF⟩ := bind_some hF
 refine JL.div rfl rfl (nz_some hu1) rfl .none rfl ?_
 refine JL.assign .none rfl ?_
 refine JL.done hQ (JQ.go (JC.ret ?_))
 obtain rfl := Option.some.inj hF
 exact JQ.outS rfl (.tmp .nil) rfl
-- 58 (*ferrule/seams.ring).own
def F_seams_ring_own (n : Nat) (r : seams_ring) (seam : Int) : Option Int :=
 (F_seams_ring_next n r seam).bind fun y14 => (geti r.Figure.Starts y14).bind fun y15 => (geti r.Figure.Starts seam).bind fun y20 => (F_seams_ring_modulo n r (w64 (y15 - y20))).bind fun y25 => (F_seams_ring_meets n r seam y25 r.Figure.Near).bind fun y26 => some y26
theorem c_seams_ring_own (n : Nat) (H : Hp) (r : seams_ring) (r_v0 : Value) (hr_0 : SL H 4 R_Bolt r_v0 r.Figure.Dome.Bolts) (r_v1 : Value) (hr_1 : SL H 1 RInt r_v1 r.Figure.Dome.Gores) (r_v3 : Value) (hr_3 : SL H 2 R_Span r_v3 r.Figure.Dome.Rounds) (r_v4 : Value) (hr_4 : SL H 1 RInt r_v4 r.Figure.Dome.Widths) (r_v9 : Value) (hr_9 : SL H 1 RInt r_v9 r.Figure.Starts) (r_v10 : Value) (hr_10 : SL H 1 RInt r_v10 r.Figure.Times) (r_v11 : Value) (hr_11 : SL H 1 (RSl 1 RInt) r_v11 r.moves) (r_b r_o : Nat) (r_c : Cells H r_b r_o [r_v0, r_v1, .int .i64 r.Figure.Dome.Loss, r_v3, r_v4, .int .i64 r.Figure.Dome.Slope, .int .i64 r.Figure.Period, .int .i64 r.Figure.Run, .int .i64 r.Figure.Near, r_v9, r_v10, r_v11]) (seam : Int) (y : Int) (hF : F_seams_ring_own n r seam = some y) : SC Try.prog 58 [.pointer (some ⟨r_b, r_o, none⟩), .int .i64 seam] (.int .i64 y) H := by
 rw [F_seams_ring_own] at hF
 refine SC.of (N := 34) Try.func58 rfl rfl rfl fun w => ?_
 refine JC.seq (JC.region (by rfl) ?_)
 intro hQ
 refine JL.assign .none rfl ?_
 refine JL.done hQ (JQ.go (JC.seq (JC.draw (by rfl) mo_ (by kernel_rfl) ?_)))
 intro hQ
 refine JL.move .none rfl ?_
 refine JL.move .none rfl ?_
 refine JL.move .none rfl ?_
 refine JL.move .none rfl ?_
 refine JL.nilCheck rfl .none rfl ?_
 refine JL.fieldAddr fo_184_0 rfl .none rfl ?_
 refine JL.fieldAddr fo_28_4 rfl .none rfl ?_
 refine JL.loadH 9 az_23 rfl r_c rfl .none rfl ?_
 refine JL.move .none rfl ?_
 refine JL.move .none rfl ?_
 obtain ⟨y14, hy14, hF⟩ := bind_some hF
 refine JL.callS (c_seams_ring_next n H r r_v0 hr_0 r_v1 hr_1 r_v3 hr_3 r_v4 hr_4 r_v9 hr_9 r_v10 hr_10 r_v11 hr_11 r_b r_o r_c seam y14 hy14) rfl en_113 .none rfl ?_
 obtain ⟨y15, hy15, hF⟩ := bind_some hF
 refine JL.indexSL (R := RInt) sl_23 hr_9 rfl hy15 .none rfl ?_
 rintro b16 o17 cs18 hc19 - rfl
 refine JL.loadH 0 az_3 rfl hc19 rfl .none rfl ?_
 refine JL.move .none rfl ?_
 refine JL.nilCheck rfl .none rfl ?_
 refine JL.fieldAddr fo_184_0 rfl .none rfl ?_
 refine JL.fieldAddr fo_28_4 rfl .none rfl ?_
 refine JL.loadH 9 az_23 rfl r_c rfl .none rfl ?_
 refine JL.move .none rfl ?_
 obtain ⟨y20, hy20, hF⟩ := bind_some hF
 refine JL.indexSL (R := RInt) sl_23 hr_9 rfl hy20 .none rfl ?_
 rintro b21 o22 cs23 hc24 - rfl
 refine JL.loadH 0 az_3 rfl hc24 rfl .none rfl ?_
 refine JL.bin rfl rfl rfl .none rfl ?_
 obtain ⟨y25, hy25, hF⟩ := bind_some hF
 refine JL.callS (c_seams_ring_modulo n H r r_v0 hr_0 r_v1 hr_1 r_v3 hr_3 r_v4 hr_4 r_v9 hr_9 r_v10 hr_10 r_v11 hr_11 r_b r_o r_c (w64 (y15 - y20)) y25 hy25) rfl en_112 .none rfl ?_
 refine JL.move .none rfl ?_
 refine JL.nilCheck rfl .none rfl ?_
 refine JL.fieldAddr fo_184_0 rfl .none rfl ?_
 refine JL.fieldAddr fo_28_3 rfl .none rfl ?_
 refine JL.loadH 8 az_3 rfl r_c rfl .none rfl ?_
 obtain ⟨y26, hy26, hF⟩ := bind_some hF
 refine JL.callS (c_seams_ring_meets n H r r_v0 hr_0 r_v1 hr_1 r_v3 hr_3 r_v4 hr_4 r_v9 hr_9 r_v10 hr_10 r_v11 hr_11 r_b r_o r_c seam y25 r.Figure.Near y26 hy26) rfl en_111 .none rfl ?_
 refine JL.assign .none rfl ?_
 refine JL.doneQ hQ ?_
 refine JQ.go (JC.fresh (fun f => f 4 = .int .i64 y26) rfl ?_)
 rintro f hf4
 refine (JC.norm (i := 4) hf4 ?_)
 refine JC.ret ?_
 obtain rfl := Option.some.inj hF
 exact JQ.outS rfl (.tmp .nil) rfl
-- 14 ferrule/seams.Meets
def F_seams_Meets (n : Nat) (f_ : Figure) (seam : Int) : Option (Int × Int) :=
 (F_seams_within n seam 0 (w64 ((f_.Dome.Gores.length : Int) - 1))).bind fun y4 => (F_seams_open n f_ y4).bind fun y5 => if (y5.2 != 0) = true then (some (0, y5.2)) else (y5.1.bind fun w013 => (F_seams_ring_own n w013 seam).bind fun y19 => some (y19, 0))
theorem c_seams_Meets (n : Nat) (H : Hp) (f_ : Figure) (f__v0 : Value) (hf__0 : SL H 4 R_Bolt f__v0 f_.Dome.Bolts) (f__v1 : Value) (hf__1 : SL H 1 RInt f__v1 f_.Dome.Gores) (f__v3 : Value) (hf__3 : SL H 2 R_Span f__v3 f_.Dome.Rounds) (f__v4 : Value) (hf__4 : SL H 1 RInt f__v4 f_.Dome.Widths) (f__v9 : Value) (hf__9 : SL H 1 RInt f__v9 f_.Starts) (f__v10 : Value) (hf__10 : SL H 1 RInt f__v10 f_.Times) (seam : Int) (y : Int × Int) (hF : F_seams_Meets n f_ seam = some y) : SC Try.prog 14 [.agg [f__v0, f__v1, .int .i64 f_.Dome.Loss, f__v3, f__v4, .int .i64 f_.Dome.Slope, .int .i64 f_.Period, .int .i64 f_.Run, .int .i64 f_.Near, f__v9, f__v10].toArray, .int .i64 seam] (.tuple [.int .i64 y.1, .int .i64 y.2].toArray) H := by
 rw [F_seams_Meets] at hF
 refine SC.of (N := 26) Try.func14 rfl rfl rfl fun w => ?_
 refine JC.seq (JC.region (by rfl) ?_)
 intro hQ
 refine JL.box (cs := [f__v0, f__v1, .int .i64 f_.Dome.Loss, f__v3, f__v4, .int .i64 f_.Dome.Slope, .int .i64 f_.Period, .int .i64 f_.Run, .int .i64 f_.Near, f__v9, f__v10]) rfl .none rfl ?_
 intro b1
 refine JL.assign .none rfl ?_
 refine JL.assign .none rfl ?_
 refine JL.done hQ (JQ.go (JC.seq ?_))
 obtain ⟨y4, hy4, hF⟩ := bind_some hF
 obtain ⟨y5, hy5, hF⟩ := bind_some hF
 refine JC.mixed 14 14 #[false, false, false, false, false, false, false, false, false, false, false, false, false, false] [(b1, .cells [f__v0, f__v1, .int .i64 f_.Dome.Loss, f__v3, f__v4, .int .i64 f_.Dome.Slope, .int .i64 f_.Period, .int .i64 f_.Run, .int .i64 f_.Near, f__v9, f__v10].toArray 28)] (by rfl) mo_ (by kernel_rfl) (by kernel_rfl) ?_
 intro hQ hE
 refine JA.take 0 (listed' := #[true, false, false, false, false, false, false, false, false, false, false, false, false, false]) hQ rfl (by kernel_rfl) (by kernel_rfl) (by kernel_rfl) (by kernel_rfl) (by kernel_rfl) hE (HSub.refl _) (.cons_cons _ (List.nil_sublist _)) ?_
 refine JL.loadOwn 0 az_28 rfl rfl rfl .none rfl ?_
 refine JA.cont ?_
 refine JA.take 1 (listed' := #[true, true, false, false, false, false, false, false, false, false, false, false, false, false]) hQ rfl (by kernel_rfl) (by kernel_rfl) (by kernel_rfl) (by kernel_rfl) (by kernel_rfl) hE (HSub.refl _) (.cons_cons _ (List.nil_sublist _)) ?_
 refine JL.move .none rfl ?_
 refine JA.cont ?_
 refine JA.take 2 (listed' := #[true, true, true, false, false, false, false, false, false, false, false, false, false, false]) hQ rfl (by kernel_rfl) (by kernel_rfl) (by kernel_rfl) (by kernel_rfl) (by kernel_rfl) hE (HSub.refl _) (.cons_cons _ (List.nil_sublist _)) ?_
 refine JL.fieldAddr fo_28_0 rfl .none rfl ?_
 refine JA.cont ?_
 refine JA.take 3 (listed' := #[true, true, true, true, false, false, false, false, false, false, false, false, false, false]) hQ rfl (by kernel_rfl) (by kernel_rfl) (by kernel_rfl) (by kernel_rfl) (by kernel_rfl) hE (HSub.refl _) (.cons_cons _ (List.nil_sublist _)) ?_
 refine JL.fieldAddr fo_26_1 rfl .none rfl ?_
 refine JA.cont ?_
 refine JA.take 4 (listed' := #[true, true, true, true, true, false, false, false, false, false, false, false, false, false]) hQ rfl (by kernel_rfl) (by kernel_rfl) (by kernel_rfl) (by kernel_rfl) (by kernel_rfl) hE (HSub.refl _) (.cons_cons _ (List.nil_sublist _)) ?_
 refine JL.loadOwn 0 az_23 rfl rfl rfl .none rfl ?_
 refine JA.cont ?_
 refine JA.take 5 (listed' := #[true, true, true, true, true, true, false, false, false, false, false, false, false, false]) hQ rfl (by kernel_rfl) (by kernel_rfl) (by kernel_rfl) (by kernel_rfl) (by kernel_rfl) hE (HSub.refl _) (.cons_cons _ (List.nil_sublist _)) ?_
 refine JL.lenSL (R := RInt) ul_23 hf__1 .none rfl ?_
 refine JA.cont ?_
 refine JA.take 6 (listed' := #[true, true, true, true, true, true, true, false, false, false, false, false, false, false]) hQ rfl (by kernel_rfl) (by kernel_rfl) (by kernel_rfl) (by kernel_rfl) (by kernel_rfl) hE (HSub.refl _) (.cons_cons _ (List.nil_sublist _)) ?_
 refine JL.bin rfl rfl rfl .none rfl ?_
 refine JA.cont ?_
 refine JA.many [7] (by kernel_rfl) (by simp) (all_one ⟨_, #[true, true, true, true, true, true, true, true, false, false, false, false, false, false], rfl, (by kernel_rfl), ?_⟩)
 refine JL.callS (c_seams_within n H seam 0 (w64 ((f_.Dome.Gores.length : Int) - 1)) y4 hy4) rfl en_57 .none rfl ?_
 refine JA.after hE (HSub.refl _) (.cons_cons _ (List.nil_sublist _)) ?_
 refine JA.many [8] (by kernel_rfl) (by simp) (all_one ⟨_, #[true, true, true, true, true, true, true, true, true, false, false, false, false, false], rfl, (by kernel_rfl), ?_⟩)
 refine JL.callH (c_seams_open n H f_ f__v0 hf__0 f__v1 hf__1 f__v3 hf__3 f__v4 hf__4 f__v9 hf__9 f__v10 hf__10 y4 y5 hy5) rfl en_56 .none rfl ?_
 rintro H10 vv11 hs10 ⟨y5a_v0, rfl, hy5a_0⟩
 refine JA.after hE hs10 (.cons_cons _ (List.nil_sublist _)) ?_
 refine JA.take 9 (listed' := #[true, true, true, true, true, true, true, true, true, true, false, false, false, false]) hQ rfl (by kernel_rfl) (by kernel_rfl) (by kernel_rfl) (by kernel_rfl) (by kernel_rfl) hE hs10 (.cons_cons _ (List.nil_sublist _)) ?_
 refine JL.move .none rfl ?_
 refine JA.cont ?_
 refine JA.take 10 (listed' := #[true, true, true, true, true, true, true, true, true, true, true, false, false, false]) hQ rfl (by kernel_rfl) (by kernel_rfl) (by kernel_rfl) (by kernel_rfl) (by kernel_rfl) hE hs10 (.cons_cons _ (List.nil_sublist _)) ?_
 refine JL.extract rfl rfl .none rfl ?_
 refine JA.cont ?_
 refine JA.take 11 (listed' := #[true, true, true, true, true, true, true, true, true, true, true, true, false, false]) hQ rfl (by kernel_rfl) (by kernel_rfl) (by kernel_rfl) (by kernel_rfl) (by kernel_rfl) hE hs10 (.cons_cons _ (List.nil_sublist _)) ?_
 refine JL.extract rfl rfl .none rfl ?_
 refine JA.cont ?_
 refine JA.take 12 (listed' := #[true, true, true, true, true, true, true, true, true, true, true, true, true, false]) hQ rfl (by kernel_rfl) (by kernel_rfl) (by kernel_rfl) (by kernel_rfl) (by kernel_rfl) hE hs10 (.cons_cons _ (List.nil_sublist _)) ?_
 refine JL.assign .none rfl ?_
 refine JA.cont ?_
 refine JA.take 13 (listed' := #[true, true, true, true, true, true, true, true, true, true, true, true, true, true]) hQ rfl (by kernel_rfl) (by kernel_rfl) (by kernel_rfl) (by kernel_rfl) (by kernel_rfl) hE hs10 (.cons_cons _ (List.nil_sublist _)) ?_
 refine JL.assign .none rfl ?_
 refine JA.cont ?_
 refine JA.done hQ (by kernel_rfl) ?_
 refine JQ.go (JC.fresh (fun f => f 1 = .int .i64 seam ∧ f 4 = .int .i64 0 ∧ f 5 = .int .i64 0 ∧ f 6 = y5a_v0 ∧ f 7 = .int .i64 y5.2) ⟨rfl, rfl, rfl, rfl, rfl⟩ ?_)
 rintro f ⟨hf1, hf4, hf5, hf6, hf7⟩
 refine (JC.norm (i := 1) hf1 (JC.norm (i := 4) hf4 (JC.norm (i := 5) hf5 (JC.norm (i := 6) hf6 (JC.norm (i := 7) hf7 ?_)))))
 refine JC.seq (JC.seq (JC.region (by rfl) ?_))
 intro hQ
 refine JL.move .none rfl ?_
 refine JL.bin rfl rfl rfl .none rfl ?_
 refine JL.done hQ (JQ.go ?_)
 rcases ite_some hF with ⟨hc12, hF⟩ | ⟨hc12, hF⟩
 ·refine JC.cond_t (b := (y5.2 != 0)) rfl hc12 ?_
  refine JC.seq (JC.region (by rfl) ?_)
  intro hQ
  refine JL.move .none rfl ?_
  refine JL.assign .none rfl ?_
  refine JL.assign .none rfl ?_
  refine JL.done hQ (JQ.go (JC.ret (JQ.ret_then ?_)))
  obtain rfl := Option.some.inj hF
  exact JQ.outS rfl (.tmp (.tmp .nil)) rfl
 ·refine JC.cond_f (b := (y5.2 != 0)) rfl hc12 ?_
  refine JC.skip (JQ.go (JC.seq (JC.region (by rfl) ?_)))
  intro hQ
  refine JL.move .none rfl ?_
  refine JL.move .none rfl ?_
  obtain ⟨w013, hw013, hF⟩ := bind_some hF
  obtain ⟨b14, o15, cs16, hv17, hc18, ⟨w013_v0, w013_v1, w013_v3, w013_v4, w013_v9, w013_v10, w013_v11, rfl, hw013_0, hw013_1, hw013_3, hw013_4, hw013_9, hw013_10, hw013_11⟩⟩ := (show PT H10 R_seams_ring y5a_v0 (some w013) by rw [← hw013]; exact hy5a_0)
  subst hv17
  obtain ⟨y19, hy19, hF⟩ := bind_some hF
  refine JL.callS (c_seams_ring_own n H10 w013 w013_v0 hw013_0 w013_v1 hw013_1 w013_v3 hw013_3 w013_v4 hw013_4 w013_v9 hw013_9 w013_v10 hw013_10 w013_v11 hw013_11 b14 o15 hc18 seam y19 hy19) rfl en_58 .none rfl ?_
  refine JL.assign .none rfl ?_
  refine JL.assign .none rfl ?_
  refine JL.done hQ (JQ.go (JC.ret ?_))
  obtain rfl := Option.some.inj hF
  exact JQ.outS rfl (.tmp (.tmp .nil)) rfl
end Go.Proofs.Yteihdclpiekmaaa
end
section
set_option maxRecDepth 100000
set_option maxHeartbeats 40000000
namespace Go.Proofs.Yteihdclpiekmaaa
open Go Go.RowKit Go.Dec
set_option linter.unusedVariables false
-- 115 (*ferrule/cloth.tent).sums
noncomputable def F_cloth_tent_sums_s1 (n : Nat) (t : cloth_tent) : Int × Mp → Option ((Int × Mp) ⊕ Mp)
 | (x_77, m_78) => if decide (x_77 < (t.Dome.Gores.length : Int)) = true then ((geti t.Dome.Gores x_77).bind fun y83 => (kok 1 [y83]).bind fun _ => (kok 1 [y83]).bind fun _ => some (Sum.inl ((w64 (x_77 + 1)), (mput m_78 [y83] (w64 ((mget m_78 [y83]) + 1)))))) else (some (Sum.inr m_78))
noncomputable def F_cloth_tent_sums_s4 (n : Nat) (t : cloth_tent) (width : Int) (v3839 : Int) (k4476 : Int) (y4477 : List Int) : Int × Mp → Option ((Int × Mp) ⊕ Mp)
 | (x_4562, m_4563) => if decide (x_4562 < (y4477.length : Int)) = true then ((geti y4477 x_4562).bind fun y4568 => (F_cloth_pull n (w64 (width - (w64 (2 * t.Dome.Loss)))) y4568).bind fun y4573 => (kok 1 [(w64 (k4476 + (w64 (v3839 * y4573))))]).bind fun _ => (kok 1 [(w64 (k4476 + (w64 (v3839 * y4573))))]).bind fun _ => some (Sum.inl ((w64 (x_4562 + 1)), (mput m_4563 [(w64 (k4476 + (w64 (v3839 * y4573))))] (w64 ((mget m_4563 [(w64 (k4476 + (w64 (v3839 * y4573))))]) + 1)))))) else (some (Sum.inr m_4563))
noncomputable def F_cloth_tent_sums_s3 (n : Nat) (t : cloth_tent) (width : Int) (v3839 : Int) (k3851 : Int) : Mp → List Int × Int → Option Mp
 | m_4455, ([k4476], v4464) => (geti t.can k3851).bind fun y4477 => (loopO n (F_cloth_tent_sums_s4 n t width v3839 k4476 y4477) (0, m_4455)).bind fun m_4529 => some m_4529
 | _, _ => none
noncomputable def F_cloth_tent_sums_s2 (n : Nat) (t : cloth_tent) (width : Int) : Mp → List Int × Int → Option Mp
 | m_3830, ([k3851], v3839) => ((permO (F_cloth_tent_sums_s3 n t width v3839 k3851) ([] : Mp) m_3830).bind fun z4579 => match z4579 with | m_4455 => some m_4455).bind fun m_4217 => some m_4217
 | _, _ => none
noncomputable def F_cloth_tent_sums (n : Nat) (t : cloth_tent) (width : Int) : Option Mp :=
 (loopO n (F_cloth_tent_sums_s1 n t) (0, ([] : Mp))).bind fun m_46 => (kok 1 [0]).bind fun _ => ((permO (F_cloth_tent_sums_s2 n t width) (mput ([] : Mp) [0] 1) m_46).bind fun z4580 => match z4580 with | m_3830 => some m_3830).bind fun m_2340 => some m_2340
theorem c_cloth_tent_sums (n : Nat) (H : Hp) (t : cloth_tent) (t_v0 : Value) (ht_0 : SL H 4 R_Bolt t_v0 t.Dome.Bolts) (t_v1 : Value) (ht_1 : SL H 1 RInt t_v1 t.Dome.Gores) (t_v3 : Value) (ht_3 : SL H 2 R_Span t_v3 t.Dome.Rounds) (t_v4 : Value) (ht_4 : SL H 1 RInt t_v4 t.Dome.Widths) (t_v6 : Value) (ht_6 : SL H 1 (RSl 1 RInt) t_v6 t.can) (t_b t_o : Nat) (t_c : Cells H t_b t_o [t_v0, t_v1, .int .i64 t.Dome.Loss, t_v3, t_v4, .int .i64 t.Dome.Slope, t_v6]) (width : Int) (y : Mp) (hF : F_cloth_tent_sums n t width = some y) : XB Try.prog 115 [.pointer (some ⟨t_b, t_o, none⟩), .int .i64 width] H (fun H' v bs' => ∃ b es ck, v = .map (some b) ∧ bs' = [(b, .map es ck)] ∧ MR 1 ekI y es ck) := by
 rw [F_cloth_tent_sums] at hF
 refine XB.of (N := 79) Try.func115 rfl rfl rfl fun w => ?_
 refine JC.seq (JC.region (by rfl) ?_)
 intro hQ
 refine JL.assign .none rfl ?_
 refine JL.done hQ (JQ.go (JC.seq (JC.region (by rfl) ?_)))
 intro hQ
 refine JL.makeMap .none rfl ?_
 intro b1
 refine JL.assign .none rfl ?_
 refine JL.done hQ (JQ.go (JC.seq (JC.seq (JC.region (by rfl) ?_))))
 intro hQ
 refine JL.move .none rfl ?_
 refine JL.nilCheck rfl .none rfl ?_
 refine JL.fieldAddr fo_117_0 rfl .none rfl ?_
 refine JL.fieldAddr fo_26_1 rfl .none rfl ?_
 refine JL.loadH 1 az_23 rfl t_c rfl .none rfl ?_
 refine JL.lenSL (R := RInt) ul_23 ht_1 .none rfl ?_
 refine JL.move .none rfl ?_
 refine JL.done hQ (JQ.go ?_)
 obtain ⟨r48, hlr48, hKr48⟩ := bind_some hF
 refine JC.join (fun (m_46 : Mp) H47 f bs gs => ∃ (em_46 : Array MapEntry) (cm_46 : Nat), f 0 = .pointer (some ⟨t_b, t_o, none⟩) ∧ f 1 = .int .i64 width ∧ f 5 = .map (some b1) ∧ bs = [(b1, .map em_46 cm_46)] ∧ gs = [] ∧ MR 1 ekI m_46 em_46 cm_46 ∧ HSub H H47 ∧ m_46 = r48) ?_ ?_
 ·skip
  refine JC.block (JC.loop hlr48 (fun (x : Int × Mp) H79 f bs gs => match x with | (x_77, m_78) => ∃ (em_78 : Array MapEntry) (cm_78 : Nat), f 0 = .pointer (some ⟨t_b, t_o, none⟩) ∧ f 1 = .int .i64 width ∧ f 5 = .map (some b1) ∧ f 20 = t_v1 ∧ f 21 = .int .i64 (t.Dome.Gores.length : Int) ∧ f 22 = .int .i64 x_77 ∧ bs = [(b1, .map em_78 cm_78)] ∧ gs = [] ∧ MR 1 ekI m_78 em_78 cm_78 ∧ HSub H H79) ⟨#[], 0, rfl, rfl, rfl, rfl, rfl, rfl, rfl, rfl, MR.empty, (HSub.refl _)⟩ ?_)
  rintro ⟨x_77, m_78⟩ x81 H79 f bs gs ⟨em_78, cm_78, hf0, hf1, hf5, hf20, hf21, hf22, rfl, rfl, hm_78, hs79⟩ hF hr80
  rw [F_cloth_tent_sums_s1] at hF
  refine (JC.norm (i := 0) hf0 (JC.norm (i := 1) hf1 (JC.norm (i := 5) hf5 (JC.norm (i := 20) hf20 (JC.norm (i := 21) hf21 (JC.norm (i := 22) hf22 ?_))))))
  refine JC.seq (JC.region (by rfl) ?_)
  intro hQ
  refine JL.bin rfl rfl rfl .none rfl ?_
  refine JL.done hQ (JQ.go (JC.seq ?_))
  rcases ite_some hF with ⟨hc82, hF⟩ | ⟨hc82, hF⟩
  ·refine JC.cond_t (b := decide (x_77 < (t.Dome.Gores.length : Int))) rfl hc82 ?_
   refine JC.skip (JQ.go (JC.seq (JC.block (JC.seq (JC.region (by rfl) ?_)))))
   intro hQ
   obtain ⟨y83, hy83, hF⟩ := bind_some hF
   refine JL.indexSL (R := RInt) sl_23 (SL.mono RInt.mono hs79 ht_1) rfl hy83 .none rfl ?_
   rintro b84 o85 cs86 hc87 - rfl
   refine JL.loadH 0 az_3 rfl hc87 rfl .none rfl ?_
   refine JL.assign .none rfl ?_
   refine JL.done hQ (JQ.go (JC.region (by rfl) ?_))
   intro hQ
   refine JL.move .none rfl ?_
   refine JL.move .none rfl ?_
   obtain ⟨u88, hu88, hF⟩ := bind_some hF
   refine JL.lookupM (k := [y83]) mp_186 kt_3 rfl (.own 0 rfl) hm_78 rfl hu88 .none rfl ?_
   refine JL.bin rfl rfl rfl .none rfl ?_
   obtain ⟨u89, hu89, hF⟩ := bind_some hF
   refine JL.updateM (k := [y83]) 0 mp_186 kt_3 rfl rfl hm_78 rfl hu89 rfl .none rfl ?_
   intro es90 ck91 hm92
   refine JL.done hQ (JQ.normal_block (JQ.go (JC.fresh (fun f => f 0 = .pointer (some ⟨t_b, t_o, none⟩) ∧ f 1 = .int .i64 width ∧ f 5 = .map (some b1) ∧ f 20 = t_v1 ∧ f 21 = .int .i64 (t.Dome.Gores.length : Int) ∧ f 22 = .int .i64 x_77) ⟨rfl, rfl, rfl, rfl, rfl, rfl⟩ ?_)))
   rintro f ⟨hf0, hf1, hf5, hf20, hf21, hf22⟩
   refine (JC.norm (i := 0) hf0 (JC.norm (i := 1) hf1 (JC.norm (i := 5) hf5 (JC.norm (i := 20) hf20 (JC.norm (i := 21) hf21 (JC.norm (i := 22) hf22 ?_))))))
   refine JC.region (by rfl) ?_
   intro hQ
   refine JL.bin rfl rfl rfl .none rfl ?_
   refine JL.move .none rfl ?_
   refine JL.done hQ ?_
   obtain rfl := Option.some.inj hF
   exact JQ.next rfl ⟨es90, ck91, rfl, rfl, rfl, rfl, rfl, rfl, rfl, rfl, hm92, hs79⟩
  ·refine JC.cond_f (b := decide (x_77 < (t.Dome.Gores.length : Int))) rfl hc82 ?_
   refine JC.exit (JQ.exit_then (JQ.exit_then (JQ.exit_block ?_)))
   obtain rfl := Option.some.inj hF
   have ehr80 := hr80 _ rfl
   subst ehr80
   exact JQ.join m_78 ⟨em_78, cm_78, rfl, rfl, rfl, rfl, rfl, hm_78, hs79, rfl⟩
 ·rintro m_46 H47 f bs gs ⟨em_46, cm_46, hf0, hf1, hf5, rfl, rfl, hm_46, hs47, rfl⟩
  have hF := hKr48
  try dsimp only at hF
  refine (JQ.norm (i := 0) hf0 (JQ.norm (i := 1) hf1 (JQ.norm (i := 5) hf5 ?_)))
  refine JQ.go (JC.seq (JC.region (by rfl) ?_))
  intro hQ
  refine JL.makeMap .none rfl ?_
  intro b93
  obtain ⟨u94, hu94, hF⟩ := bind_some hF
  refine JL.insertM (k := [0]) 0 mp_186 kt_3 rfl rfl MR.empty rfl hu94 rfl .none rfl ?_
  intro es95 ck96 hm97
  refine JL.move .none rfl ?_
  refine JL.assign .none rfl ?_
  refine JL.done hQ (JQ.go (JC.seq (JC.seq (JC.region (by rfl) ?_))))
  intro hQ
  refine JL.move .none rfl ?_
  refine JL.rangeM mp_186 rfl (.own 1 rfl) hm_46 .none rfl ?_
  intro r98 sn99 seen100 cz101 hI102
  refine JL.done hQ (JQ.go ?_)
  obtain ⟨r2342, hlr2342, hKr2342⟩ := bind_some hF
  refine JC.join (fun (m_2340 : Mp) H2341 f bs gs => ∃ (bm_2340 : Nat) (em_2340 : Array MapEntry) (cm_2340 : Nat), f 8 = .map (some bm_2340) ∧ bs = [(bm_2340, .map em_2340 cm_2340)] ∧ gs = [] ∧ MR 1 ekI m_2340 em_2340 cm_2340 ∧ HSub H47 H2341 ∧ m_2340 = r2342) ?_ ?_
  ·skip
   obtain ⟨rs3832, hper3833, hl3834⟩ := bind_some hlr2342
   refine JC.block (JC.mapLoop (srt_nodup hI102.srt) hper3833 (fun (dd : Mp) (m_3830 : Mp) H3831 f bs gs => ∃ (bm_3830 : Nat) (em_3830 : Array MapEntry) (cm_3830 : Nat) (sn_r98 : Nat) (se_r98 : Array Nat) (cz_r98 : Nat), f 0 = .pointer (some ⟨t_b, t_o, none⟩) ∧ f 1 = .int .i64 width ∧ f 8 = .map (some bm_3830) ∧ f 34 = .pointer (some ⟨r98, 0, none⟩) ∧ bs = [(r98, .mapIter (some b1) sn_r98 se_r98 cz_r98), (bm_3830, .map em_3830 cm_3830), (b1, .map em_46 cm_46)] ∧ gs = [] ∧ MR 1 ekI m_3830 em_3830 cm_3830 ∧ IR 1 ekI m_46 m_46 em_46 cm_46 sn_r98 se_r98 cz_r98 dd ∧ HSub H47 H3831) ⟨b93, es95, ck96, sn99, seen100, cz101, rfl, rfl, rfl, rfl, rfl, rfl, hm97, hI102, (HSub.refl _)⟩ ?_)
   rintro dd m_3830 H3831 f bs gs ⟨bm_3830, em_3830, cm_3830, sn_r98, se_r98, cz_r98, hf0, hf1, hf8, hf34, rfl, rfl, hm_3830, hI_r98, hs3831⟩ hend3835 hgo3836
   refine (JC.norm (i := 0) hf0 (JC.norm (i := 1) hf1 (JC.norm (i := 8) hf8 (JC.norm (i := 34) hf34 ?_))))
   refine JC.seq (JC.region (by rfl) ?_)
   intro hQ
   refine JL.nextM 0 kt_3 rfl rfl (.own 2 rfl) hm_46 hI_r98 .none rfl ?_ ?_
   ·intro hp3837
    refine JL.extract rfl rfl .none rfl ?_
    refine JL.done hQ (JQ.go (JC.seq (JC.cond_f (b := false) rfl rfl ?_)))
    refine JC.exit (JQ.exit_then (JQ.exit_then (JQ.exit_block ?_)))
    have er3849 := hend3835 hp3837
    subst er3849
    obtain rfl := Option.some.inj hl3834
    refine JQ.mask [false, true, false] [] ?_
    exact JQ.join m_3830 ⟨bm_3830, em_3830, cm_3830, rfl, rfl, rfl, hm_3830, hs3831, rfl⟩
   ·rintro ⟨kl3838, v3839⟩ seen3840 cz3841 hx3842 hxm3843 hxn3844 hI3845 hE3846
    have kok3850 := (hm_46.okk _ hxm3843)
    dsimp only at kok3850
    obtain ⟨k3851, rfl⟩ := Kok.one kok3850
    obtain ⟨sp3848, hst3847⟩ := hgo3836 ([k3851], v3839) hx3842 hxn3844
    have hF := hst3847
    rw [F_cloth_tent_sums_s2] at hF
    refine JL.extract rfl rfl .none rfl ?_
    refine JL.done hQ (JQ.go (JC.seq (JC.cond_t (b := true) rfl rfl ?_)))
    refine JC.skip (JQ.go (JC.block (JC.seq (JC.region (by rfl) ?_))))
    intro hQ
    refine JL.entryIt (y := ([k3851], v3839)) 0 rfl rfl (.own 2 rfl) hm_46 hE3846 .none rfl ?_
    refine JL.extract rfl rfl .none rfl ?_
    refine JL.extract rfl rfl .none rfl ?_
    refine JL.assign .none rfl ?_
    refine JL.assign .none rfl ?_
    refine JL.done hQ (JQ.go (JC.seq (JC.region (by rfl) ?_)))
    intro hQ
    refine JL.makeMap .none rfl ?_
    intro b3852
    refine JL.assign .none rfl ?_
    refine JL.done hQ (JQ.go (JC.seq (JC.seq (JC.region (by rfl) ?_))))
    intro hQ
    refine JL.move .none rfl ?_
    refine JL.rangeM mp_186 rfl (.own 2 rfl) hm_3830 .none rfl ?_
    intro r3853 sn3854 seen3855 cz3856 hI3857
    refine JL.done hQ (JQ.go (JC.fresh (fun f => f 0 = .pointer (some ⟨t_b, t_o, none⟩) ∧ f 1 = .int .i64 width ∧ f 9 = .int .i64 k3851 ∧ f 10 = .int .i64 v3839 ∧ f 11 = .map (some b3852) ∧ f 34 = .pointer (some ⟨r98, 0, none⟩) ∧ f 42 = .pointer (some ⟨r3853, 0, none⟩)) ⟨rfl, rfl, rfl, rfl, rfl, rfl, rfl⟩ ?_))
    rintro f ⟨hf0, hf1, hf9, hf10, hf11, hf34, hf42⟩
    refine (JC.norm (i := 0) hf0 (JC.norm (i := 1) hf1 (JC.norm (i := 9) hf9 (JC.norm (i := 10) hf10 (JC.norm (i := 11) hf11 (JC.norm (i := 34) hf34 (JC.norm (i := 42) hf42 ?_)))))))
    obtain ⟨r4219, hlr4219, hKr4219⟩ := bind_some hF
    refine JC.join (fun (m_4217 : Mp) H4218 f bs gs => ∃ (em_4217 : Array MapEntry) (cm_4217 : Nat), f 0 = .pointer (some ⟨t_b, t_o, none⟩) ∧ f 1 = .int .i64 width ∧ f 11 = .map (some b3852) ∧ f 34 = .pointer (some ⟨r98, 0, none⟩) ∧ bs = [(b3852, .map em_4217 cm_4217), (r98, .mapIter (some b1) sn_r98 seen3840 cz3841), (b1, .map em_46 cm_46)] ∧ gs = [] ∧ MR 1 ekI m_4217 em_4217 cm_4217 ∧ HSub H3831 H4218 ∧ m_4217 = r4219) ?_ ?_
    ·skip
     obtain ⟨rs4457, hper4458, hl4459⟩ := bind_some hlr4219
     refine JC.block (JC.mapLoop (srt_nodup hI3857.srt) hper4458 (fun (dd : Mp) (m_4455 : Mp) H4456 f bs gs => ∃ (em_4455 : Array MapEntry) (cm_4455 : Nat) (sn_r3853 : Nat) (se_r3853 : Array Nat) (cz_r3853 : Nat), f 0 = .pointer (some ⟨t_b, t_o, none⟩) ∧ f 1 = .int .i64 width ∧ f 9 = .int .i64 k3851 ∧ f 10 = .int .i64 v3839 ∧ f 11 = .map (some b3852) ∧ f 34 = .pointer (some ⟨r98, 0, none⟩) ∧ f 42 = .pointer (some ⟨r3853, 0, none⟩) ∧ bs = [(r3853, .mapIter (some bm_3830) sn_r3853 se_r3853 cz_r3853), (b3852, .map em_4455 cm_4455), (r98, .mapIter (some b1) sn_r98 seen3840 cz3841), (bm_3830, .map em_3830 cm_3830), (b1, .map em_46 cm_46)] ∧ gs = [] ∧ MR 1 ekI m_4455 em_4455 cm_4455 ∧ IR 1 ekI m_3830 m_3830 em_3830 cm_3830 sn_r3853 se_r3853 cz_r3853 dd ∧ HSub H3831 H4456) ⟨#[], 0, sn3854, seen3855, cz3856, rfl, rfl, rfl, rfl, rfl, rfl, rfl, rfl, rfl, MR.empty, hI3857, (HSub.refl _)⟩ ?_)
     rintro dd m_4455 H4456 f bs gs ⟨em_4455, cm_4455, sn_r3853, se_r3853, cz_r3853, hf0, hf1, hf9, hf10, hf11, hf34, hf42, rfl, rfl, hm_4455, hI_r3853, hs4456⟩ hend4460 hgo4461
     refine (JC.norm (i := 0) hf0 (JC.norm (i := 1) hf1 (JC.norm (i := 9) hf9 (JC.norm (i := 10) hf10 (JC.norm (i := 11) hf11 (JC.norm (i := 34) hf34 (JC.norm (i := 42) hf42 ?_)))))))
     refine JC.seq (JC.region (by rfl) ?_)
     intro hQ
     refine JL.nextM 0 kt_3 rfl rfl (.own 3 rfl) hm_3830 hI_r3853 .none rfl ?_ ?_
     ·intro hp4462
      refine JL.extract rfl rfl .none rfl ?_
      refine JL.done hQ (JQ.go (JC.seq (JC.cond_f (b := false) rfl rfl ?_)))
      refine JC.exit (JQ.exit_then (JQ.exit_then (JQ.exit_block ?_)))
      have er4474 := hend4460 hp4462
      subst er4474
      obtain rfl := Option.some.inj hl4459
      refine JQ.mask [false, true, true, false, true] [] ?_
      exact JQ.join m_4455 ⟨em_4455, cm_4455, rfl, rfl, rfl, rfl, rfl, rfl, hm_4455, hs4456, rfl⟩
     ·rintro ⟨kl4463, v4464⟩ seen4465 cz4466 hx4467 hxm4468 hxn4469 hI4470 hE4471
      have kok4475 := (hm_3830.okk _ hxm4468)
      dsimp only at kok4475
      obtain ⟨k4476, rfl⟩ := Kok.one kok4475
      obtain ⟨sp4473, hst4472⟩ := hgo4461 ([k4476], v4464) hx4467 hxn4469
      have hF := hst4472
      rw [F_cloth_tent_sums_s3] at hF
      refine JL.extract rfl rfl .none rfl ?_
      refine JL.done hQ (JQ.go (JC.seq (JC.cond_t (b := true) rfl rfl ?_)))
      refine JC.skip (JQ.go (JC.block (JC.seq (JC.region (by rfl) ?_))))
      intro hQ
      refine JL.entryIt (y := ([k4476], v4464)) 0 rfl rfl (.own 3 rfl) hm_3830 hE4471 .none rfl ?_
      refine JL.extract rfl rfl .none rfl ?_
      refine JL.assign .none rfl ?_
      refine JL.done hQ (JQ.go (JC.seq (JC.region (by rfl) ?_)))
      intro hQ
      refine JL.move .none rfl ?_
      refine JL.nilCheck rfl .none rfl ?_
      refine JL.fieldAddr fo_117_1 rfl .none rfl ?_
      refine JL.loadH 6 az_115 rfl (Cells.mono (HSub.trans hs47 (HSub.trans hs3831 hs4456)) t_c) rfl .none rfl ?_
      refine JL.move .none rfl ?_
      obtain ⟨y4477, hy4477, hF⟩ := bind_some hF
      refine JL.indexSL (R := (RSl 1 RInt)) sl_115 (SL.mono (RSl.mono RInt.mono) (HSub.trans hs47 (HSub.trans hs3831 hs4456)) ht_6) rfl hy4477 .none rfl ?_
      rintro b4478 o4479 cs4480 hc4481 - ⟨y4477_v0, rfl, hy4477_0⟩
      refine JL.loadH 0 az_23 rfl hc4481 rfl .none rfl ?_
      refine JL.lenSL (R := RInt) ul_23 hy4477_0 .none rfl ?_
      refine JL.move .none rfl ?_
      refine JL.done hQ (JQ.go (JC.fresh (fun f => f 0 = .pointer (some ⟨t_b, t_o, none⟩) ∧ f 1 = .int .i64 width ∧ f 9 = .int .i64 k3851 ∧ f 10 = .int .i64 v3839 ∧ f 11 = .map (some b3852) ∧ f 12 = .int .i64 k4476 ∧ f 34 = .pointer (some ⟨r98, 0, none⟩) ∧ f 42 = .pointer (some ⟨r3853, 0, none⟩) ∧ f 53 = y4477_v0 ∧ f 54 = .int .i64 (y4477.length : Int) ∧ f 55 = .int .i64 0) ⟨rfl, rfl, rfl, rfl, rfl, rfl, rfl, rfl, rfl, rfl, rfl⟩ ?_))
      rintro f ⟨hf0, hf1, hf9, hf10, hf11, hf12, hf34, hf42, hf53, hf54, hf55⟩
      refine (JC.norm (i := 0) hf0 (JC.norm (i := 1) hf1 (JC.norm (i := 9) hf9 (JC.norm (i := 10) hf10 (JC.norm (i := 11) hf11 (JC.norm (i := 12) hf12 (JC.norm (i := 34) hf34 (JC.norm (i := 42) hf42 (JC.norm (i := 53) hf53 (JC.norm (i := 54) hf54 (JC.norm (i := 55) hf55 ?_)))))))))))
      obtain ⟨r4531, hlr4531, hKr4531⟩ := bind_some hF
      refine JC.join (fun (m_4529 : Mp) H4530 f bs gs => ∃ (em_4529 : Array MapEntry) (cm_4529 : Nat), f 0 = .pointer (some ⟨t_b, t_o, none⟩) ∧ f 1 = .int .i64 width ∧ f 9 = .int .i64 k3851 ∧ f 10 = .int .i64 v3839 ∧ f 11 = .map (some b3852) ∧ f 34 = .pointer (some ⟨r98, 0, none⟩) ∧ f 42 = .pointer (some ⟨r3853, 0, none⟩) ∧ bs = [(r3853, .mapIter (some bm_3830) sn_r3853 seen4465 cz4466), (b3852, .map em_4529 cm_4529), (r98, .mapIter (some b1) sn_r98 seen3840 cz3841), (bm_3830, .map em_3830 cm_3830), (b1, .map em_46 cm_46)] ∧ gs = [] ∧ MR 1 ekI m_4529 em_4529 cm_4529 ∧ HSub H4456 H4530 ∧ m_4529 = r4531) ?_ ?_
      ·skip
       refine JC.block (JC.loop hlr4531 (fun (x : Int × Mp) H4564 f bs gs => match x with | (x_4562, m_4563) => ∃ (em_4563 : Array MapEntry) (cm_4563 : Nat), f 0 = .pointer (some ⟨t_b, t_o, none⟩) ∧ f 1 = .int .i64 width ∧ f 9 = .int .i64 k3851 ∧ f 10 = .int .i64 v3839 ∧ f 11 = .map (some b3852) ∧ f 12 = .int .i64 k4476 ∧ f 34 = .pointer (some ⟨r98, 0, none⟩) ∧ f 42 = .pointer (some ⟨r3853, 0, none⟩) ∧ f 53 = y4477_v0 ∧ f 54 = .int .i64 (y4477.length : Int) ∧ f 55 = .int .i64 x_4562 ∧ bs = [(r3853, .mapIter (some bm_3830) sn_r3853 seen4465 cz4466), (b3852, .map em_4563 cm_4563), (r98, .mapIter (some b1) sn_r98 seen3840 cz3841), (bm_3830, .map em_3830 cm_3830), (b1, .map em_46 cm_46)] ∧ gs = [] ∧ MR 1 ekI m_4563 em_4563 cm_4563 ∧ HSub H4456 H4564) ⟨em_4455, cm_4455, rfl, rfl, rfl, rfl, rfl, rfl, rfl, rfl, rfl, rfl, rfl, rfl, rfl, hm_4455, (HSub.refl _)⟩ ?_)
       rintro ⟨x_4562, m_4563⟩ x4566 H4564 f bs gs ⟨em_4563, cm_4563, hf0, hf1, hf9, hf10, hf11, hf12, hf34, hf42, hf53, hf54, hf55, rfl, rfl, hm_4563, hs4564⟩ hF hr4565
       rw [F_cloth_tent_sums_s4] at hF
       refine (JC.norm (i := 0) hf0 (JC.norm (i := 1) hf1 (JC.norm (i := 9) hf9 (JC.norm (i := 10) hf10 (JC.norm (i := 11) hf11 (JC.norm (i := 12) hf12 (JC.norm (i := 34) hf34 (JC.norm (i := 42) hf42 (JC.norm (i := 53) hf53 (JC.norm (i := 54) hf54 (JC.norm (i := 55) hf55 ?_)))))))))))
       refine JC.seq (JC.region (by rfl) ?_)
       intro hQ
       refine JL.bin rfl rfl rfl .none rfl ?_
       refine JL.done hQ (JQ.go (JC.seq ?_))
       rcases ite_some hF with ⟨hc4567, hF⟩ | ⟨hc4567, hF⟩
       ·refine JC.cond_t (b := decide (x_4562 < (y4477.length : Int))) rfl hc4567 ?_
        refine JC.skip (JQ.go (JC.seq (JC.block (JC.seq (JC.region (by rfl) ?_)))))
        intro hQ
        obtain ⟨y4568, hy4568, hF⟩ := bind_some hF
        refine JL.indexSL (R := RInt) sl_23 (SL.mono RInt.mono hs4564 hy4477_0) rfl hy4568 .none rfl ?_
        rintro b4569 o4570 cs4571 hc4572 - rfl
        refine JL.loadH 0 az_3 rfl hc4572 rfl .none rfl ?_
        refine JL.assign .none rfl ?_
        refine JL.done hQ (JQ.go (JC.region (by rfl) ?_))
        intro hQ
        refine JL.move .none rfl ?_
        refine JL.move .none rfl ?_
        refine JL.move .none rfl ?_
        refine JL.move .none rfl ?_
        refine JL.move .none rfl ?_
        refine JL.nilCheck rfl .none rfl ?_
        refine JL.fieldAddr fo_117_0 rfl .none rfl ?_
        refine JL.fieldAddr fo_26_2 rfl .none rfl ?_
        refine JL.loadH 2 az_3 rfl (Cells.mono (HSub.trans hs47 (HSub.trans hs3831 (HSub.trans hs4456 hs4564))) t_c) rfl .none rfl ?_
        refine JL.bin rfl rfl rfl .none rfl ?_
        refine JL.bin rfl rfl rfl .none rfl ?_
        refine JL.move .none rfl ?_
        obtain ⟨y4573, hy4573, hF⟩ := bind_some hF
        refine JL.callS (c_cloth_pull n H4564 (w64 (width - (w64 (2 * t.Dome.Loss)))) y4568 y4573 hy4573) rfl en_114 .none rfl ?_
        refine JL.bin rfl rfl rfl .none rfl ?_
        refine JL.bin rfl rfl rfl .none rfl ?_
        obtain ⟨u4574, hu4574, hF⟩ := bind_some hF
        refine JL.lookupM (k := [(w64 (k4476 + (w64 (v3839 * y4573))))]) mp_186 kt_3 rfl (.own 1 rfl) hm_4563 rfl hu4574 .none rfl ?_
        refine JL.bin rfl rfl rfl .none rfl ?_
        obtain ⟨u4575, hu4575, hF⟩ := bind_some hF
        refine JL.updateM (k := [(w64 (k4476 + (w64 (v3839 * y4573))))]) 1 mp_186 kt_3 rfl rfl hm_4563 rfl hu4575 rfl .none rfl ?_
        intro es4576 ck4577 hm4578
        refine JL.done hQ (JQ.normal_block (JQ.go (JC.fresh (fun f => f 0 = .pointer (some ⟨t_b, t_o, none⟩) ∧ f 1 = .int .i64 width ∧ f 9 = .int .i64 k3851 ∧ f 10 = .int .i64 v3839 ∧ f 11 = .map (some b3852) ∧ f 12 = .int .i64 k4476 ∧ f 34 = .pointer (some ⟨r98, 0, none⟩) ∧ f 42 = .pointer (some ⟨r3853, 0, none⟩) ∧ f 53 = y4477_v0 ∧ f 54 = .int .i64 (y4477.length : Int) ∧ f 55 = .int .i64 x_4562) ⟨rfl, rfl, rfl, rfl, rfl, rfl, rfl, rfl, rfl, rfl, rfl⟩ ?_)))
        rintro f ⟨hf0, hf1, hf9, hf10, hf11, hf12, hf34, hf42, hf53, hf54, hf55⟩
        refine (JC.norm (i := 0) hf0 (JC.norm (i := 1) hf1 (JC.norm (i := 9) hf9 (JC.norm (i := 10) hf10 (JC.norm (i := 11) hf11 (JC.norm (i := 12) hf12 (JC.norm (i := 34) hf34 (JC.norm (i := 42) hf42 (JC.norm (i := 53) hf53 (JC.norm (i := 54) hf54 (JC.norm (i := 55) hf55 ?_)))))))))))
        refine JC.region (by rfl) ?_
        intro hQ
        refine JL.bin rfl rfl rfl .none rfl ?_
        refine JL.move .none rfl ?_
        refine JL.done hQ ?_
        obtain rfl := Option.some.inj hF
        exact JQ.next rfl ⟨es4576, ck4577, rfl, rfl, rfl, rfl, rfl, rfl, rfl, rfl, rfl, rfl, rfl, rfl, rfl, hm4578, hs4564⟩
       ·refine JC.cond_f (b := decide (x_4562 < (y4477.length : Int))) rfl hc4567 ?_
        refine JC.exit (JQ.exit_then (JQ.exit_then (JQ.exit_block ?_)))
        obtain rfl := Option.some.inj hF
        have ehr4565 := hr4565 _ rfl
        subst ehr4565
        exact JQ.join m_4563 ⟨em_4563, cm_4563, rfl, rfl, rfl, rfl, rfl, rfl, rfl, rfl, rfl, hm_4563, hs4564, rfl⟩
      ·rintro m_4529 H4530 f bs gs ⟨em_4529, cm_4529, hf0, hf1, hf9, hf10, hf11, hf34, hf42, rfl, rfl, hm_4529, hs4530, rfl⟩
       have hF := hKr4531
       try dsimp only at hF
       refine (JQ.norm (i := 0) hf0 (JQ.norm (i := 1) hf1 (JQ.norm (i := 9) hf9 (JQ.norm (i := 10) hf10 (JQ.norm (i := 11) hf11 (JQ.norm (i := 34) hf34 (JQ.norm (i := 42) hf42 ?_)))))))
       refine JQ.normal_block ?_
       obtain rfl := Option.some.inj hF
       exact JQ.mnext hx4467 hxn4469 hst4472 ⟨em_4529, cm_4529, sn_r3853, seen4465, cz4466, rfl, rfl, rfl, rfl, rfl, rfl, rfl, rfl, rfl, hm_4529, hI4470, (HSub.trans hs4456 hs4530)⟩
    ·rintro m_4217 H4218 f bs gs ⟨em_4217, cm_4217, hf0, hf1, hf11, hf34, rfl, rfl, hm_4217, hs4218, rfl⟩
     have hF := hKr4219
     try dsimp only at hF
     refine (JQ.norm (i := 0) hf0 (JQ.norm (i := 1) hf1 (JQ.norm (i := 11) hf11 (JQ.norm (i := 34) hf34 ?_))))
     refine JQ.go (JC.region (by rfl) ?_)
     intro hQ
     refine JL.move .none rfl ?_
     refine JL.assign .none rfl ?_
     refine JL.done hQ (JQ.normal_block ?_)
     obtain rfl := Option.some.inj hF
     refine JQ.mvB 1 rfl rfl ?_
     exact JQ.mnext hx3842 hxn3844 hst3847 ⟨b3852, em_4217, cm_4217, sn_r98, seen3840, cz3841, rfl, rfl, rfl, rfl, rfl, rfl, hm_4217, hI3845, (HSub.trans hs3831 hs4218)⟩
  ·rintro m_2340 H2341 f bs gs ⟨bm_2340, em_2340, cm_2340, hf8, rfl, rfl, hm_2340, hs2341, rfl⟩
   have hF := hKr2342
   try dsimp only at hF
   refine (JQ.norm (i := 8) hf8 ?_)
   refine JQ.go (JC.seq (JC.region (by rfl) ?_))
   intro hQ
   refine JL.move .none rfl ?_
   refine JL.assign .none rfl ?_
   refine JL.done hQ (JQ.go (JC.ret ?_))
   obtain rfl := Option.some.inj hF
   exact JQ.outB rfl (.tmp .nil) ⟨bm_2340, em_2340, cm_2340, rfl, rfl, hm_2340⟩
-- 61 (*ferrule/cloth.tent).tight
noncomputable def F_cloth_tent_tight_s1 (n : Nat) (y1 : Span) : Bool → List Int × Int → Option Bool
 | false, ([k102], v90) => (F_cloth_within n k102 y1.Low y1.High).bind fun y103 => if y103 = true then (some true) else (some false)
 | false, _ => none
 | true, _ => some true
noncomputable def F_cloth_tent_tight (n : Nat) (t : cloth_tent) (row : Int) (width : Int) : Option Int :=
 (geti t.Dome.Rounds row).bind fun y1 => (F_cloth_tent_round n t width).bind fun y7 => if ((decide (y1.Low ≤ y7.Low)) && (decide (y7.High ≤ y1.High))) = true then (some 1) else ((F_cloth_tent_sums n t width).bind fun y12 => ((permO (F_cloth_tent_tight_s1 n y1) false y12).bind fun z106 => if z106 = true then some (Sum.inl 3) else some (Sum.inr ())).bind fun r64 => match r64 with | .inl o => some o | .inr _ => some 2)
theorem c_cloth_tent_tight (n : Nat) (H : Hp) (t : cloth_tent) (t_v0 : Value) (ht_0 : SL H 4 R_Bolt t_v0 t.Dome.Bolts) (t_v1 : Value) (ht_1 : SL H 1 RInt t_v1 t.Dome.Gores) (t_v3 : Value) (ht_3 : SL H 2 R_Span t_v3 t.Dome.Rounds) (t_v4 : Value) (ht_4 : SL H 1 RInt t_v4 t.Dome.Widths) (t_v6 : Value) (ht_6 : SL H 1 (RSl 1 RInt) t_v6 t.can) (t_b t_o : Nat) (t_c : Cells H t_b t_o [t_v0, t_v1, .int .i64 t.Dome.Loss, t_v3, t_v4, .int .i64 t.Dome.Slope, t_v6]) (row : Int) (width : Int) (y : Int) (hF : F_cloth_tent_tight n t row width = some y) : SC Try.prog 61 [.pointer (some ⟨t_b, t_o, none⟩), .int .i64 row, .int .i64 width] (.int .i64 y) H := by
 rw [F_cloth_tent_tight] at hF
 refine SC.of (N := 47) Try.func61 rfl rfl rfl fun w => ?_
 refine JC.seq (JC.region (by rfl) ?_)
 intro hQ
 refine JL.assign .none rfl ?_
 refine JL.done hQ (JQ.go (JC.seq (JC.region (by rfl) ?_)))
 intro hQ
 refine JL.move .none rfl ?_
 refine JL.nilCheck rfl .none rfl ?_
 refine JL.fieldAddr fo_117_0 rfl .none rfl ?_
 refine JL.fieldAddr fo_26_3 rfl .none rfl ?_
 refine JL.loadH 3 az_24 rfl t_c rfl .none rfl ?_
 refine JL.move .none rfl ?_
 obtain ⟨y1, hy1, hF⟩ := bind_some hF
 refine JL.indexSL (R := R_Span) sl_24 ht_3 rfl hy1 .none rfl ?_
 rintro b2 o3 cs4 hc5 - rfl
 refine JL.loadH 0 az_39 rfl hc5 rfl .none rfl ?_
 refine JL.alloc ze_39 .none rfl ?_
 intro b6
 refine JL.storeOwn 0 (cs := [.int .i64 y1.Low, .int .i64 y1.High]) az_39 rfl rfl rfl (one_cons rfl (one_cons rfl one_nil)) rfl rfl .none ?_
 refine JL.done hQ (JQ.go (JC.seq (JC.seq (JC.region (by rfl) ?_))))
 intro hQ
 refine JL.move .none rfl ?_
 refine JL.move .none rfl ?_
 obtain ⟨y7, hy7, hF⟩ := bind_some hF
 refine JL.callS (c_cloth_tent_round n H t t_v0 ht_0 t_v1 ht_1 t_v3 ht_3 t_v4 ht_4 t_v6 ht_6 t_b t_o t_c width y7 hy7) rfl en_60 .none rfl ?_
 refine JL.alloc ze_39 .none rfl ?_
 intro b8
 refine JL.storeOwn 0 (cs := [.int .i64 y7.Low, .int .i64 y7.High]) az_39 rfl rfl rfl (one_cons rfl (one_cons rfl one_nil)) rfl rfl .none ?_
 refine JL.done hQ (JQ.go (JC.fresh (fun f => f 0 = .pointer (some ⟨t_b, t_o, none⟩) ∧ f 2 = .int .i64 width ∧ f 6 = .int .i64 0 ∧ f 7 = .pointer (some ⟨b6, 0, none⟩) ∧ f 8 = .pointer (some ⟨b8, 0, none⟩)) ⟨rfl, rfl, rfl, rfl, rfl⟩ ?_))
 rintro f ⟨hf0, hf2, hf6, hf7, hf8⟩
 refine (JC.norm (i := 0) hf0 (JC.norm (i := 2) hf2 (JC.norm (i := 6) hf6 (JC.norm (i := 7) hf7 (JC.norm (i := 8) hf8 ?_)))))
 refine JC.seq (JC.region (by rfl) ?_)
 intro hQ
 refine JL.fieldAddr fo_39_0 rfl .none rfl ?_
 refine JL.loadOwn 1 az_3 rfl rfl rfl .none rfl ?_
 refine JL.fieldAddr fo_39_0 rfl .none rfl ?_
 refine JL.loadOwn 0 az_3 rfl rfl rfl .none rfl ?_
 refine JL.bin rfl rfl rfl .none rfl ?_
 refine JL.move .none rfl ?_
 refine JL.cut 6 (fun f => f 0 = .pointer (some ⟨t_b, t_o, none⟩) ∧ f 2 = .int .i64 width ∧ f 7 = .pointer (some ⟨b6, 0, none⟩) ∧ f 32 = .bool ((decide (y1.Low ≤ y7.Low)) && (decide (y7.High ≤ y1.High)))) ?_ ?_
 ·intro hJ9
  rcases bcases (decide (y1.Low ≤ y7.Low)) with hc10 | hc10
  ·skip
   refine JL.fieldAddr fo_39_1 rfl (.some rfl rfl rfl hc10) rfl ?_
   refine JL.loadOwn 0 az_3 rfl rfl rfl (.some rfl rfl rfl hc10) rfl ?_
   refine JL.fieldAddr fo_39_1 rfl (.some rfl rfl rfl hc10) rfl ?_
   refine JL.loadOwn 1 az_3 rfl rfl rfl (.some rfl rfl rfl hc10) rfl ?_
   refine JL.bin rfl rfl rfl (.some rfl rfl rfl hc10) rfl ?_
   refine JL.pick_t (b := decide (y1.Low ≤ y7.Low)) rfl hc10 .none rfl ?_
   exact hJ9 _ ⟨rfl, rfl, rfl, and_t hc10 rfl⟩
  ·skip
   refine JL.skip (.bool rfl rfl rfl hc10) rfl ?_
   refine JL.skip (.bool rfl rfl rfl hc10) rfl ?_
   refine JL.skip (.bool rfl rfl rfl hc10) rfl ?_
   refine JL.skip (.bool rfl rfl rfl hc10) rfl ?_
   refine JL.skip (.bool rfl rfl rfl hc10) rfl ?_
   refine JL.pick_f (b := decide (y1.Low ≤ y7.Low)) rfl hc10 .none rfl ?_
   exact hJ9 _ ⟨rfl, rfl, rfl, and_f hc10 rfl⟩
 ·rintro f ⟨hf0, hf2, hf7, hf32⟩
  refine (JL.norm (i := 0) hf0 (JL.norm (i := 2) hf2 (JL.norm (i := 7) hf7 (JL.norm (i := 32) hf32 ?_))))
  refine JL.done hQ (JQ.go ?_)
  rcases ite_some hF with ⟨hc11, hF⟩ | ⟨hc11, hF⟩
  ·refine JC.cond_t (b := ((decide (y1.Low ≤ y7.Low)) && (decide (y7.High ≤ y1.High)))) rfl hc11 ?_
   refine JC.seq (JC.region (by rfl) ?_)
   intro hQ
   refine JL.assign .none rfl ?_
   refine JL.done hQ (JQ.go (JC.ret (JQ.ret_then ?_)))
   obtain rfl := Option.some.inj hF
   exact JQ.outS rfl (.tmp .nil) rfl
  ·refine JC.cond_f (b := ((decide (y1.Low ≤ y7.Low)) && (decide (y7.High ≤ y1.High)))) rfl hc11 ?_
   refine JC.skip (JQ.go (JC.seq (JC.seq (JC.region (by rfl) ?_))))
   intro hQ
   refine JL.move .none rfl ?_
   refine JL.move .none rfl ?_
   obtain ⟨y12, hy12, hF⟩ := bind_some hF
   refine JL.callXB (c_cloth_tent_sums n H t t_v0 ht_0 t_v1 ht_1 t_v3 ht_3 t_v4 ht_4 t_v6 ht_6 t_b t_o t_c width y12 hy12) rfl en_115 .none rfl ?_
   rintro H13 _ _ hs13 ⟨b14, es15, ck16, rfl, rfl, hm17⟩
   refine JL.rangeM mp_186 rfl (.own 0 rfl) hm17 .none rfl ?_
   intro r18 sn19 seen20 cz21 hI22
   refine JL.done hQ (JQ.go ?_)
   obtain ⟨r64, hlr64, hKr64⟩ := bind_some hF
   refine JC.join (fun (_ : Unit) H63 f bs gs => bs = [] ∧ gs = [] ∧ HSub H13 H63 ∧ Sum.inr () = r64) ?_ ?_
   ·skip
    obtain ⟨rs83, hper84, hl85⟩ := bind_some hlr64
    refine JC.block (JC.mask [true, true, false, true] [] ?_)
    refine JC.mapLoop (srt_nodup hI22.srt) hper84 (fun (dd : Mp) (s_ : Bool) H82 f bs gs => ∃ (sn_r18 : Nat) (se_r18 : Array Nat) (cz_r18 : Nat), s_ = false ∧ f 7 = .pointer (some ⟨b6, 0, none⟩) ∧ f 36 = .pointer (some ⟨r18, 0, none⟩) ∧ bs = [(r18, .mapIter (some b14) sn_r18 se_r18 cz_r18), (b14, .map es15 ck16), (b6, .cells [.int .i64 y1.Low, .int .i64 y1.High].toArray 39)] ∧ gs = [] ∧ IR 1 ekI y12 y12 es15 ck16 sn_r18 se_r18 cz_r18 dd ∧ HSub H13 H82) ⟨sn19, seen20, cz21, rfl, rfl, rfl, rfl, rfl, hI22, (HSub.refl _)⟩ ?_
    rintro dd s_ H82 f bs gs ⟨sn_r18, se_r18, cz_r18, rfl, hf7, hf36, rfl, rfl, hI_r18, hs82⟩ hend86 hgo87
    refine (JC.norm (i := 7) hf7 (JC.norm (i := 36) hf36 ?_))
    refine JC.seq (JC.region (by rfl) ?_)
    intro hQ
    refine JL.nextM 0 kt_3 rfl rfl (.own 1 rfl) hm17 hI_r18 .none rfl ?_ ?_
    ·intro hp88
     refine JL.extract rfl rfl .none rfl ?_
     refine JL.done hQ (JQ.go (JC.seq (JC.cond_f (b := false) rfl rfl ?_)))
     refine JC.exit (JQ.exit_then (JQ.exit_then (JQ.exit_block ?_)))
     have er100 := hend86 hp88
     subst er100
     rw [if_neg Bool.false_ne_true] at hl85
     obtain rfl := Option.some.inj hl85
     refine JQ.mask [false, false, false] [] ?_
     exact JQ.join () ⟨rfl, rfl, hs82, rfl⟩
    ·rintro ⟨kl89, v90⟩ seen91 cz92 hx93 hxm94 hxn95 hI96 hE97
     have kok101 := (hm17.okk _ hxm94)
     dsimp only at kok101
     obtain ⟨k102, rfl⟩ := Kok.one kok101
     obtain ⟨sp99, hst98⟩ := hgo87 ([k102], v90) hx93 hxn95
     have hF := hst98
     rw [F_cloth_tent_tight_s1] at hF
     refine JL.extract rfl rfl .none rfl ?_
     refine JL.done hQ (JQ.go (JC.seq (JC.cond_t (b := true) rfl rfl ?_)))
     refine JC.skip (JQ.go (JC.block (JC.seq (JC.region (by rfl) ?_))))
     intro hQ
     refine JL.entryIt (y := ([k102], v90)) 0 rfl rfl (.own 1 rfl) hm17 hE97 .none rfl ?_
     refine JL.extract rfl rfl .none rfl ?_
     refine JL.assign .none rfl ?_
     refine JL.done hQ (JQ.go (JC.seq (JC.region (by rfl) ?_)))
     intro hQ
     refine JL.move .none rfl ?_
     refine JL.fieldAddr fo_39_0 rfl .none rfl ?_
     refine JL.loadOwn 2 az_3 rfl rfl rfl .none rfl ?_
     refine JL.fieldAddr fo_39_1 rfl .none rfl ?_
     refine JL.loadOwn 2 az_3 rfl rfl rfl .none rfl ?_
     obtain ⟨y103, hy103, hF⟩ := bind_some hF
     refine JL.callS (c_cloth_within n H82 k102 y1.Low y1.High y103 hy103) rfl en_109 .none rfl ?_
     refine JL.done hQ (JQ.go ?_)
     rcases ite_some hF with ⟨hc104, hF⟩ | ⟨hc104, hF⟩
     ·refine JC.cond_t (b := y103) rfl hc104 ?_
      refine JC.seq (JC.region (by rfl) ?_)
      intro hQ
      refine JL.assign .none rfl ?_
      refine JL.done hQ (JQ.go (JC.fresh (fun f => f 6 = .int .i64 3) rfl ?_))
      rintro f hf6
      refine (JC.norm (i := 6) hf6 ?_)
      refine JC.ret (JQ.ret_block (JQ.ret_then (JQ.ret_block (JQ.ret_join (JQ.ret_then ?_)))))
      obtain rfl := Option.some.inj hF
      have er105 := permO_any (fun _ => rfl) hper84 hx93 hst98
      subst er105
      rw [if_pos rfl] at hl85
      obtain rfl := Option.some.inj hl85
      have hF := hKr64
      try dsimp only at hF
      obtain rfl := Option.some.inj hF
      exact JQ.outS rfl (.tmp .nil) rfl
     ·refine JC.cond_f (b := y103) rfl hc104 ?_
      refine JC.skip (JQ.normal_block ?_)
      obtain rfl := Option.some.inj hF
      exact JQ.mnext hx93 hxn95 hst98 ⟨sn_r18, seen91, cz92, rfl, rfl, rfl, rfl, rfl, hI96, hs82⟩
   ·rintro _ H63 f bs gs ⟨rfl, rfl, hs63, rfl⟩
    have hF := hKr64
    try dsimp only at hF
    refine JQ.go (JC.seq (JC.region (by rfl) ?_))
    intro hQ
    refine JL.assign .none rfl ?_
    refine JL.done hQ (JQ.go (JC.ret ?_))
    obtain rfl := Option.some.inj hF
    exact JQ.outS rfl (.tmp .nil) rfl
-- 16 ferrule/cloth.Tight
noncomputable def F_cloth_Tight (n : Nat) (d : Dome) (row : Int) : Option (Int × Int) :=
 (F_cloth_isRow n d row).bind fun y4 => (F_cloth_pitch n d y4).bind fun y5 => if (y5.2 != 0) = true then (some (0, y5.2)) else ((geti d.Widths row).bind fun y13 => y5.1.bind fun w018 => (F_cloth_tent_tight n w018 row y13).bind fun y24 => some (y24, 0))
theorem c_cloth_Tight (n : Nat) (H : Hp) (d : Dome) (d_v0 : Value) (hd_0 : SL H 4 R_Bolt d_v0 d.Bolts) (d_v1 : Value) (hd_1 : SL H 1 RInt d_v1 d.Gores) (d_v3 : Value) (hd_3 : SL H 2 R_Span d_v3 d.Rounds) (d_v4 : Value) (hd_4 : SL H 1 RInt d_v4 d.Widths) (row : Int) (y : Int × Int) (hF : F_cloth_Tight n d row = some y) : SC Try.prog 16 [.agg [d_v0, d_v1, .int .i64 d.Loss, d_v3, d_v4, .int .i64 d.Slope].toArray, .int .i64 row] (.tuple [.int .i64 y.1, .int .i64 y.2].toArray) H := by
 rw [F_cloth_Tight] at hF
 refine SC.of (N := 27) Try.func16 rfl rfl rfl fun w => ?_
 refine JC.seq (JC.region (by rfl) ?_)
 intro hQ
 refine JL.box (cs := [d_v0, d_v1, .int .i64 d.Loss, d_v3, d_v4, .int .i64 d.Slope]) rfl .none rfl ?_
 intro b1
 refine JL.assign .none rfl ?_
 refine JL.assign .none rfl ?_
 refine JL.done hQ (JQ.go (JC.seq ?_))
 obtain ⟨y4, hy4, hF⟩ := bind_some hF
 obtain ⟨y5, hy5, hF⟩ := bind_some hF
 refine JC.mixed 10 10 #[false, false, false, false, false, false, false, false, false, false] [(b1, .cells [d_v0, d_v1, .int .i64 d.Loss, d_v3, d_v4, .int .i64 d.Slope].toArray 26)] (by rfl) mo_ (by kernel_rfl) (by kernel_rfl) ?_
 intro hQ hE
 refine JA.take 0 (listed' := #[true, false, false, false, false, false, false, false, false, false]) hQ rfl (by kernel_rfl) (by kernel_rfl) (by kernel_rfl) (by kernel_rfl) (by kernel_rfl) hE (HSub.refl _) (.cons_cons _ (List.nil_sublist _)) ?_
 refine JL.loadOwn 0 az_26 rfl rfl rfl .none rfl ?_
 refine JA.cont ?_
 refine JA.take 1 (listed' := #[true, true, false, false, false, false, false, false, false, false]) hQ rfl (by kernel_rfl) (by kernel_rfl) (by kernel_rfl) (by kernel_rfl) (by kernel_rfl) hE (HSub.refl _) (.cons_cons _ (List.nil_sublist _)) ?_
 refine JL.loadOwn 0 az_26 rfl rfl rfl .none rfl ?_
 refine JA.cont ?_
 refine JA.take 2 (listed' := #[true, true, true, false, false, false, false, false, false, false]) hQ rfl (by kernel_rfl) (by kernel_rfl) (by kernel_rfl) (by kernel_rfl) (by kernel_rfl) hE (HSub.refl _) (.cons_cons _ (List.nil_sublist _)) ?_
 refine JL.move .none rfl ?_
 refine JA.cont ?_
 refine JA.many [3] (by kernel_rfl) (by simp) (all_one ⟨_, #[true, true, true, true, false, false, false, false, false, false], rfl, (by kernel_rfl), ?_⟩)
 refine JL.callS (c_cloth_isRow n H d d_v0 hd_0 d_v1 hd_1 d_v3 hd_3 d_v4 hd_4 row y4 hy4) rfl en_59 .none rfl ?_
 refine JA.after hE (HSub.refl _) (.cons_cons _ (List.nil_sublist _)) ?_
 refine JA.many [4] (by kernel_rfl) (by simp) (all_one ⟨_, #[true, true, true, true, true, false, false, false, false, false], rfl, (by kernel_rfl), ?_⟩)
 refine JL.callH (c_cloth_pitch n H d d_v0 hd_0 d_v1 hd_1 d_v3 hd_3 d_v4 hd_4 y4 y5 hy5) rfl en_54 .none rfl ?_
 rintro H10 vv11 hs10 ⟨y5a_v0, rfl, hy5a_0⟩
 refine JA.after hE hs10 (.cons_cons _ (List.nil_sublist _)) ?_
 refine JA.take 5 (listed' := #[true, true, true, true, true, true, false, false, false, false]) hQ rfl (by kernel_rfl) (by kernel_rfl) (by kernel_rfl) (by kernel_rfl) (by kernel_rfl) hE hs10 (.cons_cons _ (List.nil_sublist _)) ?_
 refine JL.move .none rfl ?_
 refine JA.cont ?_
 refine JA.take 6 (listed' := #[true, true, true, true, true, true, true, false, false, false]) hQ rfl (by kernel_rfl) (by kernel_rfl) (by kernel_rfl) (by kernel_rfl) (by kernel_rfl) hE hs10 (.cons_cons _ (List.nil_sublist _)) ?_
 refine JL.extract rfl rfl .none rfl ?_
 refine JA.cont ?_
 refine JA.take 7 (listed' := #[true, true, true, true, true, true, true, true, false, false]) hQ rfl (by kernel_rfl) (by kernel_rfl) (by kernel_rfl) (by kernel_rfl) (by kernel_rfl) hE hs10 (.cons_cons _ (List.nil_sublist _)) ?_
 refine JL.extract rfl rfl .none rfl ?_
 refine JA.cont ?_
 refine JA.take 8 (listed' := #[true, true, true, true, true, true, true, true, true, false]) hQ rfl (by kernel_rfl) (by kernel_rfl) (by kernel_rfl) (by kernel_rfl) (by kernel_rfl) hE hs10 (.cons_cons _ (List.nil_sublist _)) ?_
 refine JL.assign .none rfl ?_
 refine JA.cont ?_
 refine JA.take 9 (listed' := #[true, true, true, true, true, true, true, true, true, true]) hQ rfl (by kernel_rfl) (by kernel_rfl) (by kernel_rfl) (by kernel_rfl) (by kernel_rfl) hE hs10 (.cons_cons _ (List.nil_sublist _)) ?_
 refine JL.assign .none rfl ?_
 refine JA.cont ?_
 refine JA.done hQ (by kernel_rfl) ?_
 refine JQ.go (JC.fresh (fun f => f 1 = .int .i64 row ∧ f 2 = .pointer (some ⟨b1, 0, none⟩) ∧ f 4 = .int .i64 0 ∧ f 5 = .int .i64 0 ∧ f 6 = y5a_v0 ∧ f 7 = .int .i64 y5.2) ⟨rfl, rfl, rfl, rfl, rfl, rfl⟩ ?_)
 rintro f ⟨hf1, hf2, hf4, hf5, hf6, hf7⟩
 refine (JC.norm (i := 1) hf1 (JC.norm (i := 2) hf2 (JC.norm (i := 4) hf4 (JC.norm (i := 5) hf5 (JC.norm (i := 6) hf6 (JC.norm (i := 7) hf7 ?_))))))
 refine JC.seq (JC.seq (JC.region (by rfl) ?_))
 intro hQ
 refine JL.move .none rfl ?_
 refine JL.bin rfl rfl rfl .none rfl ?_
 refine JL.done hQ (JQ.go ?_)
 rcases ite_some hF with ⟨hc12, hF⟩ | ⟨hc12, hF⟩
 ·refine JC.cond_t (b := (y5.2 != 0)) rfl hc12 ?_
  refine JC.seq (JC.region (by rfl) ?_)
  intro hQ
  refine JL.move .none rfl ?_
  refine JL.assign .none rfl ?_
  refine JL.assign .none rfl ?_
  refine JL.done hQ (JQ.go (JC.ret (JQ.ret_then ?_)))
  obtain rfl := Option.some.inj hF
  exact JQ.outS rfl (.tmp (.tmp .nil)) rfl
 ·refine JC.cond_f (b := (y5.2 != 0)) rfl hc12 ?_
  refine JC.skip (JQ.go (JC.seq (JC.region (by rfl) ?_)))
  intro hQ
  refine JL.move .none rfl ?_
  refine JL.move .none rfl ?_
  refine JL.fieldAddr fo_26_4 rfl .none rfl ?_
  refine JL.loadOwn 0 az_23 rfl rfl rfl .none rfl ?_
  refine JL.move .none rfl ?_
  obtain ⟨y13, hy13, hF⟩ := bind_some hF
  refine JL.indexSL (R := RInt) sl_23 (SL.mono RInt.mono hs10 hd_4) rfl hy13 .none rfl ?_
  rintro b14 o15 cs16 hc17 - rfl
  refine JL.loadH 0 az_3 rfl hc17 rfl .none rfl ?_
  obtain ⟨w018, hw018, hF⟩ := bind_some hF
  obtain ⟨b19, o20, cs21, hv22, hc23, ⟨w018_v0, w018_v1, w018_v3, w018_v4, w018_v6, rfl, hw018_0, hw018_1, hw018_3, hw018_4, hw018_6⟩⟩ := (show PT H10 R_cloth_tent y5a_v0 (some w018) by rw [← hw018]; exact hy5a_0)
  subst hv22
  obtain ⟨y24, hy24, hF⟩ := bind_some hF
  refine JL.callS (c_cloth_tent_tight n H10 w018 w018_v0 hw018_0 w018_v1 hw018_1 w018_v3 hw018_3 w018_v4 hw018_4 w018_v6 hw018_6 b19 o20 hc23 row y13 y24 hy24) rfl en_61 .none rfl ?_
  refine JL.assign .none rfl ?_
  refine JL.assign .none rfl ?_
  refine JL.done hQ (JQ.go (JC.fresh (fun f => f 4 = .int .i64 y24 ∧ f 5 = .int .i64 0) ⟨rfl, rfl⟩ ?_))
  rintro f ⟨hf4, hf5⟩
  refine (JC.norm (i := 4) hf4 (JC.norm (i := 5) hf5 ?_))
  refine JC.ret ?_
  obtain rfl := Option.some.inj hF
  exact JQ.outS rfl (.tmp (.tmp .nil)) rfl
end Go.Proofs.Yteihdclpiekmaaa
end
section
namespace Go.Dec
theorem w64_nat {i : Nat} (h : i ≤ 4611686018427387904) : w64 ((i : Int) + 1) = ((i + 1 : Nat) : Int) := by
  rw [w64_id] <;> omega
theorem lim_ok {α : Type} {l : List α} (h : l.length ≤ 4294967296) : lim l = some l := by simp [lim, h]
section
variable {S R : Type} {step : S → Option (S ⊕ R)}
theorem loopO_succ {n : Nat} {s : S} : loopO (n + 1) step s = (match step s with | none => none | some (.inl s') => loopO n step s' | some (.inr r) => some r) := by
  rw [loopO]; rcases step s with _ | (_ | _) <;> rfl
theorem loop_done {n : Nat} {s : S} {r : R} (h : step s = some (.inr r)) (hn : 0 < n) : loopO n step s = some r := by
  obtain ⟨m, rfl⟩ : ∃ k, n = k + 1 := ⟨n - 1, by omega⟩
  rw [loopO_succ, h]
/-- a run of states -/
theorem loop_run (s : Nat → S) {r : R} : ∀ (k i n : Nat), (∀ j, i ≤ j → j < i + k → step (s j) = some (.inl (s (j + 1)))) → step (s (i + k)) = some (.inr r) → k < n → loopO n step (s i) = some r := by
  intro k
  induction k with
  | zero => intro i n _ h hn; exact loop_done h hn
  | succ k ih =>
    intro i n h hd hn
    obtain ⟨m, rfl⟩ : ∃ k, n = k + 1 := ⟨n - 1, by omega⟩
    rw [loopO_succ, h i (Nat.le_refl _) (by omega)]
    exact ih (i + 1) m (fun j h1 h2 => h j (by omega) (by omega)) (by rw [show i + 1 + k = i + (k + 1) by omega]; exact hd) (by omega)
/-- a loop that folds a list; I: what is so of the state before round i -/
theorem loop_fold {α β : Type} (l : List α) (enc : Nat → β → S) (g : β → α → β) (fin : β → R) (I : Nat → β → Prop) {n : Nat} (b0 : β) (h0 : I 0 b0)
    (h : ∀ i x b, l[i]? = some x → I i b → step (enc i b) = some (.inl (enc (i + 1) (g b x))) ∧ I (i + 1) (g b x))
    (hd : ∀ b, I l.length b → step (enc l.length b) = some (.inr (fin b))) (hn : l.length < n) : loopO n step (enc 0 b0) = some (fin (l.foldl g b0)) ∧ I l.length (l.foldl g b0) := by
  have key : ∀ (k i : Nat) (b : β) (n : Nat), i + k = l.length → I i b → k < n → loopO n step (enc i b) = some (fin ((l.drop i).foldl g b)) ∧ I l.length ((l.drop i).foldl g b) := by
    intro k
    induction k with
    | zero =>
      intro i b n hi hI hn
      have e : i = l.length := by omega
      subst e
      rw [List.drop_length]
      exact ⟨loop_done (hd b hI) hn, hI⟩
    | succ k ih =>
      intro i b n hi hI hn
      obtain ⟨m, rfl⟩ : ∃ k, n = k + 1 := ⟨n - 1, by omega⟩
      have hlt : i < l.length := by omega
      obtain ⟨h1, h2⟩ := h i l[i] b (List.getElem?_eq_getElem hlt) hI
      rw [loopO_succ, h1, List.drop_eq_getElem_cons hlt, List.foldl_cons]
      exact ih (i + 1) _ m (by omega) h2 (by omega)
  have := key l.length 0 b0 n (by omega) h0 hn
  rwa [List.drop_zero] at this
/-- .. with nothing to be remembered -/
theorem loop_foldl {α β : Type} (l : List α) (enc : Nat → β → S) (g : β → α → β) (fin : β → R) {n : Nat} (b0 : β)
    (h : ∀ i x b, l[i]? = some x → i < l.length → step (enc i b) = some (.inl (enc (i + 1) (g b x))))
    (hd : ∀ b, step (enc l.length b) = some (.inr (fin b))) (hn : l.length < n) : loopO n step (enc 0 b0) = some (fin (l.foldl g b0)) :=
  (loop_fold l enc g fin (fun _ _ => True) b0 trivial (fun i x b hx _ => ⟨h i x b hx (List.getElem?_eq_some_iff.1 hx).1, trivial⟩) (fun b _ => hd b) hn).1
/-- a search by index -/
theorem loop_all {ρ : Type} {step : Int → Option (Int ⊕ (ρ ⊕ Unit))} (k : Nat) (p : Nat → Bool) (r : ρ) {n : Nat} (hk : k ≤ 4611686018427387904)
    (h : ∀ i, i < k → step (i : Int) = some (bif p i then .inl ((i + 1 : Nat) : Int) else .inr (.inl r))) (hd : step (k : Int) = some (.inr (.inr ()))) (hn : k < n) :
    loopO n step 0 = some (bif (List.range k).all p then .inr () else .inl r) := by
  have key : ∀ (m i n : Nat), i + m = k → m < n → loopO n step (i : Int) = some (bif (List.range' i m).all p then .inr () else .inl r) := by
    intro m
    induction m with
    | zero => intro i n hi hn; have : i = k := by omega
              subst this; rw [loop_done hd (by omega)]; simp
    | succ m ih =>
      intro i n hi hn
      obtain ⟨m', rfl⟩ : ∃ k, n = k + 1 := ⟨n - 1, by omega⟩
      rw [loopO_succ, h i (by omega), List.range'_succ, List.all_cons]
      cases hp : p i with
      | false => simp
      | true => simp only [cond_true, Bool.true_and]; exact ih (i + 1) m' (by omega) (by omega)
  have := key k 0 n (by omega) hn
  rw [List.range_eq_range']
  exact this
/-- a search in a list -/
theorem loop_all_l {α ρ : Type} {step : Int → Option (Int ⊕ (ρ ⊕ Unit))} (l : List α) (p : α → Bool) (r : ρ) {n : Nat} (hk : l.length ≤ 4611686018427387904)
    (h : ∀ i x, l[i]? = some x → i < l.length → step (i : Int) = some (bif p x then .inl ((i + 1 : Nat) : Int) else .inr (.inl r))) (hd : step (l.length : Int) = some (.inr (.inr ()))) (hn : l.length < n) :
    loopO n step 0 = some (bif l.all p then .inr () else .inl r) := by
  have := loop_all l.length (fun i => match l[i]? with | some x => p x | none => true) r hk (fun i hi => by
    rw [h i l[i] (List.getElem?_eq_getElem hi) hi]; simp [hi]) hd hn
  rw [this]
  have e : (List.range l.length).all (fun i => match l[i]? with | some x => p x | none => true) = l.all p := by
    rw [Bool.eq_iff_iff]
    simp only [List.all_eq_true, List.mem_range]
    constructor
    · intro h x hx
      obtain ⟨i, hi⟩ := List.mem_iff_getElem?.1 hx
      have := h i (List.getElem?_eq_some_iff.1 hi).1
      simpa [hi] using this
    · intro h i hi
      simpa [hi] using h _ (List.getElem_mem hi)
  rw [e]
end
end Go.Dec
end
section
namespace Go.Dec
def span (a b : Int) : List Int := (List.range (b + 1 - a).toNat).map fun j : Nat => a + j
theorem span_mem' {a b x : Int} : x ∈ span a b ↔ a ≤ x ∧ x ≤ b := by
  simp only [span, List.mem_map, List.mem_range]
  constructor
  · rintro ⟨j, h, rfl⟩; omega
  · intro h; exact ⟨(x - a).toNat, by omega, by omega⟩
theorem span_len (a b : Int) : (span a b).length = (b + 1 - a).toNat := by simp [span]
theorem span_nil {a b : Int} (h : b < a) : span a b = [] := by
  have : (b + 1 - a).toNat = 0 := by omega
  simp [span, this]
theorem span_cons {a b : Int} (h : a ≤ b) : span a b = a :: span (a + 1) b := by
  have : (b + 1 - a).toNat = (b + 1 - (a + 1)).toNat + 1 := by omega
  unfold span
  rw [this, List.range_succ_eq_map, List.map_cons, List.map_map]
  simp only [Int.natCast_zero, Int.add_zero]
  congr 1
  apply List.map_congr_left
  intro j _
  simp only [Function.comp]
  omega
end Go.Dec
end
section
namespace Go.Dec
def expand (m : Mp) : List (List Int) := m.flatMap fun p => List.replicate p.2.toNat p.1
/-- the map counts the list's members -/
structure RM (L : List (List Int)) (m : Mp) : Prop where
  srt : Srt m
  pos : ∀ p ∈ m, 0 < p.2
  perm : (expand m).Perm L
theorem mget_cons {p : List Int × Int} {r : Mp} {k : List Int} : mget (p :: r) k = if p.1 = k then p.2 else mget r k := by
  unfold mget
  rw [List.find?_cons]
  by_cases h : p.1 = k
  · have : (p.1 == k) = true := by simpa using h
    rw [this, if_pos h]
  · have : (p.1 == k) = false := by simpa using h
    rw [this, if_neg h]
theorem mget_nil {k : List Int} : mget [] k = 0 := rfl
theorem expand_cons (p : List Int × Int) (r : Mp) : expand (p :: r) = List.replicate p.2.toNat p.1 ++ expand r := by simp [expand]
theorem mget_nonneg {m : Mp} (hp : ∀ p ∈ m, 0 < p.2) (k : List Int) : 0 ≤ mget m k := by
  induction m with
  | nil => simp [mget_nil]
  | cons p r ih =>
    rw [mget_cons]
    split
    · have := hp p (List.mem_cons_self ..); omega
    · exact ih fun q hq => hp q (List.mem_cons_of_mem _ hq)
theorem expand_mput {k : List Int} {c : Int} (hc : 0 < c) : ∀ {m : Mp}, Srt m → (∀ p ∈ m, 0 < p.2) → (expand (mput m k (mget m k + c))).Perm (expand m ++ List.replicate c.toNat k)
  | [], _, _ => by simp [mput, mget_nil, expand]
  | p :: r, hs, hp => by
    obtain ⟨h1, h2⟩ := List.pairwise_cons.1 hs
    have hp' : ∀ q ∈ r, 0 < q.2 := fun q hq => hp q (List.mem_cons_of_mem _ hq)
    have hpp := hp p (List.mem_cons_self ..)
    rw [mget_cons]
    unfold mput
    by_cases e : p.1 = k
    · rw [if_pos e, if_pos (by simpa using e), expand_cons, expand_cons]
      simp only
      have e1 : (p.2 + c).toNat = p.2.toNat + c.toNat := by omega
      rw [e1, ← List.replicate_append_replicate, e]
      rw [List.append_assoc, List.append_assoc]
      exact List.Perm.append_left _ List.perm_append_comm
    · rw [if_neg e, if_neg (by simpa using e)]
      by_cases hl : klt k p.1 = true
      · rw [if_pos hl]
        have h0 : mget r k = 0 := mget_of_not fun q hq e2 => by
          have := klt_trans hl (h1 q hq)
          rw [e2, klt_irrefl] at this
          cases this
        rw [h0, expand_cons, Int.zero_add]
        exact List.perm_append_comm
      · rw [if_neg hl, expand_cons, expand_cons, List.append_assoc]
        exact List.Perm.append_left _ (expand_mput hc h2 hp')
theorem RM.nil : RM [] [] := ⟨List.Pairwise.nil, by simp, by simp [expand]⟩
theorem RM.perm' {L L' : List (List Int)} {m : Mp} (h : RM L m) (hp : L.Perm L') : RM L' m := ⟨h.srt, h.pos, h.perm.trans hp⟩
theorem RM.add {L : List (List Int)} {m : Mp} (h : RM L m) (k : List Int) {c : Int} (hc : 0 < c) : RM (L ++ List.replicate c.toNat k) (mput m k (mget m k + c)) := by
  refine ⟨srt_mput h.srt, fun p hp => ?_, (expand_mput hc h.srt h.pos).trans (h.perm.append_right _)⟩
  rcases (mem_mput h.srt).1 hp with rfl | ⟨hp, _⟩
  · have := mget_nonneg h.pos k; simp only; omega
  · exact h.pos p hp
theorem mget_count {k : List Int} : ∀ {m : Mp}, Srt m → (∀ p ∈ m, 0 < p.2) → mget m k = ((expand m).count k : Nat)
  | [], _, _ => by simp [mget_nil, expand]
  | p :: r, hs, hp => by
    obtain ⟨h1, h2⟩ := List.pairwise_cons.1 hs
    have hp' : ∀ q ∈ r, 0 < q.2 := fun q hq => hp q (List.mem_cons_of_mem _ hq)
    have hpp := hp p (List.mem_cons_self ..)
    rw [mget_cons, expand_cons, List.count_append, List.count_replicate]
    have ih := mget_count (k := k) h2 hp'
    by_cases e : p.1 = k
    · rw [if_pos e, if_pos (by simpa using e)]
      have h0 : mget r k = 0 := mget_of_not fun q hq e2 => by
        have := h1 q hq
        rw [e2, ← e, klt_irrefl] at this
        cases this
      omega
    · rw [if_neg e, if_neg (by simpa using e)]
      omega
theorem RM.get {L : List (List Int)} {m : Mp} (h : RM L m) (k : List Int) : mget m k = (L.count k : Nat) := by
  rw [mget_count h.srt h.pos, h.perm.count_eq]
theorem RM.mem {L : List (List Int)} {m : Mp} (h : RM L m) {p : List Int × Int} : p ∈ m ↔ p.2 = (L.count p.1 : Nat) ∧ p.1 ∈ L := by
  constructor
  · intro hp
    have h1 := mget_of_mem h.srt (k := p.1) (v := p.2) hp
    rw [h.get] at h1
    refine ⟨h1.symm, ?_⟩
    have := h.pos p hp
    exact List.count_pos_iff.1 (by omega)
  · rintro ⟨h1, h2⟩
    have h3 : 0 < L.count p.1 := List.count_pos_iff.2 h2
    have h4 := h.get p.1
    unfold mget at h4
    cases hf : m.find? (fun q => q.1 == p.1) with
    | none => rw [hf] at h4; simp only at h4; omega
    | some q =>
      rw [hf] at h4
      simp only at h4
      have h5 := List.find?_some hf
      have e : q = p := by
        have : q.1 = p.1 := by simpa using h5
        exact Prod.ext this (by omega)
      rw [← e]
      exact List.mem_of_find?_eq_some hf
theorem RM.uniq {L : List (List Int)} {m m' : Mp} (h : RM L m) (h' : RM L m') : m = m' := srt_ext h.srt h'.srt fun p => by rw [h.mem, h'.mem]
theorem RM.key {L : List (List Int)} {m : Mp} (h : RM L m) {x : List Int} : (∃ c, (x, c) ∈ m) ↔ x ∈ L :=
  ⟨fun ⟨_, hc⟩ => (h.mem.1 hc).2, fun hx => ⟨(L.count x : Nat), h.mem.2 ⟨rfl, hx⟩⟩⟩
theorem expand_length : ∀ {m : Mp}, (∀ p ∈ m, 0 < p.2) → ((expand m).length : Int) = (m.map (·.2)).sum
  | [], _ => by simp [expand]
  | p :: r, hp => by
    have ih := expand_length (m := r) fun q hq => hp q (List.mem_cons_of_mem _ hq)
    have hpp := hp p (List.mem_cons_self ..)
    rw [expand_cons, List.length_append, List.length_replicate, List.map_cons, List.sum_cons]
    omega
theorem RM.total {L : List (List Int)} {m : Mp} (h : RM L m) : (m.map (·.2)).sum = (L.length : Nat) := by
  rw [← expand_length h.pos, h.perm.length_eq]
theorem expand_filter (q : List Int → Bool) : ∀ (m : Mp), expand (m.filter fun p => q p.1) = (expand m).filter q
  | [] => by simp [expand]
  | p :: r => by
    rw [expand_cons, List.filter_append]
    cases hq : q p.1 with
    | true => rw [List.filter_cons_of_pos (p := fun p : List Int × Int => q p.1) hq, expand_cons, expand_filter q r, List.filter_replicate_of_pos hq]
    | false => rw [List.filter_cons_of_neg (p := fun p : List Int × Int => q p.1) (by simp [hq]), expand_filter q r, List.filter_replicate_of_neg (by simp [hq]), List.nil_append]
theorem RM.filter {L : List (List Int)} {m : Mp} (h : RM L m) (q : List Int → Bool) : RM (L.filter q) (m.filter fun p => q p.1) :=
  ⟨h.srt.filter _, fun p hp => h.pos p (List.mem_filter.1 hp).1, by rw [expand_filter]; exact h.perm.filter _⟩
def tally (L : List (List Int)) : Mp := L.foldl (fun m k => mput m k (mget m k + 1)) []
theorem tally_ok (L : List (List Int)) : RM L (tally L) := by
  have key : ∀ (L L0 : List (List Int)) (m : Mp), RM L0 m → RM (L0 ++ L) (L.foldl (fun m k => mput m k (mget m k + 1)) m) := by
    intro L
    induction L with
    | nil => intro L0 m h; simpa using h
    | cons k L ih =>
      intro L0 m h
      rw [List.foldl_cons]
      have := ih (L0 ++ [k]) _ (by simpa using h.add k (c := 1) (by omega))
      simpa using this
  have := key L [] [] RM.nil
  rw [List.nil_append] at this
  exact this
theorem RM.eq {L : List (List Int)} {m : Mp} (h : RM L m) : m = tally L := h.uniq (tally_ok L)
theorem foldl_perm {α β : Type} {g : β → α → β} (hg : ∀ b x y, g (g b x) y = g (g b y) x) {l m : List α} (h : l.Perm m) : ∀ b, l.foldl g b = m.foldl g b := by
  induction h with
  | nil => intro b; rfl
  | cons x _ ih => intro b; exact ih _
  | swap x y l => intro b; simp only [List.foldl_cons]; rw [hg]
  | trans _ _ ih1 ih2 => intro b; rw [ih1, ih2]
end Go.Dec
end
