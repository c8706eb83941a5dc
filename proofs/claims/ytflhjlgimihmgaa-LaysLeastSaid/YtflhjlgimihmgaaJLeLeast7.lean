/-
  A part of the proof of LeLeast: the texts LeGenK9, LeGenK10.
-/
import Derived.Test.YtflhjlgimihmgaaJLeLeast6
section
set_option maxRecDepth 100000
set_option maxHeartbeats 40000000
namespace Go.Proofs.Ytflhjlgimihmgaa
open Go Go.RowKit Go.Dec
set_option linter.unusedVariables false
-- 57 ferrule/ferruleref03.least
def F_ref03_least_s2 (n : Nat) (s : Lap) (rows_8596 : Int) : Int × Mx → Option ((Int × Mx) ⊕ Mx)
 | (i_8659, mx_8660) => if decide (i_8659 < rows_8596) = true then ((lim (mx_8660 ++ [(List.replicate ((s.Width).toNat) false)])).bind fun l8665 => some (Sum.inl ((w64 (i_8659 + 1)), l8665))) else (some (Sum.inr mx_8660))
def F_ref03_least_s3 (n : Nat) (bad : List Cell) (rows_8596 : Int) : Int × Mx → Option ((Int × Mx) ⊕ Mx)
 | (i_10028, mx_10029) => if decide (i_10028 < (bad.length : Int)) = true then ((geti bad i_10028).bind fun y10034 => (if decide (y10034.Row < rows_8596) = true then ((geti bad i_10028).bind fun y10191 => (geti mx_10029 y10191.Row).bind fun y10196 => (geti bad i_10028).bind fun y10204 => (geti y10196 y10204.Col).bind fun e10209 => some (setx mx_10029 y10191.Row (setx y10196 y10204.Col true))) else (some mx_10029)).bind fun mx_10168 => some (Sum.inl ((w64 (i_10028 + 1)), mx_10168))) else (some (Sum.inr mx_10029))
def F_ref03_least_s1 (n : Nat) (s : Lap) (bad : List Cell) : Int → Option (Int ⊕ (Int ⊕ Unit))
 | rows_8596 => if decide (rows_8596 ≤ s.Length) = true then ((mkck s.Width).bind fun u8602 => (loopO n (F_ref03_least_s2 n s rows_8596) (0, ([] : Mx))).bind fun mx_8636 => (loopO n (F_ref03_least_s3 n bad rows_8596) (0, mx_8636)).bind fun mx_9485 => (F_ref03_cloth_free n (ref03_cloth.mk mx_9485 rows_8596)).bind fun y10300 => (F_ref03_Area n s).bind fun y10303 => (if decide (y10303 ≤ y10300) = true then ((F_ref03_cloth_can n mx_9485 rows_8596 s.Panels).bind fun y10306 => if y10306.1 = true then (some (Sum.inr (Sum.inl rows_8596))) else (some (Sum.inl (w64 (rows_8596 + 1))))) else (some (Sum.inl (w64 (rows_8596 + 1)))))) else (some (Sum.inr (Sum.inr ())))
def F_ref03_least (n : Nat) (s : Lap) (bad : List Cell) : Option Int :=
 (loopO n (F_ref03_least_s1 n s bad) 0).bind fun r5159 => match r5159 with | .inl o => some o | .inr _ => some (-1)
theorem c_ref03_least (n : Nat) (H : Hp) (s : Lap) (s_v2 : Value) (hs_2 : SL H 2 R_Cell s_v2 s.Faults) (s_v3 : Value) (hs_3 : SL H 2 R_Cell s_v3 s.Flaws) (s_v4 : Value) (hs_4 : SL H 1 R_Panel s_v4 s.Panels) (bad : List Cell) (bad_v0 : Value) (hbad_0 : SL H 2 R_Cell bad_v0 bad) (y : Int) (hF : F_ref03_least n s bad = some y) : SC Try.prog 57 [.agg [.int .i64 s.Width, .int .i64 s.Length, s_v2, s_v3, s_v4].toArray, bad_v0] (.int .i64 y) H := by
 rw [F_ref03_least] at hF
 refine SC.of (N := 70) Try.func57 rfl rfl rfl fun w => ?_
 refine JC.seq (JC.region (by rfl) ?_)
 intro hQ
 refine JL.box (cs := [.int .i64 s.Width, .int .i64 s.Length, s_v2, s_v3, s_v4]) rfl .none rfl ?_
 intro b1
 refine JL.assign .none rfl ?_
 refine JL.done hQ (JQ.go (JC.seq (JC.seq (JC.region (by rfl) ?_))))
 intro hQ
 refine JL.assign .none rfl ?_
 refine JL.done hQ (JQ.go ?_)
 obtain ⟨r5159, hlr5159, hKr5159⟩ := bind_some hF
 refine JC.join (fun (_ : Unit) H5158 f bs gs => bs = [] ∧ gs = [] ∧ HSub H H5158 ∧ Sum.inr () = r5159) ?_ ?_
 ·skip
  refine JC.block (JC.loop hlr5159 (fun (rows_8596 : Int) H8597 f bs gs => f 1 = bad_v0 ∧ f 2 = .pointer (some ⟨b1, 0, none⟩) ∧ f 5 = .int .i64 rows_8596 ∧ bs = [(b1, .cells [.int .i64 s.Width, .int .i64 s.Length, s_v2, s_v3, s_v4].toArray 25)] ∧ gs = [] ∧ HSub H H8597) ⟨rfl, rfl, rfl, rfl, rfl, (HSub.refl _)⟩ ?_)
  rintro rows_8596 x8599 H8597 f bs gs ⟨hf1, hf2, hf5, rfl, rfl, hs8597⟩ hF hr8598
  rw [F_ref03_least_s1] at hF
  refine (JC.norm (i := 1) hf1 (JC.norm (i := 2) hf2 (JC.norm (i := 5) hf5 ?_)))
  refine JC.seq (JC.seq (JC.region (by rfl) ?_))
  intro hQ
  refine JL.move .none rfl ?_
  refine JL.fieldAddr fo_25_1 rfl .none rfl ?_
  refine JL.loadOwn 0 az_3 rfl rfl rfl .none rfl ?_
  refine JL.bin rfl rfl rfl .none rfl ?_
  refine JL.done hQ (JQ.go ?_)
  rcases ite_some hF with ⟨hc8600, hF⟩ | ⟨hc8600, hF⟩
  ·refine JC.cond_t (b := decide (rows_8596 ≤ s.Length)) rfl hc8600 ?_
   refine JC.skip (JQ.go (JC.seq (JC.block (JC.seq (JC.region (by rfl) ?_)))))
   intro hQ
   refine JL.move .none rfl ?_
   refine JL.build (l := [.slice none 0 0, .int .i64 rows_8596]) (by kernel_rfl) .none rfl ?_
   refine JL.alloc ze_112 .none rfl ?_
   intro b8601
   refine JL.storeOwn 0 (cs := [.slice none 0 0, .int .i64 rows_8596]) az_112 rfl rfl rfl (one_cons rfl (one_cons rfl one_nil)) rfl rfl .none ?_
   refine JL.done hQ (JQ.go (JC.seq (JC.seq ?_)))
   obtain ⟨u8602, hu8603, hF⟩ := bind_some hF
   refine JC.newNil (e := 113) (sz := 1) ?_
   refine JC.region (by rfl) ?_
   intro hQ
   refine JL.assign .none rfl ?_
   refine JL.done hQ (JQ.go ?_)
   obtain ⟨r8638, hlr8638, hKr8638⟩ := bind_some hF
   refine JC.join (fun (mx_8636 : Mx) H8637 f bs gs => ∃ (blmx_8636 : List Nat) (vmx_8636 : Value), f 1 = bad_v0 ∧ f 2 = .pointer (some ⟨b1, 0, none⟩) ∧ f 5 = .int .i64 rows_8596 ∧ f 6 = .pointer (some ⟨b8601, 0, none⟩) ∧ bs = ((b8601, .cells [vmx_8636, .int .i64 rows_8596].toArray 112) :: (b1, .cells [.int .i64 s.Width, .int .i64 s.Length, s_v2, s_v3, s_v4].toArray 25) :: (mxB 4 blmx_8636 mx_8636 ++ [])) ∧ gs = [⟨vmx_8636, 113, 1, blmx_8636.length, mxV ((s.Width).toNat) blmx_8636⟩] ∧ Mok ((s.Width).toNat) blmx_8636 mx_8636 ∧ HSub H8597 H8637 ∧ mx_8636 = r8638) ?_ ?_
   ·skip
    refine JC.block (JC.loop hlr8638 (fun (x : Int × Mx) H8661 f bs gs => match x with | (i_8659, mx_8660) => ∃ (blmx_8660 : List Nat) (vmx_8660 : Value), f 1 = bad_v0 ∧ f 2 = .pointer (some ⟨b1, 0, none⟩) ∧ f 5 = .int .i64 rows_8596 ∧ f 6 = .pointer (some ⟨b8601, 0, none⟩) ∧ f 7 = .int .i64 i_8659 ∧ bs = ((b8601, .cells [vmx_8660, .int .i64 rows_8596].toArray 112) :: (b1, .cells [.int .i64 s.Width, .int .i64 s.Length, s_v2, s_v3, s_v4].toArray 25) :: (mxB 4 blmx_8660 mx_8660 ++ [])) ∧ gs = [⟨vmx_8660, 113, 1, blmx_8660.length, mxV ((s.Width).toNat) blmx_8660⟩] ∧ Mok ((s.Width).toNat) blmx_8660 mx_8660 ∧ HSub H8597 H8661) ⟨([] : List Nat), (.slice none 0 0), rfl, rfl, rfl, rfl, rfl, rfl, rfl, Mok.nil, (HSub.refl _)⟩ ?_)
    rintro ⟨i_8659, mx_8660⟩ x8663 H8661 f bs gs ⟨blmx_8660, vmx_8660, hf1, hf2, hf5, hf6, hf7, rfl, rfl, hmx_8660, hs8661⟩ hF hr8662
    rw [F_ref03_least_s2] at hF
    refine (JC.norm (i := 1) hf1 (JC.norm (i := 2) hf2 (JC.norm (i := 5) hf5 (JC.norm (i := 6) hf6 (JC.norm (i := 7) hf7 ?_)))))
    refine JC.seq (JC.seq (JC.region (by rfl) ?_))
    intro hQ
    refine JL.move .none rfl ?_
    refine JL.move .none rfl ?_
    refine JL.bin rfl rfl rfl .none rfl ?_
    refine JL.done hQ (JQ.go ?_)
    rcases ite_some hF with ⟨hc8664, hF⟩ | ⟨hc8664, hF⟩
    ·refine JC.cond_t (b := decide (i_8659 < rows_8596)) rfl hc8664 ?_
     refine JC.skip (JQ.go (JC.seq (JC.block ?_)))
     obtain ⟨l8665, hl8666, hF⟩ := bind_some hF
     refine JC.mixed 8 9 #[false, false, false, false, false, false, false, false, false] [(b8601, .cells [vmx_8660, .int .i64 rows_8596].toArray 112), (b1, .cells [.int .i64 s.Width, .int .i64 s.Length, s_v2, s_v3, s_v4].toArray 25)] (by rfl) mo_ (by kernel_rfl) (by kernel_rfl) ?_
     intro hQ hE
     refine JA.take 0 (listed' := #[true, false, false, false, false, false, false, false, false]) hQ rfl (by kernel_rfl) (by kernel_rfl) (by kernel_rfl) (by kernel_rfl) (by kernel_rfl) hE (HSub.refl _) (.cons_cons _ (.cons_cons _ (List.nil_sublist _))) ?_
     refine JL.fieldAddr fo_112_0 rfl .none rfl ?_
     refine JA.cont ?_
     refine JA.take 1 (listed' := #[true, true, false, false, false, false, false, false, false]) hQ rfl (by kernel_rfl) (by kernel_rfl) (by kernel_rfl) (by kernel_rfl) (by kernel_rfl) hE (HSub.refl _) (.cons_cons _ (.cons_cons _ (List.nil_sublist _))) ?_
     refine JL.loadOwn 0 az_110 rfl rfl rfl .none rfl ?_
     refine JA.cont ?_
     refine JA.take 2 (listed' := #[true, true, true, false, false, false, false, false, false]) hQ rfl (by kernel_rfl) (by kernel_rfl) (by kernel_rfl) (by kernel_rfl) (by kernel_rfl) hE (HSub.refl _) (.cons_cons _ (.cons_cons _ (List.nil_sublist _))) ?_
     refine JL.fieldAddr fo_25_0 rfl .none rfl ?_
     refine JA.cont ?_
     refine JA.take 3 (listed' := #[true, true, true, true, false, false, false, false, false]) hQ rfl (by kernel_rfl) (by kernel_rfl) (by kernel_rfl) (by kernel_rfl) (by kernel_rfl) hE (HSub.refl _) (.cons_cons _ (.cons_cons _ (List.nil_sublist _))) ?_
     refine JL.loadOwn 1 az_3 rfl rfl rfl .none rfl ?_
     refine JA.cont ?_
     refine JA.many [4] (by kernel_rfl) (by simp) (all_one ⟨_, #[true, true, true, true, true, false, false, false, false], rfl, (by kernel_rfl), ?_⟩)
     refine JL.makeBools ap_113 ze_4 rfl rfl hu8603 .none rfl ?_
     intro b8667
     refine JA.after hE (HSub.refl _) (.cons _ (.cons_cons _ (.cons_cons _ (List.nil_sublist _)))) ?_
     refine JA.many [5] (by kernel_rfl) (by simp) (all_one ⟨_, #[true, true, true, true, true, true, false, false, false], rfl, (by kernel_rfl), ?_⟩)
     refine JL.buildSlice (e := 113) (l := [.slice (some ⟨b8667, 0, none⟩) ((s.Width).toNat) ((s.Width).toNat)]) (by kernel_rfl) .none rfl ?_
     intro b8668
     refine JA.after hE (HSub.refl _) (.cons _ (.cons _ (.cons_cons _ (.cons_cons _ (List.nil_sublist _))))) ?_
     refine JA.many [6] (by kernel_rfl) (by simp) (all_one ⟨_, #[true, true, true, true, true, true, true, false, false], rfl, (by kernel_rfl), ?_⟩)
     refine JL.append (m := 1) (news := [.slice (some ⟨b8667, 0, none⟩) ((s.Width).toNat) ((s.Width).toNat)]) 0 ap_110 rfl ⟨rfl, rfl⟩ rfl (.own (i := 0) rfl rfl) (one_cons rfl one_nil) (mx_lim hmx_8660 hl8666) .none rfl ?_
     intro v8669
     refine JA.after hE (HSub.refl _) (.cons _ (.cons _ (.cons_cons _ (.cons_cons _ (List.nil_sublist _))))) ?_
     refine JA.many [7] (by kernel_rfl) (by simp) (all_one ⟨_, #[true, true, true, true, true, true, true, true, false], rfl, (by kernel_rfl), ?_⟩)
     refine JL.fieldAddr fo_112_0 rfl .none rfl ?_
     refine JA.after hE (HSub.refl _) (.cons _ (.cons _ (.cons_cons _ (.cons_cons _ (List.nil_sublist _))))) ?_
     refine JA.many [8] (by kernel_rfl) (by simp) (all_one ⟨_, #[true, true, true, true, true, true, true, true, true], rfl, (by kernel_rfl), ?_⟩)
     refine JL.oneG 0 rfl (fun ho8670 => ?_)
     refine JL.storeOwn 2 (cs := [v8669]) az_110 rfl ho8670.2 rfl (one_cons ho8670.1 one_nil) rfl rfl .none ?_
     refine JA.sink (by kernel_rfl) ?_
     refine JA.done hQ (by kernel_rfl) ?_
     refine JQ.mask [false] [] ?_
     refine JQ.permB (bs' := ((b8601, .cells [v8669, .int .i64 rows_8596].toArray 112) :: (b1, .cells [.int .i64 s.Width, .int .i64 s.Length, s_v2, s_v3, s_v4].toArray 25) :: (mxB 4 (blmx_8660 ++ [b8667]) l8665 ++ []))) (mx_grow (e := 4) (b := b8667) [(b8601, .cells ([v8669, .int .i64 rows_8596] : List Value).toArray 112), (b1, .cells ([.int .i64 s.Width, .int .i64 s.Length, s_v2, s_v3, s_v4] : List Value).toArray 25)] hmx_8660 hl8666) ?_
     refine JQ.growG ?_
     refine JQ.normal_block (JQ.go (JC.region (by rfl) ?_))
     intro hQ
     refine JL.move .none rfl ?_
     refine JL.bin rfl rfl rfl .none rfl ?_
     refine JL.assign .none rfl ?_
     refine JL.done hQ ?_
     obtain rfl := Option.some.inj hF
     exact JQ.next rfl ⟨(blmx_8660 ++ [b8667]), v8669, rfl, rfl, rfl, rfl, rfl, rfl, rfl, (Mok.grow hmx_8660 b8667 (List.length_replicate ..) hl8666), hs8661⟩
    ·refine JC.cond_f (b := decide (i_8659 < rows_8596)) rfl hc8664 ?_
     refine JC.exit (JQ.exit_then (JQ.exit_then (JQ.exit_block ?_)))
     obtain rfl := Option.some.inj hF
     have ehr8662 := hr8662 _ rfl
     subst ehr8662
     exact JQ.join mx_8660 ⟨blmx_8660, vmx_8660, rfl, rfl, rfl, rfl, rfl, rfl, hmx_8660, hs8661, rfl⟩
   ·rintro mx_8636 H8637 f bs gs ⟨blmx_8636, vmx_8636, hf1, hf2, hf5, hf6, rfl, rfl, hmx_8636, hs8637, rfl⟩
    have hF := hKr8638
    try dsimp only at hF
    refine (JQ.norm (i := 1) hf1 (JQ.norm (i := 2) hf2 (JQ.norm (i := 5) hf5 (JQ.norm (i := 6) hf6 ?_))))
    refine JQ.go (JC.seq (JC.seq (JC.freezeG 0 (R := RBk ((s.Width).toNat)) (l := blmx_8636) rfl RBk.mono (CH.mxV _) rfl ?_)))
    intro H8671 hs8671 hg8672
    refine JC.region (by rfl) ?_
    intro hQ
    refine JL.assign .none rfl ?_
    refine JL.done hQ (JQ.go ?_)
    obtain ⟨r9487, hlr9487, hKr9487⟩ := bind_some hF
    refine JC.join (fun (mx_9485 : Mx) H9486 f bs gs => f 1 = bad_v0 ∧ f 2 = .pointer (some ⟨b1, 0, none⟩) ∧ f 5 = .int .i64 rows_8596 ∧ f 6 = .pointer (some ⟨b8601, 0, none⟩) ∧ bs = ((b8601, .cells [vmx_8636, .int .i64 rows_8596].toArray 112) :: (b1, .cells [.int .i64 s.Width, .int .i64 s.Length, s_v2, s_v3, s_v4].toArray 25) :: (mxB 4 blmx_8636 mx_9485 ++ [])) ∧ gs = [] ∧ Mok ((s.Width).toNat) blmx_8636 mx_9485 ∧ HSub H8671 H9486 ∧ mx_9485 = r9487) ?_ ?_
    ·skip
     refine JC.block (JC.loop hlr9487 (fun (x : Int × Mx) H10030 f bs gs => match x with | (i_10028, mx_10029) => f 1 = bad_v0 ∧ f 2 = .pointer (some ⟨b1, 0, none⟩) ∧ f 5 = .int .i64 rows_8596 ∧ f 6 = .pointer (some ⟨b8601, 0, none⟩) ∧ f 8 = .int .i64 i_10028 ∧ bs = ((b8601, .cells [vmx_8636, .int .i64 rows_8596].toArray 112) :: (b1, .cells [.int .i64 s.Width, .int .i64 s.Length, s_v2, s_v3, s_v4].toArray 25) :: (mxB 4 blmx_8636 mx_10029 ++ [])) ∧ gs = [] ∧ Mok ((s.Width).toNat) blmx_8636 mx_10029 ∧ HSub H8671 H10030) ⟨rfl, rfl, rfl, rfl, rfl, rfl, rfl, hmx_8636, (HSub.refl _)⟩ ?_)
     rintro ⟨i_10028, mx_10029⟩ x10032 H10030 f bs gs ⟨hf1, hf2, hf5, hf6, hf8, rfl, rfl, hmx_10029, hs10030⟩ hF hr10031
     rw [F_ref03_least_s3] at hF
     refine (JC.norm (i := 1) hf1 (JC.norm (i := 2) hf2 (JC.norm (i := 5) hf5 (JC.norm (i := 6) hf6 (JC.norm (i := 8) hf8 ?_)))))
     refine JC.seq (JC.seq (JC.region (by rfl) ?_))
     intro hQ
     refine JL.move .none rfl ?_
     refine JL.move .none rfl ?_
     refine JL.lenSL (R := R_Cell) ul_22 (SL.mono R_Cell_mono (HSub.trans hs8597 (HSub.trans hs8637 (HSub.trans hs8671 hs10030))) hbad_0) .none rfl ?_
     refine JL.bin rfl rfl rfl .none rfl ?_
     refine JL.done hQ (JQ.go ?_)
     rcases ite_some hF with ⟨hc10033, hF⟩ | ⟨hc10033, hF⟩
     ·refine JC.cond_t (b := decide (i_10028 < (bad.length : Int))) rfl hc10033 ?_
      refine JC.skip (JQ.go (JC.seq (JC.block (JC.seq (JC.region (by rfl) ?_)))))
      intro hQ
      refine JL.move .none rfl ?_
      refine JL.move .none rfl ?_
      obtain ⟨y10034, hy10034, hF⟩ := bind_some hF
      refine JL.indexSL (R := R_Cell) sl_22 (SL.mono R_Cell_mono (HSub.trans hs8597 (HSub.trans hs8637 (HSub.trans hs8671 hs10030))) hbad_0) rfl hy10034 .none rfl ?_
      rintro b10035 o10036 cs10037 hc10038 - rfl
      refine JL.fieldAddr fo_27_0 rfl .none rfl ?_
      refine JL.loadH 0 az_3 rfl hc10038 rfl .none rfl ?_
      refine JL.move .none rfl ?_
      refine JL.bin rfl rfl rfl .none rfl ?_
      refine JL.done hQ (JQ.go (JC.fresh (fun f => f 1 = bad_v0 ∧ f 2 = .pointer (some ⟨b1, 0, none⟩) ∧ f 5 = .int .i64 rows_8596 ∧ f 6 = .pointer (some ⟨b8601, 0, none⟩) ∧ f 8 = .int .i64 i_10028 ∧ f 42 = .bool (decide (y10034.Row < rows_8596))) ⟨rfl, rfl, rfl, rfl, rfl, rfl⟩ ?_))
      rintro f ⟨hf1, hf2, hf5, hf6, hf8, hf42⟩
      refine (JC.norm (i := 1) hf1 (JC.norm (i := 2) hf2 (JC.norm (i := 5) hf5 (JC.norm (i := 6) hf6 (JC.norm (i := 8) hf8 (JC.norm (i := 42) hf42 ?_))))))
      obtain ⟨r10170, hlr10170, hKr10170⟩ := bind_some hF
      refine JC.join (fun (mx_10168 : Mx) H10169 f bs gs => f 1 = bad_v0 ∧ f 2 = .pointer (some ⟨b1, 0, none⟩) ∧ f 5 = .int .i64 rows_8596 ∧ f 6 = .pointer (some ⟨b8601, 0, none⟩) ∧ f 8 = .int .i64 i_10028 ∧ bs = ((b8601, .cells [vmx_8636, .int .i64 rows_8596].toArray 112) :: (b1, .cells [.int .i64 s.Width, .int .i64 s.Length, s_v2, s_v3, s_v4].toArray 25) :: (mxB 4 blmx_8636 mx_10168 ++ [])) ∧ gs = [] ∧ Mok ((s.Width).toNat) blmx_8636 mx_10168 ∧ HSub H10030 H10169 ∧ mx_10168 = r10170) ?_ ?_
      ·have hF := hlr10170
       rcases ite_some hF with ⟨hc10171, hF⟩ | ⟨hc10171, hF⟩
       ·refine JC.cond_t (b := decide (y10034.Row < rows_8596)) rfl hc10171 ?_
        obtain ⟨y10191, hy10191, hF⟩ := bind_some hF
        obtain ⟨y10196, hy10196, hF⟩ := bind_some hF
        obtain ⟨y10204, hy10204, hF⟩ := bind_some hF
        obtain ⟨e10209, he10209, hF⟩ := bind_some hF
        refine JC.mixed 15 16 #[false, false, false, false, false, false, false, false, false, false, false, false, false, false, false, false] [(b8601, .cells [vmx_8636, .int .i64 rows_8596].toArray 112), (b1, .cells [.int .i64 s.Width, .int .i64 s.Length, s_v2, s_v3, s_v4].toArray 25)] (by rfl) mo_ (by kernel_rfl) (by kernel_rfl) ?_
        intro hQ hE
        refine JA.take 0 (listed' := #[true, false, false, false, false, false, false, false, false, false, false, false, false, false, false, false]) hQ rfl (by kernel_rfl) (by kernel_rfl) (by kernel_rfl) (by kernel_rfl) (by kernel_rfl) hE (HSub.refl _) (.cons_cons _ (.cons_cons _ (List.nil_sublist _))) ?_
        refine JL.fieldAddr fo_112_0 rfl .none rfl ?_
        refine JA.cont ?_
        refine JA.take 1 (listed' := #[true, true, false, false, false, false, false, false, false, false, false, false, false, false, false, false]) hQ rfl (by kernel_rfl) (by kernel_rfl) (by kernel_rfl) (by kernel_rfl) (by kernel_rfl) hE (HSub.refl _) (.cons_cons _ (.cons_cons _ (List.nil_sublist _))) ?_
        refine JL.loadOwn 0 az_110 rfl rfl rfl .none rfl ?_
        refine JA.cont ?_
        refine JA.take 2 (listed' := #[true, true, true, false, false, false, false, false, false, false, false, false, false, false, false, false]) hQ rfl (by kernel_rfl) (by kernel_rfl) (by kernel_rfl) (by kernel_rfl) (by kernel_rfl) hE (HSub.refl _) (.cons_cons _ (.cons_cons _ (List.nil_sublist _))) ?_
        refine JL.move .none rfl ?_
        refine JA.cont ?_
        refine JA.take 3 (listed' := #[true, true, true, true, false, false, false, false, false, false, false, false, false, false, false, false]) hQ rfl (by kernel_rfl) (by kernel_rfl) (by kernel_rfl) (by kernel_rfl) (by kernel_rfl) hE (HSub.refl _) (.cons_cons _ (.cons_cons _ (List.nil_sublist _))) ?_
        refine JL.move .none rfl ?_
        refine JA.cont ?_
        refine JA.take 4 (listed' := #[true, true, true, true, true, false, false, false, false, false, false, false, false, false, false, false]) hQ rfl (by kernel_rfl) (by kernel_rfl) (by kernel_rfl) (by kernel_rfl) (by kernel_rfl) hE (HSub.refl _) (.cons_cons _ (.cons_cons _ (List.nil_sublist _))) ?_
        refine JL.indexSL (R := R_Cell) sl_22 (SL.mono R_Cell_mono (HSub.trans hs8597 (HSub.trans hs8637 (HSub.trans hs8671 hs10030))) hbad_0) rfl hy10191 .none rfl ?_
        rintro b10274 o10275 cs10276 hc10277 - rfl
        refine JA.cont ?_
        refine JA.take 5 (listed' := #[true, true, true, true, true, true, false, false, false, false, false, false, false, false, false, false]) hQ rfl (by kernel_rfl) (by kernel_rfl) (by kernel_rfl) (by kernel_rfl) (by kernel_rfl) hE (HSub.refl _) (.cons_cons _ (.cons_cons _ (List.nil_sublist _))) ?_
        refine JL.fieldAddr fo_27_0 rfl .none rfl ?_
        refine JA.cont ?_
        refine JA.take 6 (listed' := #[true, true, true, true, true, true, true, false, false, false, false, false, false, false, false, false]) hQ rfl (by kernel_rfl) (by kernel_rfl) (by kernel_rfl) (by kernel_rfl) (by kernel_rfl) hE (HSub.refl _) (.cons_cons _ (.cons_cons _ (List.nil_sublist _))) ?_
        refine JL.loadH 0 az_3 rfl hc10277 rfl .none rfl ?_
        refine JA.cont ?_
        refine JA.take 7 (listed' := #[true, true, true, true, true, true, true, true, false, false, false, false, false, false, false, false]) hQ rfl (by kernel_rfl) (by kernel_rfl) (by kernel_rfl) (by kernel_rfl) (by kernel_rfl) hE (HSub.refl _) (.cons_cons _ (.cons_cons _ (List.nil_sublist _))) ?_
        obtain ⟨⟨b10285, hb10286⟩, hl10287⟩ := hmx_10029.at hy10196
        refine JL.indexSL (R := RBk (s.Width).toNat) sl_110 (SL.mono RBk.mono hs10030 hg8672) rfl hb10286 .none rfl ?_
        rintro b10288 o10289 cs10290 hc10291 - rfl
        refine JA.cont ?_
        refine JA.take 8 (listed' := #[true, true, true, true, true, true, true, true, true, false, false, false, false, false, false, false]) hQ rfl (by kernel_rfl) (by kernel_rfl) (by kernel_rfl) (by kernel_rfl) (by kernel_rfl) hE (HSub.refl _) (.cons_cons _ (.cons_cons _ (List.nil_sublist _))) ?_
        refine JL.loadH 0 az_113 rfl hc10291 rfl .none rfl ?_
        refine JA.cont ?_
        refine JA.take 9 (listed' := #[true, true, true, true, true, true, true, true, true, true, false, false, false, false, false, false]) hQ rfl (by kernel_rfl) (by kernel_rfl) (by kernel_rfl) (by kernel_rfl) (by kernel_rfl) hE (HSub.refl _) (.cons_cons _ (.cons_cons _ (List.nil_sublist _))) ?_
        refine JL.move .none rfl ?_
        refine JA.cont ?_
        refine JA.take 10 (listed' := #[true, true, true, true, true, true, true, true, true, true, true, false, false, false, false, false]) hQ rfl (by kernel_rfl) (by kernel_rfl) (by kernel_rfl) (by kernel_rfl) (by kernel_rfl) hE (HSub.refl _) (.cons_cons _ (.cons_cons _ (List.nil_sublist _))) ?_
        refine JL.move .none rfl ?_
        refine JA.cont ?_
        refine JA.take 11 (listed' := #[true, true, true, true, true, true, true, true, true, true, true, true, false, false, false, false]) hQ rfl (by kernel_rfl) (by kernel_rfl) (by kernel_rfl) (by kernel_rfl) (by kernel_rfl) hE (HSub.refl _) (.cons_cons _ (.cons_cons _ (List.nil_sublist _))) ?_
        refine JL.indexSL (R := R_Cell) sl_22 (SL.mono R_Cell_mono (HSub.trans hs8597 (HSub.trans hs8637 (HSub.trans hs8671 hs10030))) hbad_0) rfl hy10204 .none rfl ?_
        rintro b10296 o10297 cs10298 hc10299 - rfl
        refine JA.cont ?_
        refine JA.take 12 (listed' := #[true, true, true, true, true, true, true, true, true, true, true, true, true, false, false, false]) hQ rfl (by kernel_rfl) (by kernel_rfl) (by kernel_rfl) (by kernel_rfl) (by kernel_rfl) hE (HSub.refl _) (.cons_cons _ (.cons_cons _ (List.nil_sublist _))) ?_
        refine JL.fieldAddr fo_27_1 rfl .none rfl ?_
        refine JA.cont ?_
        refine JA.take 13 (listed' := #[true, true, true, true, true, true, true, true, true, true, true, true, true, true, false, false]) hQ rfl (by kernel_rfl) (by kernel_rfl) (by kernel_rfl) (by kernel_rfl) (by kernel_rfl) hE (HSub.refl _) (.cons_cons _ (.cons_cons _ (List.nil_sublist _))) ?_
        refine JL.loadH 1 az_3 rfl hc10299 rfl .none rfl ?_
        refine JA.cont ?_
        refine JA.take 14 (listed' := #[true, true, true, true, true, true, true, true, true, true, true, true, true, true, true, false]) hQ rfl (by kernel_rfl) (by kernel_rfl) (by kernel_rfl) (by kernel_rfl) (by kernel_rfl) hE (HSub.refl _) (.cons_cons _ (.cons_cons _ (List.nil_sublist _))) ?_
        refine JL.mxEl sl_113 rfl rfl hl10287 he10209 .none rfl ?_
        refine JA.cont ?_
        refine JA.many [15] (by kernel_rfl) (by simp) (all_one ⟨_, #[true, true, true, true, true, true, true, true, true, true, true, true, true, true, true, true], rfl, (by kernel_rfl), ?_⟩)
        refine JL.storeMx [(b8601, .cells ([vmx_8636, .int .i64 rows_8596] : List Value).toArray 112), (b1, .cells ([.int .i64 s.Width, .int .i64 s.Length, s_v2, s_v3, s_v4] : List Value).toArray 25)] [] az_4 rfl rfl hmx_10029 hb10286 hy10196 he10209 .none ?_
        refine JA.sink (by kernel_rfl) ?_
        refine JA.done hQ (by kernel_rfl) ?_
        obtain rfl := Option.some.inj hF
        exact JQ.join (setx mx_10029 y10191.Row (setx y10196 y10204.Col true)) ⟨rfl, rfl, rfl, rfl, rfl, rfl, rfl, (Mok.set hmx_10029 hy10196 (setx_len _ _ _)), (HSub.refl _), rfl⟩
       ·refine JC.cond_f (b := decide (y10034.Row < rows_8596)) rfl hc10171 ?_
        refine JC.skip ?_
        obtain rfl := Option.some.inj hF
        exact JQ.join mx_10029 ⟨rfl, rfl, rfl, rfl, rfl, rfl, rfl, hmx_10029, (HSub.refl _), rfl⟩
      ·rintro mx_10168 H10169 f bs gs ⟨hf1, hf2, hf5, hf6, hf8, rfl, rfl, hmx_10168, hs10169, rfl⟩
       have hF := hKr10170
       try dsimp only at hF
       refine (JQ.norm (i := 1) hf1 (JQ.norm (i := 2) hf2 (JQ.norm (i := 5) hf5 (JQ.norm (i := 6) hf6 (JQ.norm (i := 8) hf8 ?_)))))
       refine JQ.normal_block (JQ.go (JC.region (by rfl) ?_))
       intro hQ
       refine JL.move .none rfl ?_
       refine JL.bin rfl rfl rfl .none rfl ?_
       refine JL.assign .none rfl ?_
       refine JL.done hQ ?_
       obtain rfl := Option.some.inj hF
       exact JQ.next rfl ⟨rfl, rfl, rfl, rfl, rfl, rfl, rfl, hmx_10168, (HSub.trans hs10030 hs10169)⟩
     ·refine JC.cond_f (b := decide (i_10028 < (bad.length : Int))) rfl hc10033 ?_
      refine JC.exit (JQ.exit_then (JQ.exit_then (JQ.exit_block ?_)))
      obtain rfl := Option.some.inj hF
      have ehr10031 := hr10031 _ rfl
      subst ehr10031
      exact JQ.join mx_10029 ⟨rfl, rfl, rfl, rfl, rfl, rfl, hmx_10029, hs10030, rfl⟩
    ·rintro mx_9485 H9486 f bs gs ⟨hf1, hf2, hf5, hf6, rfl, rfl, hmx_9485, hs9486, rfl⟩
     have hF := hKr9487
     try dsimp only at hF
     refine (JQ.norm (i := 1) hf1 (JQ.norm (i := 2) hf2 (JQ.norm (i := 5) hf5 (JQ.norm (i := 6) hf6 ?_))))
     refine JQ.go (JC.seq ?_)
     obtain ⟨y10300, hy10300, hF⟩ := bind_some hF
     obtain ⟨y10303, hy10303, hF⟩ := bind_some hF
     rcases ite_some hF with ⟨hc10304, hF⟩ | ⟨hc10304, hF⟩
     ·skip
      obtain ⟨y10306, hy10306, hF⟩ := bind_some hF
      refine JC.mixed 11 11 #[false, false, false, false, false, false, false, false, false, false, false] [(b8601, .cells [vmx_8636, .int .i64 rows_8596].toArray 112), (b1, .cells [.int .i64 s.Width, .int .i64 s.Length, s_v2, s_v3, s_v4].toArray 25)] (by rfl) mo_ (by kernel_rfl) (by kernel_rfl) ?_
      intro hQ hE
      refine JA.take 0 (listed' := #[true, false, false, false, false, false, false, false, false, false, false]) hQ rfl (by kernel_rfl) (by kernel_rfl) (by kernel_rfl) (by kernel_rfl) (by kernel_rfl) hE (HSub.refl _) (.cons_cons _ (.cons_cons _ (List.nil_sublist _))) ?_
      refine JL.loadOwn 0 az_112 rfl rfl rfl .none rfl ?_
      refine JA.cont ?_
      refine JA.take 2 (listed' := #[true, false, true, false, false, false, false, false, false, false, false]) hQ rfl (by kernel_rfl) (by kernel_rfl) (by kernel_rfl) (by kernel_rfl) (by kernel_rfl) hE (HSub.refl _) (.cons_cons _ (.cons_cons _ (List.nil_sublist _))) ?_
      refine JL.loadOwn 1 az_25 rfl rfl rfl .none rfl ?_
      refine JA.cont ?_
      refine JA.many [1] (by kernel_rfl) (by simp) (all_one ⟨_, #[true, true, true, false, false, false, false, false, false, false, false], rfl, (by kernel_rfl), ?_⟩)
      refine JL.callLMx [(b8601, .cells ([vmx_8636, .int .i64 rows_8596] : List Value).toArray 112), (b1, .cells ([.int .i64 s.Width, .int .i64 s.Length, s_v2, s_v3, s_v4] : List Value).toArray 25)] [] hmx_9485 (mkck_le hu8603) (SL.mono RBk.mono hs9486 hg8672) (fun H10309 hs10309 hsl10310 => c_ref03_cloth_free n H10309 (ref03_cloth.mk mx_9485 rows_8596) vmx_8636 hsl10310 y10300 hy10300) rfl en_72 .none rfl ?_
      refine JA.after hE (HSub.refl _) (.cons_cons _ (.cons_cons _ (List.nil_sublist _))) ?_
      refine JA.many [3] (by kernel_rfl) (by simp) (all_one ⟨_, #[true, true, true, true, false, false, false, false, false, false, false], rfl, (by kernel_rfl), ?_⟩)
      refine JL.callS (c_ref03_Area n H9486 s s_v2 (SL.mono R_Cell_mono (HSub.trans hs8597 (HSub.trans hs8637 (HSub.trans hs8671 hs9486))) hs_2) s_v3 (SL.mono R_Cell_mono (HSub.trans hs8597 (HSub.trans hs8637 (HSub.trans hs8671 hs9486))) hs_3) s_v4 (SL.mono R_Panel_mono (HSub.trans hs8597 (HSub.trans hs8637 (HSub.trans hs8671 hs9486))) hs_4) y10303 hy10303) rfl en_23 .none rfl ?_
      refine JA.after hE (HSub.refl _) (.cons_cons _ (.cons_cons _ (List.nil_sublist _))) ?_
      refine JA.many [4] (by kernel_rfl) (by simp) (all_one ⟨_, #[true, true, true, true, true, false, false, false, false, false, false], rfl, (by kernel_rfl), ?_⟩)
      refine JL.bin rfl rfl rfl .none rfl ?_
      refine JA.after hE (HSub.refl _) (.cons_cons _ (.cons_cons _ (List.nil_sublist _))) ?_
      refine JA.many [5] (by kernel_rfl) (by simp) (all_one ⟨_, #[true, true, true, true, true, true, false, false, false, false, false], rfl, (by kernel_rfl), ?_⟩)
      refine JL.move .none rfl ?_
      refine JA.after hE (HSub.refl _) (.cons_cons _ (.cons_cons _ (List.nil_sublist _))) ?_
      refine JA.take 6 (listed' := #[true, true, true, true, true, true, true, false, false, false, false]) hQ rfl (by kernel_rfl) (by kernel_rfl) (by kernel_rfl) (by kernel_rfl) (by kernel_rfl) hE (HSub.refl _) (.cons_cons _ (.cons_cons _ (List.nil_sublist _))) ?_
      refine JL.loadOwn 0 az_112 rfl rfl rfl (.some rfl rfl rfl hc10304) rfl ?_
      refine JA.cont ?_
      refine JA.take 7 (listed' := #[true, true, true, true, true, true, true, true, false, false, false]) hQ rfl (by kernel_rfl) (by kernel_rfl) (by kernel_rfl) (by kernel_rfl) (by kernel_rfl) hE (HSub.refl _) (.cons_cons _ (.cons_cons _ (List.nil_sublist _))) ?_
      refine JL.fieldAddr fo_25_4 rfl (.some rfl rfl rfl hc10304) rfl ?_
      refine JA.cont ?_
      refine JA.take 8 (listed' := #[true, true, true, true, true, true, true, true, true, false, false]) hQ rfl (by kernel_rfl) (by kernel_rfl) (by kernel_rfl) (by kernel_rfl) (by kernel_rfl) hE (HSub.refl _) (.cons_cons _ (.cons_cons _ (List.nil_sublist _))) ?_
      refine JL.loadOwn 1 az_23 rfl rfl rfl (.some rfl rfl rfl hc10304) rfl ?_
      refine JA.cont ?_
      refine JA.many [9] (by kernel_rfl) (by simp) (all_one ⟨_, #[true, true, true, true, true, true, true, true, true, true, false], rfl, (by kernel_rfl), ?_⟩)
      refine JL.callW (fun w hs => c_ref03_cloth_can n H9486 mx_9485 (s.Width).toNat (mkck_le hu8603) blmx_8636 hmx_9485 vmx_8636 (SL.mono RBk.mono hs9486 hg8672) rows_8596 _ _ s.Panels s_v4 (SL.mono R_Panel_mono (HSub.trans hs8597 (HSub.trans hs8637 (HSub.trans hs8671 hs9486))) hs_4) y10306 hy10306 _ w (hs.perm (mx_front ([(b8601, .cells ([vmx_8636, .int .i64 rows_8596] : List Value).toArray 112), (b1, .cells ([.int .i64 s.Width, .int .i64 s.Length, s_v2, s_v3, s_v4] : List Value).toArray 25)] : List (Nat × Obj)) _ []))) rfl en_73 (.some rfl rfl rfl hc10304) rfl ?_
      rintro _ H10311 _ _ ⟨rfl, hs10311, rfl, rfl, hok10312⟩
      refine JL.permB (mx_front ([(b8601, .cells ([vmx_8636, .int .i64 rows_8596] : List Value).toArray 112), (b1, .cells ([.int .i64 s.Width, .int .i64 s.Length, s_v2, s_v3, s_v4] : List Value).toArray 25)] : List (Nat × Obj)) _ []).symm ?_
      refine JA.after hE hs10311 (.cons_cons _ (.cons_cons _ (List.nil_sublist _))) ?_
      refine JA.many [10] (by kernel_rfl) (by simp) (all_one ⟨_, #[true, true, true, true, true, true, true, true, true, true, true], rfl, (by kernel_rfl), ?_⟩)
      refine JL.pick_t (b := decide (y10303 ≤ y10300)) rfl hc10304 .none rfl ?_
      refine JA.after hE hs10311 (.cons_cons _ (.cons_cons _ (List.nil_sublist _))) ?_
      refine JA.done hQ (by kernel_rfl) ?_
      refine JQ.go ?_
      rcases ite_some hF with ⟨hc10313, hF⟩ | ⟨hc10313, hF⟩
      ·refine JC.cond_t (b := y10306.1) rfl hc10313 ?_
       refine JC.seq (JC.region (by rfl) ?_)
       intro hQ
       refine JL.move .none rfl ?_
       refine JL.assign .none rfl ?_
       refine JL.done hQ (JQ.go (JC.fresh (fun f => f 4 = .int .i64 rows_8596) rfl ?_))
       rintro f hf4
       refine (JC.norm (i := 4) hf4 ?_)
       refine JC.ret (JQ.ret_block (JQ.ret_then (JQ.ret_then (JQ.ret_block (JQ.ret_join (JQ.ret_then ?_))))))
       obtain rfl := Option.some.inj hF
       have ehr8598 := hr8598 _ rfl
       subst ehr8598
       have hF := hKr5159
       try dsimp only at hF
       obtain rfl := Option.some.inj hF
       exact JQ.outS rfl (.tmp .nil) rfl
      ·refine JC.cond_f (b := y10306.1) rfl hc10313 ?_
       refine JC.skip (JQ.normal_block (JQ.go (JC.fresh (fun f => f 1 = bad_v0 ∧ f 2 = .pointer (some ⟨b1, 0, none⟩) ∧ f 5 = .int .i64 rows_8596 ∧ f 64 = .agg [vmx_8636, .int .i64 rows_8596].toArray ∧ f 65 = .pointer (some ⟨b1, 4, none⟩) ∧ f 66 = s_v4 ∧ f 67 = .bool y10306.1) ⟨rfl, rfl, rfl, rfl, rfl, rfl, rfl⟩ ?_)))
       rintro f ⟨hf1, hf2, hf5, hf64, hf65, hf66, hf67⟩
       refine (JC.norm (i := 1) hf1 (JC.norm (i := 2) hf2 (JC.norm (i := 5) hf5 (JC.norm (i := 64) hf64 (JC.norm (i := 65) hf65 (JC.norm (i := 66) hf66 (JC.norm (i := 67) hf67 ?_)))))))
       refine JC.region (by rfl) ?_
       intro hQ
       refine JL.move .none rfl ?_
       refine JL.bin rfl rfl rfl .none rfl ?_
       refine JL.assign .none rfl ?_
       refine JL.done hQ ?_
       obtain rfl := Option.some.inj hF
       refine JQ.takeB 2 ?_
       refine JQ.mask [false, true] [] ?_
       exact JQ.next rfl ⟨rfl, rfl, rfl, rfl, rfl, (HSub.trans hs8597 (HSub.trans hs8637 (HSub.trans hs8671 (HSub.trans hs9486 hs10311))))⟩
     ·skip
      refine JC.mixed 11 11 #[false, false, false, false, false, false, false, false, false, false, false] [(b8601, .cells [vmx_8636, .int .i64 rows_8596].toArray 112), (b1, .cells [.int .i64 s.Width, .int .i64 s.Length, s_v2, s_v3, s_v4].toArray 25)] (by rfl) mo_ (by kernel_rfl) (by kernel_rfl) ?_
      intro hQ hE
      refine JA.take 0 (listed' := #[true, false, false, false, false, false, false, false, false, false, false]) hQ rfl (by kernel_rfl) (by kernel_rfl) (by kernel_rfl) (by kernel_rfl) (by kernel_rfl) hE (HSub.refl _) (.cons_cons _ (.cons_cons _ (List.nil_sublist _))) ?_
      refine JL.loadOwn 0 az_112 rfl rfl rfl .none rfl ?_
      refine JA.cont ?_
      refine JA.take 2 (listed' := #[true, false, true, false, false, false, false, false, false, false, false]) hQ rfl (by kernel_rfl) (by kernel_rfl) (by kernel_rfl) (by kernel_rfl) (by kernel_rfl) hE (HSub.refl _) (.cons_cons _ (.cons_cons _ (List.nil_sublist _))) ?_
      refine JL.loadOwn 1 az_25 rfl rfl rfl .none rfl ?_
      refine JA.cont ?_
      refine JA.many [1] (by kernel_rfl) (by simp) (all_one ⟨_, #[true, true, true, false, false, false, false, false, false, false, false], rfl, (by kernel_rfl), ?_⟩)
      refine JL.callLMx [(b8601, .cells ([vmx_8636, .int .i64 rows_8596] : List Value).toArray 112), (b1, .cells ([.int .i64 s.Width, .int .i64 s.Length, s_v2, s_v3, s_v4] : List Value).toArray 25)] [] hmx_9485 (mkck_le hu8603) (SL.mono RBk.mono hs9486 hg8672) (fun H10314 hs10314 hsl10315 => c_ref03_cloth_free n H10314 (ref03_cloth.mk mx_9485 rows_8596) vmx_8636 hsl10315 y10300 hy10300) rfl en_72 .none rfl ?_
      refine JA.after hE (HSub.refl _) (.cons_cons _ (.cons_cons _ (List.nil_sublist _))) ?_
      refine JA.many [3] (by kernel_rfl) (by simp) (all_one ⟨_, #[true, true, true, true, false, false, false, false, false, false, false], rfl, (by kernel_rfl), ?_⟩)
      refine JL.callS (c_ref03_Area n H9486 s s_v2 (SL.mono R_Cell_mono (HSub.trans hs8597 (HSub.trans hs8637 (HSub.trans hs8671 hs9486))) hs_2) s_v3 (SL.mono R_Cell_mono (HSub.trans hs8597 (HSub.trans hs8637 (HSub.trans hs8671 hs9486))) hs_3) s_v4 (SL.mono R_Panel_mono (HSub.trans hs8597 (HSub.trans hs8637 (HSub.trans hs8671 hs9486))) hs_4) y10303 hy10303) rfl en_23 .none rfl ?_
      refine JA.after hE (HSub.refl _) (.cons_cons _ (.cons_cons _ (List.nil_sublist _))) ?_
      refine JA.many [4] (by kernel_rfl) (by simp) (all_one ⟨_, #[true, true, true, true, true, false, false, false, false, false, false], rfl, (by kernel_rfl), ?_⟩)
      refine JL.bin rfl rfl rfl .none rfl ?_
      refine JA.after hE (HSub.refl _) (.cons_cons _ (.cons_cons _ (List.nil_sublist _))) ?_
      refine JA.many [5] (by kernel_rfl) (by simp) (all_one ⟨_, #[true, true, true, true, true, true, false, false, false, false, false], rfl, (by kernel_rfl), ?_⟩)
      refine JL.move .none rfl ?_
      refine JA.after hE (HSub.refl _) (.cons_cons _ (.cons_cons _ (List.nil_sublist _))) ?_
      refine JA.take 6 (listed' := #[true, true, true, true, true, true, true, false, false, false, false]) hQ rfl (by kernel_rfl) (by kernel_rfl) (by kernel_rfl) (by kernel_rfl) (by kernel_rfl) hE (HSub.refl _) (.cons_cons _ (.cons_cons _ (List.nil_sublist _))) ?_
      refine JL.skip (.bool rfl rfl rfl hc10304) rfl ?_
      refine JA.cont ?_
      refine JA.take 7 (listed' := #[true, true, true, true, true, true, true, true, false, false, false]) hQ rfl (by kernel_rfl) (by kernel_rfl) (by kernel_rfl) (by kernel_rfl) (by kernel_rfl) hE (HSub.refl _) (.cons_cons _ (.cons_cons _ (List.nil_sublist _))) ?_
      refine JL.skip (.bool rfl rfl rfl hc10304) rfl ?_
      refine JA.cont ?_
      refine JA.take 8 (listed' := #[true, true, true, true, true, true, true, true, true, false, false]) hQ rfl (by kernel_rfl) (by kernel_rfl) (by kernel_rfl) (by kernel_rfl) (by kernel_rfl) hE (HSub.refl _) (.cons_cons _ (.cons_cons _ (List.nil_sublist _))) ?_
      refine JL.skip (.bool rfl rfl rfl hc10304) rfl ?_
      refine JA.cont ?_
      refine JA.many [9] (by kernel_rfl) (by simp) (all_one ⟨_, #[true, true, true, true, true, true, true, true, true, true, false], rfl, (by kernel_rfl), ?_⟩)
      refine JL.skip (.bool rfl rfl rfl hc10304) rfl ?_
      refine JA.after hE (HSub.refl _) (.cons_cons _ (.cons_cons _ (List.nil_sublist _))) ?_
      refine JA.many [10] (by kernel_rfl) (by simp) (all_one ⟨_, #[true, true, true, true, true, true, true, true, true, true, true], rfl, (by kernel_rfl), ?_⟩)
      refine JL.pick_f (b := decide (y10303 ≤ y10300)) rfl hc10304 .none rfl ?_
      refine JA.after hE (HSub.refl _) (.cons_cons _ (.cons_cons _ (List.nil_sublist _))) ?_
      refine JA.done hQ (by kernel_rfl) ?_
      refine JQ.go (JC.fresh (fun f => f 1 = bad_v0 ∧ f 2 = .pointer (some ⟨b1, 0, none⟩) ∧ f 5 = .int .i64 rows_8596 ∧ f 68 = .bool false) ⟨rfl, rfl, rfl, rfl⟩ ?_)
      rintro f ⟨hf1, hf2, hf5, hf68⟩
      refine (JC.norm (i := 1) hf1 (JC.norm (i := 2) hf2 (JC.norm (i := 5) hf5 (JC.norm (i := 68) hf68 ?_))))
      refine JC.cond_f (b := false) rfl rfl ?_
      refine JC.skip (JQ.normal_block (JQ.go (JC.region (by rfl) ?_)))
      intro hQ
      refine JL.move .none rfl ?_
      refine JL.bin rfl rfl rfl .none rfl ?_
      refine JL.assign .none rfl ?_
      refine JL.done hQ ?_
      obtain rfl := Option.some.inj hF
      refine JQ.takeB 2 ?_
      refine JQ.mask [false, true] [] ?_
      exact JQ.next rfl ⟨rfl, rfl, rfl, rfl, rfl, (HSub.trans hs8597 (HSub.trans hs8637 (HSub.trans hs8671 hs9486)))⟩
  ·refine JC.cond_f (b := decide (rows_8596 ≤ s.Length)) rfl hc8600 ?_
   refine JC.exit (JQ.exit_then (JQ.exit_then (JQ.exit_block ?_)))
   obtain rfl := Option.some.inj hF
   have ehr8598 := hr8598 _ rfl
   subst ehr8598
   refine JQ.mask [false] [] ?_
   exact JQ.join () ⟨rfl, rfl, hs8597, rfl⟩
 ·rintro _ H5158 f bs gs ⟨rfl, rfl, hs5158, rfl⟩
  have hF := hKr5159
  try dsimp only at hF
  refine JQ.go (JC.seq (JC.region (by rfl) ?_))
  intro hQ
  refine JL.assign .none rfl ?_
  refine JL.done hQ (JQ.go (JC.ret ?_))
  obtain rfl := Option.some.inj hF
  exact JQ.outS rfl (.tmp .nil) rfl
-- 55 ferrule/ferruleref03.known
def F_ref03_known (n : Nat) (s : Lap) (bad : List Cell) : Option (Int × Int) :=
 (F_ref03_Check n s).bind fun y2 => if (y2 != 0) = true then (some (0, y2)) else ((F_ref03_least n s bad).bind fun y4 => if decide (y4 < 0) = true then (some (0, 3)) else (some (y4, 0)))
theorem c_ref03_known (n : Nat) (H : Hp) (s : Lap) (s_v2 : Value) (hs_2 : SL H 2 R_Cell s_v2 s.Faults) (s_v3 : Value) (hs_3 : SL H 2 R_Cell s_v3 s.Flaws) (s_v4 : Value) (hs_4 : SL H 1 R_Panel s_v4 s.Panels) (bad : List Cell) (bad_v0 : Value) (hbad_0 : SL H 2 R_Cell bad_v0 bad) (y : Int × Int) (hF : F_ref03_known n s bad = some y) : SC Try.prog 55 [.agg [.int .i64 s.Width, .int .i64 s.Length, s_v2, s_v3, s_v4].toArray, bad_v0] (.tuple [.int .i64 y.1, .int .i64 y.2].toArray) H := by
 rw [F_ref03_known] at hF
 refine SC.of (N := 19) Try.func55 rfl rfl rfl fun w => ?_
 refine JC.seq (JC.region (by rfl) ?_)
 intro hQ
 refine JL.box (cs := [.int .i64 s.Width, .int .i64 s.Length, s_v2, s_v3, s_v4]) rfl .none rfl ?_
 intro b1
 refine JL.assign .none rfl ?_
 refine JL.assign .none rfl ?_
 refine JL.done hQ (JQ.go (JC.seq (JC.seq (JC.region (by rfl) ?_))))
 intro hQ
 refine JL.loadOwn 0 az_25 rfl rfl rfl .none rfl ?_
 obtain ⟨y2, hy2, hF⟩ := bind_some hF
 refine JL.callS (c_ref03_Check n H s s_v2 hs_2 s_v3 hs_3 s_v4 hs_4 y2 hy2) rfl en_34 .none rfl ?_
 refine JL.assign .none rfl ?_
 refine JL.done hQ (JQ.go (JC.seq (JC.region (by rfl) ?_)))
 intro hQ
 refine JL.move .none rfl ?_
 refine JL.bin rfl rfl rfl .none rfl ?_
 refine JL.done hQ (JQ.go ?_)
 rcases ite_some hF with ⟨hc3, hF⟩ | ⟨hc3, hF⟩
 ·refine JC.cond_t (b := (y2 != 0)) rfl hc3 ?_
  refine JC.seq (JC.region (by rfl) ?_)
  intro hQ
  refine JL.move .none rfl ?_
  refine JL.assign .none rfl ?_
  refine JL.assign .none rfl ?_
  refine JL.done hQ (JQ.go (JC.ret (JQ.ret_then ?_)))
  obtain rfl := Option.some.inj hF
  exact JQ.outS rfl (.tmp (.tmp .nil)) rfl
 ·refine JC.cond_f (b := (y2 != 0)) rfl hc3 ?_
  refine JC.skip (JQ.go (JC.seq (JC.region (by rfl) ?_)))
  intro hQ
  refine JL.loadOwn 0 az_25 rfl rfl rfl .none rfl ?_
  refine JL.move .none rfl ?_
  obtain ⟨y4, hy4, hF⟩ := bind_some hF
  refine JL.callS (c_ref03_least n H s s_v2 hs_2 s_v3 hs_3 s_v4 hs_4 bad bad_v0 hbad_0 y4 hy4) rfl en_57 .none rfl ?_
  refine JL.assign .none rfl ?_
  refine JL.done hQ (JQ.go (JC.fresh (fun f => f 4 = .int .i64 0 ∧ f 5 = .int .i64 0 ∧ f 7 = .int .i64 y4) ⟨rfl, rfl, rfl⟩ ?_))
  rintro f ⟨hf4, hf5, hf7⟩
  refine (JC.norm (i := 4) hf4 (JC.norm (i := 5) hf5 (JC.norm (i := 7) hf7 ?_)))
  refine JC.seq (JC.seq (JC.region (by rfl) ?_))
  intro hQ
  refine JL.move .none rfl ?_
  refine JL.bin rfl rfl rfl .none rfl ?_
  refine JL.done hQ (JQ.go ?_)
  rcases ite_some hF with ⟨hc5, hF⟩ | ⟨hc5, hF⟩
  ·refine JC.cond_t (b := decide (y4 < 0)) rfl hc5 ?_
   refine JC.seq (JC.region (by rfl) ?_)
   intro hQ
   refine JL.assign .none rfl ?_
   refine JL.assign .none rfl ?_
   refine JL.done hQ (JQ.go (JC.ret (JQ.ret_then ?_)))
   obtain rfl := Option.some.inj hF
   exact JQ.outS rfl (.tmp (.tmp .nil)) rfl
  ·refine JC.cond_f (b := decide (y4 < 0)) rfl hc5 ?_
   refine JC.skip (JQ.go (JC.seq (JC.region (by rfl) ?_)))
   intro hQ
   refine JL.move .none rfl ?_
   refine JL.assign .none rfl ?_
   refine JL.assign .none rfl ?_
   refine JL.done hQ (JQ.go (JC.ret ?_))
   obtain rfl := Option.some.inj hF
   exact JQ.outS rfl (.tmp (.tmp .nil)) rfl
-- 28 ferrule/ferruleref03.Least
def F_ref03_Least (n : Nat) (s : Lap) : Option (Int × Int) :=
 (F_ref03_all n s).bind fun y3 => (F_ref03_known n s y3).bind fun y5 => some (y5.1, y5.2)
theorem c_ref03_Least (n : Nat) (H : Hp) (s : Lap) (s_v2 : Value) (hs_2 : SL H 2 R_Cell s_v2 s.Faults) (s_v3 : Value) (hs_3 : SL H 2 R_Cell s_v3 s.Flaws) (s_v4 : Value) (hs_4 : SL H 1 R_Panel s_v4 s.Panels) (y : Int × Int) (hF : F_ref03_Least n s = some y) : SC Try.prog 28 [.agg [.int .i64 s.Width, .int .i64 s.Length, s_v2, s_v3, s_v4].toArray] (.tuple [.int .i64 y.1, .int .i64 y.2].toArray) H := by
 rw [F_ref03_Least] at hF
 refine SC.of (N := 10) Try.func28 rfl rfl rfl fun w => ?_
 refine JC.seq (JC.region (by rfl) ?_)
 intro hQ
 refine JL.box (cs := [.int .i64 s.Width, .int .i64 s.Length, s_v2, s_v3, s_v4]) rfl .none rfl ?_
 intro b1
 refine JL.assign .none rfl ?_
 refine JL.assign .none rfl ?_
 refine JL.done hQ (JQ.go (JC.seq ?_))
 obtain ⟨y3, hy3, hF⟩ := bind_some hF
 obtain ⟨y5, hy5, hF⟩ := bind_some hF
 refine JC.mixed 8 8 #[false, false, false, false, false, false, false, false] [(b1, .cells [.int .i64 s.Width, .int .i64 s.Length, s_v2, s_v3, s_v4].toArray 25)] (by rfl) mo_ (by kernel_rfl) (by kernel_rfl) ?_
 intro hQ hE
 refine JA.take 0 (listed' := #[true, false, false, false, false, false, false, false]) hQ rfl (by kernel_rfl) (by kernel_rfl) (by kernel_rfl) (by kernel_rfl) (by kernel_rfl) hE (HSub.refl _) (.cons_cons _ (List.nil_sublist _)) ?_
 refine JL.loadOwn 0 az_25 rfl rfl rfl .none rfl ?_
 refine JA.cont ?_
 refine JA.take 1 (listed' := #[true, true, false, false, false, false, false, false]) hQ rfl (by kernel_rfl) (by kernel_rfl) (by kernel_rfl) (by kernel_rfl) (by kernel_rfl) hE (HSub.refl _) (.cons_cons _ (List.nil_sublist _)) ?_
 refine JL.loadOwn 0 az_25 rfl rfl rfl .none rfl ?_
 refine JA.cont ?_
 refine JA.many [2] (by kernel_rfl) (by simp) (all_one ⟨_, #[true, true, true, false, false, false, false, false], rfl, (by kernel_rfl), ?_⟩)
 refine JL.callH (c_ref03_all n H s s_v2 hs_2 s_v3 hs_3 s_v4 hs_4 y3 hy3) rfl en_56 .none rfl ?_
 intro H7 y3a_v0 hs7 hy3a_0
 refine JA.after hE hs7 (.cons_cons _ (List.nil_sublist _)) ?_
 refine JA.many [3] (by kernel_rfl) (by simp) (all_one ⟨_, #[true, true, true, true, false, false, false, false], rfl, (by kernel_rfl), ?_⟩)
 refine JL.callS (c_ref03_known n H7 s s_v2 (SL.mono R_Cell_mono hs7 hs_2) s_v3 (SL.mono R_Cell_mono hs7 hs_3) s_v4 (SL.mono R_Panel_mono hs7 hs_4) y3 y3a_v0 hy3a_0 y5 hy5) rfl en_55 .none rfl ?_
 refine JA.after hE hs7 (.cons_cons _ (List.nil_sublist _)) ?_
 refine JA.take 4 (listed' := #[true, true, true, true, true, false, false, false]) hQ rfl (by kernel_rfl) (by kernel_rfl) (by kernel_rfl) (by kernel_rfl) (by kernel_rfl) hE hs7 (.cons_cons _ (List.nil_sublist _)) ?_
 refine JL.extract rfl rfl .none rfl ?_
 refine JA.cont ?_
 refine JA.take 5 (listed' := #[true, true, true, true, true, true, false, false]) hQ rfl (by kernel_rfl) (by kernel_rfl) (by kernel_rfl) (by kernel_rfl) (by kernel_rfl) hE hs7 (.cons_cons _ (List.nil_sublist _)) ?_
 refine JL.extract rfl rfl .none rfl ?_
 refine JA.cont ?_
 refine JA.take 6 (listed' := #[true, true, true, true, true, true, true, false]) hQ rfl (by kernel_rfl) (by kernel_rfl) (by kernel_rfl) (by kernel_rfl) (by kernel_rfl) hE hs7 (.cons_cons _ (List.nil_sublist _)) ?_
 refine JL.assign .none rfl ?_
 refine JA.cont ?_
 refine JA.take 7 (listed' := #[true, true, true, true, true, true, true, true]) hQ rfl (by kernel_rfl) (by kernel_rfl) (by kernel_rfl) (by kernel_rfl) (by kernel_rfl) hE hs7 (.cons_cons _ (List.nil_sublist _)) ?_
 refine JL.assign .none rfl ?_
 refine JA.cont ?_
 refine JA.done hQ (by kernel_rfl) ?_
 refine JQ.go (JC.ret ?_)
 obtain rfl := Option.some.inj hF
 exact JQ.outS rfl (.tmp (.tmp .nil)) rfl
-- 29 ferrule/ferruleref03.Hopes
def F_ref03_Hopes (n : Nat) (s : Lap) : Option (Int × Int) :=
 (F_ref03_known n s s.Faults).bind fun y2 => some (y2.1, y2.2)
theorem c_ref03_Hopes (n : Nat) (H : Hp) (s : Lap) (s_v2 : Value) (hs_2 : SL H 2 R_Cell s_v2 s.Faults) (s_v3 : Value) (hs_3 : SL H 2 R_Cell s_v3 s.Flaws) (s_v4 : Value) (hs_4 : SL H 1 R_Panel s_v4 s.Panels) (y : Int × Int) (hF : F_ref03_Hopes n s = some y) : SC Try.prog 29 [.agg [.int .i64 s.Width, .int .i64 s.Length, s_v2, s_v3, s_v4].toArray] (.tuple [.int .i64 y.1, .int .i64 y.2].toArray) H := by
 rw [F_ref03_Hopes] at hF
 refine SC.of (N := 10) Try.func29 rfl rfl rfl fun w => ?_
 refine JC.seq (JC.region (by rfl) ?_)
 intro hQ
 refine JL.box (cs := [.int .i64 s.Width, .int .i64 s.Length, s_v2, s_v3, s_v4]) rfl .none rfl ?_
 intro b1
 refine JL.assign .none rfl ?_
 refine JL.assign .none rfl ?_
 refine JL.done hQ (JQ.go (JC.seq (JC.region (by rfl) ?_)))
 intro hQ
 refine JL.loadOwn 0 az_25 rfl rfl rfl .none rfl ?_
 refine JL.fieldAddr fo_25_2 rfl .none rfl ?_
 refine JL.loadOwn 0 az_22 rfl rfl rfl .none rfl ?_
 obtain ⟨y2, hy2, hF⟩ := bind_some hF
 refine JL.callS (c_ref03_known n H s s_v2 hs_2 s_v3 hs_3 s_v4 hs_4 s.Faults s_v2 hs_2 y2 hy2) rfl en_55 .none rfl ?_
 refine JL.extract rfl rfl .none rfl ?_
 refine JL.extract rfl rfl .none rfl ?_
 refine JL.assign .none rfl ?_
 refine JL.assign .none rfl ?_
 refine JL.done hQ (JQ.go (JC.ret ?_))
 obtain rfl := Option.some.inj hF
 exact JQ.outS rfl (.tmp (.tmp .nil)) rfl
end Go.Proofs.Ytflhjlgimihmgaa
end
section
set_option maxRecDepth 100000
set_option maxHeartbeats 40000000
namespace Go.Proofs.Ytflhjlgimihmgaa
open Go Go.RowKit Go.Dec
set_option linter.unusedVariables false
-- 54 ferrule/lays.covered
def F_lays_covered_s2 (n : Nat) (p : Place) (x_444 : Int) (y450 : Span) : Int × List Cell → Option ((Int × List Cell) ⊕ (List Cell))
 | (col_506, out_507) => if decide (col_506 ≤ y450.High) = true then ((lim (out_507 ++ [(Cell.mk (w64 (p.Row + x_444)) (w64 (p.Col + col_506)))])).bind fun l513 => some (Sum.inl ((w64 (col_506 + 1)), l513))) else (some (Sum.inr out_507))
def F_lays_covered_s1 (n : Nat) (p : Place) (y3 : (List Span)) : Int × List Cell → Option ((Int × List Cell) ⊕ (List Cell))
 | (x_444, out_445) => if decide (x_444 < (y3.length : Int)) = true then ((geti y3 x_444).bind fun y450 => (loopO n (F_lays_covered_s2 n p x_444 y450) (y450.Low, out_445)).bind fun out_485 => some (Sum.inl ((w64 (x_444 + 1)), out_485))) else (some (Sum.inr out_445))
def F_lays_covered (n : Nat) (panel : Panel) (p : Place) : Option (List Cell) :=
 (F_lays_rows n panel p.Turned).bind fun y3 => (loopO n (F_lays_covered_s1 n p y3) (0, ([] : List Cell))).bind fun out_299 => some out_299
theorem c_lays_covered (n : Nat) (H : Hp) (panel : Panel) (panel_v0 : Value) (hpanel_0 : SL H 2 R_Span panel_v0 panel.Rows) (p : Place) (y : (List Cell)) (hF : F_lays_covered n panel p = some y) : HC Try.prog 54 [.agg [panel_v0].toArray, .agg [.int .i64 p.Row, .int .i64 p.Col, .int .i64 p.Turned].toArray] H (fun H' ra_v0 => SL H' 2 R_Cell ra_v0 y) := by
 rw [F_lays_covered] at hF
 refine HC.of (N := 41) Try.func54 rfl rfl rfl fun w => ?_
 refine JC.seq (JC.region (by rfl) ?_)
 intro hQ
 refine JL.box (cs := [panel_v0]) rfl .none rfl ?_
 intro b1
 refine JL.box (cs := [.int .i64 p.Row, .int .i64 p.Col, .int .i64 p.Turned]) rfl .none rfl ?_
 intro b2
 refine JL.assign .none rfl ?_
 refine JL.done hQ (JQ.go (JC.seq (JC.region (by rfl) ?_)))
 intro hQ
 refine JL.assign .none rfl ?_
 refine JL.done hQ (JQ.go (JC.seq (JC.seq (JC.region (by rfl) ?_))))
 intro hQ
 refine JL.loadOwn 1 az_30 rfl rfl rfl .none rfl ?_
 refine JL.fieldAddr fo_62_2 rfl .none rfl ?_
 refine JL.loadOwn 0 az_3 rfl rfl rfl .none rfl ?_
 obtain ⟨y3, hy3, hF⟩ := bind_some hF
 refine JL.callH (c_lays_rows n H panel panel_v0 hpanel_0 p.Turned y3 hy3) rfl en_71 .none rfl ?_
 intro H4 y3a_v0 hs4 hy3a_0
 refine JL.lenSL (R := R_Span) ul_28 hy3a_0 .none rfl ?_
 refine JL.move .none rfl ?_
 refine JL.done hQ (JQ.go (JC.newNil (e := 27) (sz := 2) ?_))
 obtain ⟨r301, hlr301, hKr301⟩ := bind_some hF
 refine JC.join (fun (out_299 : List Cell) H300 f bs gs => ∃ (vout_299 : Value) (xsout_299 : List Value), f 5 = vout_299 ∧ bs = [] ∧ gs = [⟨vout_299, 27, 2, out_299.length, xsout_299⟩] ∧ CH H300 2 R_Cell xsout_299 out_299 ∧ HSub H4 H300 ∧ out_299 = r301) ?_ ?_
 ·skip
  refine JC.block (JC.mask [true, false] [true] ?_)
  refine JC.loop hlr301 (fun (x : Int × List Cell) H446 f bs gs => match x with | (x_444, out_445) => ∃ (vout_445 : Value) (xsout_445 : List Value), f 3 = .pointer (some ⟨b2, 0, none⟩) ∧ f 5 = vout_445 ∧ f 12 = y3a_v0 ∧ f 13 = .int .i64 (y3.length : Int) ∧ f 14 = .int .i64 x_444 ∧ bs = [(b2, .cells [.int .i64 p.Row, .int .i64 p.Col, .int .i64 p.Turned].toArray 62)] ∧ gs = [⟨vout_445, 27, 2, out_445.length, xsout_445⟩] ∧ CH H446 2 R_Cell xsout_445 out_445 ∧ HSub H4 H446) ⟨(.slice none 0 0), [], rfl, rfl, rfl, rfl, rfl, rfl, rfl, CH.nil, (HSub.refl _)⟩ ?_
  rintro ⟨x_444, out_445⟩ x448 H446 f bs gs ⟨vout_445, xsout_445, hf3, hf5, hf12, hf13, hf14, rfl, rfl, hout_445, hs446⟩ hF hr447
  rw [F_lays_covered_s1] at hF
  refine (JC.norm (i := 3) hf3 (JC.norm (i := 5) hf5 (JC.norm (i := 12) hf12 (JC.norm (i := 13) hf13 (JC.norm (i := 14) hf14 ?_)))))
  refine JC.seq (JC.region (by rfl) ?_)
  intro hQ
  refine JL.bin rfl rfl rfl .none rfl ?_
  refine JL.done hQ (JQ.go (JC.seq ?_))
  rcases ite_some hF with ⟨hc449, hF⟩ | ⟨hc449, hF⟩
  ·refine JC.cond_t (b := decide (x_444 < (y3.length : Int))) rfl hc449 ?_
   refine JC.skip (JQ.go (JC.seq (JC.block (JC.seq (JC.region (by rfl) ?_)))))
   intro hQ
   refine JL.move .none rfl ?_
   obtain ⟨y450, hy450, hF⟩ := bind_some hF
   refine JL.indexSL (R := R_Span) sl_28 (SL.mono R_Span_mono hs446 hy3a_0) rfl hy450 .none rfl ?_
   rintro b451 o452 cs453 hc454 - rfl
   refine JL.loadH 0 az_46 rfl hc454 rfl .none rfl ?_
   refine JL.alloc ze_46 .none rfl ?_
   intro b455
   refine JL.assign .none rfl ?_
   refine JL.storeOwn 0 (cs := [.int .i64 y450.Low, .int .i64 y450.High]) az_46 rfl rfl rfl (one_cons rfl (one_cons rfl one_nil)) rfl rfl .none ?_
   refine JL.done hQ (JQ.go (JC.seq (JC.region (by rfl) ?_)))
   intro hQ
   refine JL.fieldAddr fo_46_0 rfl .none rfl ?_
   refine JL.loadOwn 0 az_3 rfl rfl rfl .none rfl ?_
   refine JL.assign .none rfl ?_
   refine JL.done hQ (JQ.go ?_)
   obtain ⟨r487, hlr487, hKr487⟩ := bind_some hF
   refine JC.join (fun (out_485 : List Cell) H486 f bs gs => ∃ (vout_485 : Value) (xsout_485 : List Value), f 3 = .pointer (some ⟨b2, 0, none⟩) ∧ f 5 = vout_485 ∧ f 12 = y3a_v0 ∧ f 13 = .int .i64 (y3.length : Int) ∧ f 14 = .int .i64 x_444 ∧ bs = [(b2, .cells [.int .i64 p.Row, .int .i64 p.Col, .int .i64 p.Turned].toArray 62)] ∧ gs = [⟨vout_485, 27, 2, out_485.length, xsout_485⟩] ∧ CH H486 2 R_Cell xsout_485 out_485 ∧ HSub H446 H486 ∧ out_485 = r487) ?_ ?_
   ·skip
    refine JC.block (JC.loop hlr487 (fun (x : Int × List Cell) H508 f bs gs => match x with | (col_506, out_507) => ∃ (vout_507 : Value) (xsout_507 : List Value), f 3 = .pointer (some ⟨b2, 0, none⟩) ∧ f 5 = vout_507 ∧ f 6 = .int .i64 x_444 ∧ f 7 = .pointer (some ⟨b455, 0, none⟩) ∧ f 8 = .int .i64 col_506 ∧ f 12 = y3a_v0 ∧ f 13 = .int .i64 (y3.length : Int) ∧ f 14 = .int .i64 x_444 ∧ bs = [(b455, .cells [.int .i64 y450.Low, .int .i64 y450.High].toArray 46), (b2, .cells [.int .i64 p.Row, .int .i64 p.Col, .int .i64 p.Turned].toArray 62)] ∧ gs = [⟨vout_507, 27, 2, out_507.length, xsout_507⟩] ∧ CH H508 2 R_Cell xsout_507 out_507 ∧ HSub H446 H508) ⟨vout_445, xsout_445, rfl, rfl, rfl, rfl, rfl, rfl, rfl, rfl, rfl, rfl, hout_445, (HSub.refl _)⟩ ?_)
    rintro ⟨col_506, out_507⟩ x510 H508 f bs gs ⟨vout_507, xsout_507, hf3, hf5, hf6, hf7, hf8, hf12, hf13, hf14, rfl, rfl, hout_507, hs508⟩ hF hr509
    rw [F_lays_covered_s2] at hF
    refine (JC.norm (i := 3) hf3 (JC.norm (i := 5) hf5 (JC.norm (i := 6) hf6 (JC.norm (i := 7) hf7 (JC.norm (i := 8) hf8 (JC.norm (i := 12) hf12 (JC.norm (i := 13) hf13 (JC.norm (i := 14) hf14 ?_))))))))
    refine JC.seq (JC.seq (JC.region (by rfl) ?_))
    intro hQ
    refine JL.move .none rfl ?_
    refine JL.fieldAddr fo_46_1 rfl .none rfl ?_
    refine JL.loadOwn 0 az_3 rfl rfl rfl .none rfl ?_
    refine JL.bin rfl rfl rfl .none rfl ?_
    refine JL.done hQ (JQ.go ?_)
    rcases ite_some hF with ⟨hc511, hF⟩ | ⟨hc511, hF⟩
    ·refine JC.cond_t (b := decide (col_506 ≤ y450.High)) rfl hc511 ?_
     refine JC.skip (JQ.go (JC.seq (JC.block (JC.region (by rfl) ?_))))
     intro hQ
     refine JL.move .none rfl ?_
     refine JL.fieldAddr fo_62_0 rfl .none rfl ?_
     refine JL.loadOwn 1 az_3 rfl rfl rfl .none rfl ?_
     refine JL.move .none rfl ?_
     refine JL.bin rfl rfl rfl .none rfl ?_
     refine JL.fieldAddr fo_62_1 rfl .none rfl ?_
     refine JL.loadOwn 1 az_3 rfl rfl rfl .none rfl ?_
     refine JL.move .none rfl ?_
     refine JL.bin rfl rfl rfl .none rfl ?_
     refine JL.build (l := [.int .i64 (w64 (p.Row + x_444)), .int .i64 (w64 (p.Col + col_506))]) (by kernel_rfl) .none rfl ?_
     refine JL.buildSlice (e := 27) (l := [.int .i64 (w64 (p.Row + x_444)), .int .i64 (w64 (p.Col + col_506))]) (by kernel_rfl) .none rfl ?_
     intro b512
     obtain ⟨l513, hl513, hF⟩ := bind_some hF
     refine JL.appO (R := R_Cell) 0 0 (l := out_507) (m := [(Cell.mk (w64 (p.Row + x_444)) (w64 (p.Col + col_506)))]) ap_22 rfl ⟨rfl, rfl⟩ rfl hout_507 rfl rfl rfl (CH.cons (cs := [.int .i64 (w64 (p.Row + x_444)), .int .i64 (w64 (p.Col + col_506))]) rfl rfl CH.nil) rfl (one_cons rfl (one_cons rfl one_nil)) hl513 .none rfl ?_
     intro v514 xs515 hch516
     refine JL.assign .none rfl ?_
     refine JL.done hQ (JQ.normal_block (JQ.go (JC.fresh (fun f => f 3 = .pointer (some ⟨b2, 0, none⟩) ∧ f 5 = v514 ∧ f 6 = .int .i64 x_444 ∧ f 7 = .pointer (some ⟨b455, 0, none⟩) ∧ f 8 = .int .i64 col_506 ∧ f 12 = y3a_v0 ∧ f 13 = .int .i64 (y3.length : Int) ∧ f 14 = .int .i64 x_444) ⟨rfl, rfl, rfl, rfl, rfl, rfl, rfl, rfl⟩ ?_)))
     rintro f ⟨hf3, hf5, hf6, hf7, hf8, hf12, hf13, hf14⟩
     refine (JC.norm (i := 3) hf3 (JC.norm (i := 5) hf5 (JC.norm (i := 6) hf6 (JC.norm (i := 7) hf7 (JC.norm (i := 8) hf8 (JC.norm (i := 12) hf12 (JC.norm (i := 13) hf13 (JC.norm (i := 14) hf14 ?_))))))))
     refine JC.region (by rfl) ?_
     intro hQ
     refine JL.move .none rfl ?_
     refine JL.bin rfl rfl rfl .none rfl ?_
     refine JL.assign .none rfl ?_
     refine JL.done hQ ?_
     obtain rfl := Option.some.inj hF
     refine JQ.mask [false, true, true] [true] ?_
     exact JQ.next rfl ⟨v514, xs515, rfl, rfl, rfl, rfl, rfl, rfl, rfl, rfl, rfl, rfl, hch516, hs508⟩
    ·refine JC.cond_f (b := decide (col_506 ≤ y450.High)) rfl hc511 ?_
     refine JC.exit (JQ.exit_then (JQ.exit_then (JQ.exit_block ?_)))
     obtain rfl := Option.some.inj hF
     have ehr509 := hr509 _ rfl
     subst ehr509
     refine JQ.mask [false, true] [true] ?_
     exact JQ.join out_507 ⟨vout_507, xsout_507, rfl, rfl, rfl, rfl, rfl, rfl, rfl, hout_507, hs508, rfl⟩
   ·rintro out_485 H486 f bs gs ⟨vout_485, xsout_485, hf3, hf5, hf12, hf13, hf14, rfl, rfl, hout_485, hs486, rfl⟩
    have hF := hKr487
    try dsimp only at hF
    refine (JQ.norm (i := 3) hf3 (JQ.norm (i := 5) hf5 (JQ.norm (i := 12) hf12 (JQ.norm (i := 13) hf13 (JQ.norm (i := 14) hf14 ?_)))))
    refine JQ.normal_block (JQ.go (JC.region (by rfl) ?_))
    intro hQ
    refine JL.bin rfl rfl rfl .none rfl ?_
    refine JL.move .none rfl ?_
    refine JL.done hQ ?_
    obtain rfl := Option.some.inj hF
    exact JQ.next rfl ⟨vout_485, xsout_485, rfl, rfl, rfl, rfl, rfl, rfl, rfl, hout_485, (HSub.trans hs446 hs486)⟩
  ·refine JC.cond_f (b := decide (x_444 < (y3.length : Int))) rfl hc449 ?_
   refine JC.exit (JQ.exit_then (JQ.exit_then (JQ.exit_block ?_)))
   obtain rfl := Option.some.inj hF
   have ehr447 := hr447 _ rfl
   subst ehr447
   refine JQ.mask [false] [true] ?_
   exact JQ.join out_445 ⟨vout_445, xsout_445, rfl, rfl, rfl, hout_445, hs446, rfl⟩
 ·rintro out_299 H300 f bs gs ⟨vout_299, xsout_299, hf5, rfl, rfl, hout_299, hs300, rfl⟩
  have hF := hKr301
  try dsimp only at hF
  refine (JQ.norm (i := 5) hf5 ?_)
  refine JQ.go (JC.seq (JC.region (by rfl) ?_))
  intro hQ
  refine JL.move .none rfl ?_
  refine JL.assign .none rfl ?_
  refine JL.done hQ (JQ.go (JC.ret (JQ.freezeG 0 (R := R_Cell) rfl R_Cell_mono hout_299 rfl ?_)))
  intro H517 hs517 hg518
  obtain rfl := Option.some.inj hF
  exact JQ.outH rfl (.tmp .nil) hg518
-- 26 ferrule/lays.Waste
def F_lays_Waste_s1 (n : Nat) (s : Lap) : Int × Int → Option ((Int × Int) ⊕ Int)
 | (all_71, x_72) => if decide (x_72 < (s.Panels.length : Int)) = true then ((geti s.Panels x_72).bind fun y77 => (F_lays_covered n y77 (Place.mk 0 0 0)).bind fun y83 => some (Sum.inl ((w64 (all_71 + (y83.length : Int))), (w64 (x_72 + 1))))) else (some (Sum.inr all_71))
def F_lays_Waste (n : Nat) (s : Lap) : Option (Span × Int) :=
 (F_lays_Least n s).bind fun y3 => if (y3.2 != 0) = true then (some ((Span.mk 0 0), y3.2)) else ((F_lays_Hopes n s).bind fun y5 => (loopO n (F_lays_Waste_s1 n s) (0, 0)).bind fun all_44 => some ((Span.mk (w64 ((w64 (s.Width * y5.1)) - all_44)) (w64 ((w64 (s.Width * y3.1)) - all_44))), 0))
theorem c_lays_Waste (n : Nat) (H : Hp) (s : Lap) (s_v2 : Value) (hs_2 : SL H 2 R_Cell s_v2 s.Faults) (s_v3 : Value) (hs_3 : SL H 2 R_Cell s_v3 s.Flaws) (s_v4 : Value) (hs_4 : SL H 1 R_Panel s_v4 s.Panels) (y : Span × Int) (hF : F_lays_Waste n s = some y) : SC Try.prog 26 [.agg [.int .i64 s.Width, .int .i64 s.Length, s_v2, s_v3, s_v4].toArray] (.tuple [.agg [.int .i64 y.1.Low, .int .i64 y.1.High].toArray, .int .i64 y.2].toArray) H := by
 rw [F_lays_Waste] at hF
 refine SC.of (N := 52) Try.func26 rfl rfl rfl fun w => ?_
 refine JC.seq (JC.region (by rfl) ?_)
 intro hQ
 refine JL.box (cs := [.int .i64 s.Width, .int .i64 s.Length, s_v2, s_v3, s_v4]) rfl .none rfl ?_
 intro b1
 refine JL.alloc ze_46 .none rfl ?_
 intro b2
 refine JL.assign .none rfl ?_
 refine JL.done hQ (JQ.go (JC.seq (JC.region (by rfl) ?_)))
 intro hQ
 refine JL.loadOwn 1 az_25 rfl rfl rfl .none rfl ?_
 obtain ⟨y3, hy3, hF⟩ := bind_some hF
 refine JL.callS (c_lays_Least n H s s_v2 hs_2 s_v3 hs_3 s_v4 hs_4 y3 hy3) rfl en_14 .none rfl ?_
 refine JL.move .none rfl ?_
 refine JL.extract rfl rfl .none rfl ?_
 refine JL.extract rfl rfl .none rfl ?_
 refine JL.assign .none rfl ?_
 refine JL.assign .none rfl ?_
 refine JL.done hQ (JQ.go (JC.seq (JC.seq (JC.region (by rfl) ?_))))
 intro hQ
 refine JL.move .none rfl ?_
 refine JL.bin rfl rfl rfl .none rfl ?_
 refine JL.done hQ (JQ.go ?_)
 rcases ite_some hF with ⟨hc4, hF⟩ | ⟨hc4, hF⟩
 ·refine JC.cond_t (b := (y3.2 != 0)) rfl hc4 ?_
  refine JC.seq (JC.region (by rfl) ?_)
  intro hQ
  refine JL.build (l := [.int .i64 0, .int .i64 0]) (by kernel_rfl) .none rfl ?_
  refine JL.move .none rfl ?_
  refine JL.storeOwn 0 (cs := [.int .i64 0, .int .i64 0]) az_46 rfl rfl rfl (one_cons rfl (one_cons rfl one_nil)) rfl rfl .none ?_
  refine JL.assign .none rfl ?_
  refine JL.done hQ (JQ.go (JC.fresh (fun f => f 2 = .pointer (some ⟨b2, 0, none⟩) ∧ f 3 = .int .i64 y3.2) ⟨rfl, rfl⟩ ?_))
  rintro f ⟨hf2, hf3⟩
  refine (JC.norm (i := 2) hf2 (JC.norm (i := 3) hf3 ?_))
  refine JC.ret (JQ.ret_then ?_)
  obtain rfl := Option.some.inj hF
  exact JQ.outS rfl (.cell 0 az_46 rfl rfl rfl (.tmp .nil)) rfl
 ·refine JC.cond_f (b := (y3.2 != 0)) rfl hc4 ?_
  refine JC.skip (JQ.go (JC.seq (JC.region (by rfl) ?_)))
  intro hQ
  refine JL.loadOwn 1 az_25 rfl rfl rfl .none rfl ?_
  obtain ⟨y5, hy5, hF⟩ := bind_some hF
  refine JL.callS (c_lays_Hopes n H s s_v2 hs_2 s_v3 hs_3 s_v4 hs_4 y5 hy5) rfl en_17 .none rfl ?_
  refine JL.move .none rfl ?_
  refine JL.extract rfl rfl .none rfl ?_
  refine JL.extract rfl rfl .none rfl ?_
  refine JL.assign .none rfl ?_
  refine JL.assign .none rfl ?_
  refine JL.done hQ (JQ.go (JC.fresh (fun f => f 1 = .pointer (some ⟨b1, 0, none⟩) ∧ f 2 = .pointer (some ⟨b2, 0, none⟩) ∧ f 3 = .int .i64 0 ∧ f 4 = .int .i64 y3.1 ∧ f 6 = .int .i64 y5.1) ⟨rfl, rfl, rfl, rfl, rfl⟩ ?_))
  rintro f ⟨hf1, hf2, hf3, hf4, hf6⟩
  refine (JC.norm (i := 1) hf1 (JC.norm (i := 2) hf2 (JC.norm (i := 3) hf3 (JC.norm (i := 4) hf4 (JC.norm (i := 6) hf6 ?_)))))
  refine JC.seq (JC.region (by rfl) ?_)
  intro hQ
  refine JL.assign .none rfl ?_
  refine JL.done hQ (JQ.go (JC.seq (JC.seq (JC.region (by rfl) ?_))))
  intro hQ
  refine JL.fieldAddr fo_25_4 rfl .none rfl ?_
  refine JL.loadOwn 1 az_23 rfl rfl rfl .none rfl ?_
  refine JL.lenSL (R := R_Panel) ul_23 hs_4 .none rfl ?_
  refine JL.move .none rfl ?_
  refine JL.done hQ (JQ.go ?_)
  obtain ⟨r46, hlr46, hKr46⟩ := bind_some hF
  refine JC.join (fun (all_44 : Int) H45 f bs gs => f 1 = .pointer (some ⟨b1, 0, none⟩) ∧ f 2 = .pointer (some ⟨b2, 0, none⟩) ∧ f 4 = .int .i64 y3.1 ∧ f 6 = .int .i64 y5.1 ∧ f 8 = .int .i64 all_44 ∧ bs = [(b2, .cells [.int .i64 0, .int .i64 0].toArray 46), (b1, .cells [.int .i64 s.Width, .int .i64 s.Length, s_v2, s_v3, s_v4].toArray 25)] ∧ gs = [] ∧ HSub H H45 ∧ all_44 = r46) ?_ ?_
  ·skip
   refine JC.block (JC.loop hlr46 (fun (x : Int × Int) H73 f bs gs => match x with | (all_71, x_72) => f 1 = .pointer (some ⟨b1, 0, none⟩) ∧ f 2 = .pointer (some ⟨b2, 0, none⟩) ∧ f 4 = .int .i64 y3.1 ∧ f 6 = .int .i64 y5.1 ∧ f 8 = .int .i64 all_71 ∧ f 26 = s_v4 ∧ f 27 = .int .i64 (s.Panels.length : Int) ∧ f 28 = .int .i64 x_72 ∧ bs = [(b2, .cells [.int .i64 0, .int .i64 0].toArray 46), (b1, .cells [.int .i64 s.Width, .int .i64 s.Length, s_v2, s_v3, s_v4].toArray 25)] ∧ gs = [] ∧ HSub H H73) ⟨rfl, rfl, rfl, rfl, rfl, rfl, rfl, rfl, rfl, rfl, (HSub.refl _)⟩ ?_)
   rintro ⟨all_71, x_72⟩ x75 H73 f bs gs ⟨hf1, hf2, hf4, hf6, hf8, hf26, hf27, hf28, rfl, rfl, hs73⟩ hF hr74
   rw [F_lays_Waste_s1] at hF
   refine (JC.norm (i := 1) hf1 (JC.norm (i := 2) hf2 (JC.norm (i := 4) hf4 (JC.norm (i := 6) hf6 (JC.norm (i := 8) hf8 (JC.norm (i := 26) hf26 (JC.norm (i := 27) hf27 (JC.norm (i := 28) hf28 ?_))))))))
   refine JC.seq (JC.region (by rfl) ?_)
   intro hQ
   refine JL.bin rfl rfl rfl .none rfl ?_
   refine JL.done hQ (JQ.go (JC.seq ?_))
   rcases ite_some hF with ⟨hc76, hF⟩ | ⟨hc76, hF⟩
   ·refine JC.cond_t (b := decide (x_72 < (s.Panels.length : Int))) rfl hc76 ?_
    refine JC.skip (JQ.go (JC.seq (JC.block (JC.seq (JC.region (by rfl) ?_)))))
    intro hQ
    obtain ⟨y77, hy77, hF⟩ := bind_some hF
    refine JL.indexSL (R := R_Panel) sl_23 (SL.mono R_Panel_mono hs73 hs_4) rfl hy77 .none rfl ?_
    rintro b78 o79 cs80 hc81 - ⟨y77_v0, rfl, hy77_0⟩
    refine JL.loadH 0 az_30 rfl hc81 rfl .none rfl ?_
    refine JL.alloc ze_30 .none rfl ?_
    intro b82
    refine JL.storeOwn 0 (cs := [y77_v0]) az_30 rfl rfl rfl (one_cons (SL.one hy77_0) one_nil) rfl rfl .none ?_
    refine JL.done hQ (JQ.go (JC.region (by rfl) ?_))
    intro hQ
    refine JL.move .none rfl ?_
    refine JL.loadOwn 0 az_30 rfl rfl rfl .none rfl ?_
    refine JL.build (l := [.int .i64 0, .int .i64 0, .int .i64 0]) (by kernel_rfl) .none rfl ?_
    obtain ⟨y83, hy83, hF⟩ := bind_some hF
    refine JL.callH (c_lays_covered n H73 y77 y77_v0 hy77_0 (Place.mk 0 0 0) y83 hy83) rfl en_54 .none rfl ?_
    intro H84 y83a_v0 hs84 hy83a_0
    refine JL.lenSL (R := R_Cell) ul_22 hy83a_0 .none rfl ?_
    refine JL.bin rfl rfl rfl .none rfl ?_
    refine JL.assign .none rfl ?_
    refine JL.done hQ (JQ.normal_block (JQ.go (JC.fresh (fun f => f 1 = .pointer (some ⟨b1, 0, none⟩) ∧ f 2 = .pointer (some ⟨b2, 0, none⟩) ∧ f 4 = .int .i64 y3.1 ∧ f 6 = .int .i64 y5.1 ∧ f 8 = .int .i64 (w64 (all_71 + (y83.length : Int))) ∧ f 26 = s_v4 ∧ f 27 = .int .i64 (s.Panels.length : Int) ∧ f 28 = .int .i64 x_72) ⟨rfl, rfl, rfl, rfl, rfl, rfl, rfl, rfl⟩ ?_)))
    rintro f ⟨hf1, hf2, hf4, hf6, hf8, hf26, hf27, hf28⟩
    refine (JC.norm (i := 1) hf1 (JC.norm (i := 2) hf2 (JC.norm (i := 4) hf4 (JC.norm (i := 6) hf6 (JC.norm (i := 8) hf8 (JC.norm (i := 26) hf26 (JC.norm (i := 27) hf27 (JC.norm (i := 28) hf28 ?_))))))))
    refine JC.region (by rfl) ?_
    intro hQ
    refine JL.bin rfl rfl rfl .none rfl ?_
    refine JL.move .none rfl ?_
    refine JL.done hQ ?_
    obtain rfl := Option.some.inj hF
    refine JQ.mask [false, true, true] [] ?_
    exact JQ.next rfl ⟨rfl, rfl, rfl, rfl, rfl, rfl, rfl, rfl, rfl, rfl, (HSub.trans hs73 hs84)⟩
   ·refine JC.cond_f (b := decide (x_72 < (s.Panels.length : Int))) rfl hc76 ?_
    refine JC.exit (JQ.exit_then (JQ.exit_then (JQ.exit_block ?_)))
    obtain rfl := Option.some.inj hF
    have ehr74 := hr74 _ rfl
    subst ehr74
    exact JQ.join all_71 ⟨rfl, rfl, rfl, rfl, rfl, rfl, rfl, hs73, rfl⟩
  ·rintro all_44 H45 f bs gs ⟨hf1, hf2, hf4, hf6, hf8, rfl, rfl, hs45, rfl⟩
   have hF := hKr46
   try dsimp only at hF
   refine (JQ.norm (i := 1) hf1 (JQ.norm (i := 2) hf2 (JQ.norm (i := 4) hf4 (JQ.norm (i := 6) hf6 (JQ.norm (i := 8) hf8 ?_)))))
   refine JQ.go (JC.seq (JC.region (by rfl) ?_))
   intro hQ
   refine JL.fieldAddr fo_25_0 rfl .none rfl ?_
   refine JL.loadOwn 1 az_3 rfl rfl rfl .none rfl ?_
   refine JL.move .none rfl ?_
   refine JL.bin rfl rfl rfl .none rfl ?_
   refine JL.move .none rfl ?_
   refine JL.bin rfl rfl rfl .none rfl ?_
   refine JL.fieldAddr fo_25_0 rfl .none rfl ?_
   refine JL.loadOwn 1 az_3 rfl rfl rfl .none rfl ?_
   refine JL.move .none rfl ?_
   refine JL.bin rfl rfl rfl .none rfl ?_
   refine JL.move .none rfl ?_
   refine JL.bin rfl rfl rfl .none rfl ?_
   refine JL.build (l := [.int .i64 (w64 ((w64 (s.Width * y5.1)) - all_44)), .int .i64 (w64 ((w64 (s.Width * y3.1)) - all_44))]) (by kernel_rfl) .none rfl ?_
   refine JL.storeOwn 0 (cs := [.int .i64 (w64 ((w64 (s.Width * y5.1)) - all_44)), .int .i64 (w64 ((w64 (s.Width * y3.1)) - all_44))]) az_46 rfl rfl rfl (one_cons rfl (one_cons rfl one_nil)) rfl rfl .none ?_
   refine JL.assign .none rfl ?_
   refine JL.done hQ (JQ.go (JC.fresh (fun f => f 2 = .pointer (some ⟨b2, 0, none⟩) ∧ f 3 = .int .i64 0) ⟨rfl, rfl⟩ ?_))
   rintro f ⟨hf2, hf3⟩
   refine (JC.norm (i := 2) hf2 (JC.norm (i := 3) hf3 ?_))
   refine JC.ret ?_
   obtain rfl := Option.some.inj hF
   exact JQ.outS rfl (.cell 0 az_46 rfl rfl rfl (.tmp .nil)) rfl
-- 30 ferrule/ferruleref03.Waste
def F_ref03_Waste (n : Nat) (s : Lap) : Option (Span × Int) :=
 (F_ref03_Least n s).bind fun y3 => if (y3.2 != 0) = true then (some ((Span.mk 0 0), y3.2)) else ((F_ref03_Hopes n s).bind fun y5 => (F_ref03_Area n s).bind fun y8 => (F_ref03_Area n s).bind fun y9 => some ((Span.mk (w64 ((w64 (s.Width * y5.1)) - y8)) (w64 ((w64 (s.Width * y3.1)) - y9))), 0))
theorem c_ref03_Waste (n : Nat) (H : Hp) (s : Lap) (s_v2 : Value) (hs_2 : SL H 2 R_Cell s_v2 s.Faults) (s_v3 : Value) (hs_3 : SL H 2 R_Cell s_v3 s.Flaws) (s_v4 : Value) (hs_4 : SL H 1 R_Panel s_v4 s.Panels) (y : Span × Int) (hF : F_ref03_Waste n s = some y) : SC Try.prog 30 [.agg [.int .i64 s.Width, .int .i64 s.Length, s_v2, s_v3, s_v4].toArray] (.tuple [.agg [.int .i64 y.1.Low, .int .i64 y.1.High].toArray, .int .i64 y.2].toArray) H := by
 rw [F_ref03_Waste] at hF
 refine SC.of (N := 37) Try.func30 rfl rfl rfl fun w => ?_
 refine JC.seq (JC.region (by rfl) ?_)
 intro hQ
 refine JL.box (cs := [.int .i64 s.Width, .int .i64 s.Length, s_v2, s_v3, s_v4]) rfl .none rfl ?_
 intro b1
 refine JL.alloc ze_46 .none rfl ?_
 intro b2
 refine JL.assign .none rfl ?_
 refine JL.done hQ (JQ.go (JC.seq (JC.region (by rfl) ?_)))
 intro hQ
 refine JL.loadOwn 1 az_25 rfl rfl rfl .none rfl ?_
 obtain ⟨y3, hy3, hF⟩ := bind_some hF
 refine JL.callS (c_ref03_Least n H s s_v2 hs_2 s_v3 hs_3 s_v4 hs_4 y3 hy3) rfl en_28 .none rfl ?_
 refine JL.move .none rfl ?_
 refine JL.extract rfl rfl .none rfl ?_
 refine JL.extract rfl rfl .none rfl ?_
 refine JL.assign .none rfl ?_
 refine JL.assign .none rfl ?_
 refine JL.done hQ (JQ.go (JC.seq (JC.seq (JC.region (by rfl) ?_))))
 intro hQ
 refine JL.move .none rfl ?_
 refine JL.bin rfl rfl rfl .none rfl ?_
 refine JL.done hQ (JQ.go ?_)
 rcases ite_some hF with ⟨hc4, hF⟩ | ⟨hc4, hF⟩
 ·refine JC.cond_t (b := (y3.2 != 0)) rfl hc4 ?_
  refine JC.seq (JC.region (by rfl) ?_)
  intro hQ
  refine JL.build (l := [.int .i64 0, .int .i64 0]) (by kernel_rfl) .none rfl ?_
  refine JL.move .none rfl ?_
  refine JL.storeOwn 0 (cs := [.int .i64 0, .int .i64 0]) az_46 rfl rfl rfl (one_cons rfl (one_cons rfl one_nil)) rfl rfl .none ?_
  refine JL.assign .none rfl ?_
  refine JL.done hQ (JQ.go (JC.fresh (fun f => f 2 = .pointer (some ⟨b2, 0, none⟩) ∧ f 3 = .int .i64 y3.2) ⟨rfl, rfl⟩ ?_))
  rintro f ⟨hf2, hf3⟩
  refine (JC.norm (i := 2) hf2 (JC.norm (i := 3) hf3 ?_))
  refine JC.ret (JQ.ret_then ?_)
  obtain rfl := Option.some.inj hF
  exact JQ.outS rfl (.cell 0 az_46 rfl rfl rfl (.tmp .nil)) rfl
 ·refine JC.cond_f (b := (y3.2 != 0)) rfl hc4 ?_
  refine JC.skip (JQ.go (JC.seq (JC.region (by rfl) ?_)))
  intro hQ
  refine JL.loadOwn 1 az_25 rfl rfl rfl .none rfl ?_
  obtain ⟨y5, hy5, hF⟩ := bind_some hF
  refine JL.callS (c_ref03_Hopes n H s s_v2 hs_2 s_v3 hs_3 s_v4 hs_4 y5 hy5) rfl en_29 .none rfl ?_
  refine JL.move .none rfl ?_
  refine JL.extract rfl rfl .none rfl ?_
  refine JL.extract rfl rfl .none rfl ?_
  refine JL.assign .none rfl ?_
  refine JL.assign .none rfl ?_
  refine JL.done hQ (JQ.go (JC.fresh (fun f => f 1 = .pointer (some ⟨b1, 0, none⟩) ∧ f 2 = .pointer (some ⟨b2, 0, none⟩) ∧ f 3 = .int .i64 0 ∧ f 4 = .int .i64 y3.1 ∧ f 6 = .int .i64 y5.1) ⟨rfl, rfl, rfl, rfl, rfl⟩ ?_))
  rintro f ⟨hf1, hf2, hf3, hf4, hf6⟩
  refine (JC.norm (i := 1) hf1 (JC.norm (i := 2) hf2 (JC.norm (i := 3) hf3 (JC.norm (i := 4) hf4 (JC.norm (i := 6) hf6 ?_)))))
  refine JC.seq ?_
  obtain ⟨y8, hy8, hF⟩ := bind_some hF
  obtain ⟨y9, hy9, hF⟩ := bind_some hF
  refine JC.mixed 17 17 #[false, false, false, false, false, false, false, false, false, false, false, false, false, false, false, false, false] [(b1, .cells [.int .i64 s.Width, .int .i64 s.Length, s_v2, s_v3, s_v4].toArray 25)] (by rfl) mo_ (by kernel_rfl) (by kernel_rfl) ?_
  intro hQ hE
  refine JA.take 0 (listed' := #[true, false, false, false, false, false, false, false, false, false, false, false, false, false, false, false, false]) hQ rfl (by kernel_rfl) (by kernel_rfl) (by kernel_rfl) (by kernel_rfl) (by kernel_rfl) hE (HSub.refl _) (.cons _ (.cons_cons _ (List.nil_sublist _))) ?_
  refine JL.fieldAddr fo_25_0 rfl .none rfl ?_
  refine JA.cont ?_
  refine JA.take 1 (listed' := #[true, true, false, false, false, false, false, false, false, false, false, false, false, false, false, false, false]) hQ rfl (by kernel_rfl) (by kernel_rfl) (by kernel_rfl) (by kernel_rfl) (by kernel_rfl) hE (HSub.refl _) (.cons _ (.cons_cons _ (List.nil_sublist _))) ?_
  refine JL.loadOwn 0 az_3 rfl rfl rfl .none rfl ?_
  refine JA.cont ?_
  refine JA.take 2 (listed' := #[true, true, true, false, false, false, false, false, false, false, false, false, false, false, false, false, false]) hQ rfl (by kernel_rfl) (by kernel_rfl) (by kernel_rfl) (by kernel_rfl) (by kernel_rfl) hE (HSub.refl _) (.cons _ (.cons_cons _ (List.nil_sublist _))) ?_
  refine JL.move .none rfl ?_
  refine JA.cont ?_
  refine JA.take 3 (listed' := #[true, true, true, true, false, false, false, false, false, false, false, false, false, false, false, false, false]) hQ rfl (by kernel_rfl) (by kernel_rfl) (by kernel_rfl) (by kernel_rfl) (by kernel_rfl) hE (HSub.refl _) (.cons _ (.cons_cons _ (List.nil_sublist _))) ?_
  refine JL.bin rfl rfl rfl .none rfl ?_
  refine JA.cont ?_
  refine JA.take 4 (listed' := #[true, true, true, true, true, false, false, false, false, false, false, false, false, false, false, false, false]) hQ rfl (by kernel_rfl) (by kernel_rfl) (by kernel_rfl) (by kernel_rfl) (by kernel_rfl) hE (HSub.refl _) (.cons _ (.cons_cons _ (List.nil_sublist _))) ?_
  refine JL.loadOwn 0 az_25 rfl rfl rfl .none rfl ?_
  refine JA.cont ?_
  refine JA.take 7 (listed' := #[true, true, true, true, true, false, false, true, false, false, false, false, false, false, false, false, false]) hQ rfl (by kernel_rfl) (by kernel_rfl) (by kernel_rfl) (by kernel_rfl) (by kernel_rfl) hE (HSub.refl _) (.cons _ (.cons_cons _ (List.nil_sublist _))) ?_
  refine JL.fieldAddr fo_25_0 rfl .none rfl ?_
  refine JA.cont ?_
  refine JA.take 8 (listed' := #[true, true, true, true, true, false, false, true, true, false, false, false, false, false, false, false, false]) hQ rfl (by kernel_rfl) (by kernel_rfl) (by kernel_rfl) (by kernel_rfl) (by kernel_rfl) hE (HSub.refl _) (.cons _ (.cons_cons _ (List.nil_sublist _))) ?_
  refine JL.loadOwn 0 az_3 rfl rfl rfl .none rfl ?_
  refine JA.cont ?_
  refine JA.take 9 (listed' := #[true, true, true, true, true, false, false, true, true, true, false, false, false, false, false, false, false]) hQ rfl (by kernel_rfl) (by kernel_rfl) (by kernel_rfl) (by kernel_rfl) (by kernel_rfl) hE (HSub.refl _) (.cons _ (.cons_cons _ (List.nil_sublist _))) ?_
  refine JL.move .none rfl ?_
  refine JA.cont ?_
  refine JA.take 10 (listed' := #[true, true, true, true, true, false, false, true, true, true, true, false, false, false, false, false, false]) hQ rfl (by kernel_rfl) (by kernel_rfl) (by kernel_rfl) (by kernel_rfl) (by kernel_rfl) hE (HSub.refl _) (.cons _ (.cons_cons _ (List.nil_sublist _))) ?_
  refine JL.bin rfl rfl rfl .none rfl ?_
  refine JA.cont ?_
  refine JA.take 11 (listed' := #[true, true, true, true, true, false, false, true, true, true, true, true, false, false, false, false, false]) hQ rfl (by kernel_rfl) (by kernel_rfl) (by kernel_rfl) (by kernel_rfl) (by kernel_rfl) hE (HSub.refl _) (.cons _ (.cons_cons _ (List.nil_sublist _))) ?_
  refine JL.loadOwn 0 az_25 rfl rfl rfl .none rfl ?_
  refine JA.cont ?_
  refine JA.many [5] (by kernel_rfl) (by simp) (all_one ⟨_, #[true, true, true, true, true, true, false, true, true, true, true, true, false, false, false, false, false], rfl, (by kernel_rfl), ?_⟩)
  refine JL.callS (c_ref03_Area n H s s_v2 hs_2 s_v3 hs_3 s_v4 hs_4 y8 hy8) rfl en_23 .none rfl ?_
  refine JA.after hE (HSub.refl _) (.cons _ (.cons_cons _ (List.nil_sublist _))) ?_
  refine JA.take 6 (listed' := #[true, true, true, true, true, true, true, true, true, true, true, true, false, false, false, false, false]) hQ rfl (by kernel_rfl) (by kernel_rfl) (by kernel_rfl) (by kernel_rfl) (by kernel_rfl) hE (HSub.refl _) (.cons _ (.cons_cons _ (List.nil_sublist _))) ?_
  refine JL.bin rfl rfl rfl .none rfl ?_
  refine JA.cont ?_
  refine JA.many [12] (by kernel_rfl) (by simp) (all_one ⟨_, #[true, true, true, true, true, true, true, true, true, true, true, true, true, false, false, false, false], rfl, (by kernel_rfl), ?_⟩)
  refine JL.callS (c_ref03_Area n H s s_v2 hs_2 s_v3 hs_3 s_v4 hs_4 y9 hy9) rfl en_23 .none rfl ?_
  refine JA.after hE (HSub.refl _) (.cons _ (.cons_cons _ (List.nil_sublist _))) ?_
  refine JA.take 13 (listed' := #[true, true, true, true, true, true, true, true, true, true, true, true, true, true, false, false, false]) hQ rfl (by kernel_rfl) (by kernel_rfl) (by kernel_rfl) (by kernel_rfl) (by kernel_rfl) hE (HSub.refl _) (.cons _ (.cons_cons _ (List.nil_sublist _))) ?_
  refine JL.bin rfl rfl rfl .none rfl ?_
  refine JA.cont ?_
  refine JA.take 14 (listed' := #[true, true, true, true, true, true, true, true, true, true, true, true, true, true, true, false, false]) hQ rfl (by kernel_rfl) (by kernel_rfl) (by kernel_rfl) (by kernel_rfl) (by kernel_rfl) hE (HSub.refl _) (.cons _ (.cons_cons _ (List.nil_sublist _))) ?_
  refine JL.build (l := [.int .i64 (w64 ((w64 (s.Width * y5.1)) - y8)), .int .i64 (w64 ((w64 (s.Width * y3.1)) - y9))]) (by kernel_rfl) .none rfl ?_
  refine JA.cont ?_
  refine JA.many [15] (by kernel_rfl) (by simp) (all_one ⟨_, #[true, true, true, true, true, true, true, true, true, true, true, true, true, true, true, true, false], rfl, (by kernel_rfl), ?_⟩)
  refine JL.storeOwn 0 (cs := [.int .i64 (w64 ((w64 (s.Width * y5.1)) - y8)), .int .i64 (w64 ((w64 (s.Width * y3.1)) - y9))]) az_46 rfl rfl rfl (one_cons rfl (one_cons rfl one_nil)) rfl rfl .none ?_
  refine JA.after hE (HSub.refl _) (.cons _ (.cons_cons _ (List.nil_sublist _))) ?_
  refine JA.take 16 (listed' := #[true, true, true, true, true, true, true, true, true, true, true, true, true, true, true, true, true]) hQ rfl (by kernel_rfl) (by kernel_rfl) (by kernel_rfl) (by kernel_rfl) (by kernel_rfl) hE (HSub.refl _) (.cons _ (.cons_cons _ (List.nil_sublist _))) ?_
  refine JL.assign .none rfl ?_
  refine JA.cont ?_
  refine JA.done hQ (by kernel_rfl) ?_
  refine JQ.go (JC.fresh (fun f => f 2 = .pointer (some ⟨b2, 0, none⟩) ∧ f 3 = .int .i64 0) ⟨rfl, rfl⟩ ?_)
  rintro f ⟨hf2, hf3⟩
  refine (JC.norm (i := 2) hf2 (JC.norm (i := 3) hf3 ?_))
  refine JC.ret ?_
  obtain rfl := Option.some.inj hF
  exact JQ.outS rfl (.cell 0 az_46 rfl rfl rfl (.tmp .nil)) rfl
-- 58 ferrule/ferruleref03.LeastOf
def F_ref03_LeastOf (n : Nat) (s : Lap) (flaws : List Cell) : Option Int :=
 (lim (([] : List Cell) ++ s.Faults)).bind fun l4 => (lim (l4 ++ flaws)).bind fun l8 => (F_ref03_least n s l8).bind fun y14 => some y14
theorem c_ref03_LeastOf (n : Nat) (H : Hp) (s : Lap) (s_v2 : Value) (hs_2 : SL H 2 R_Cell s_v2 s.Faults) (s_v3 : Value) (hs_3 : SL H 2 R_Cell s_v3 s.Flaws) (s_v4 : Value) (hs_4 : SL H 1 R_Panel s_v4 s.Panels) (flaws : List Cell) (flaws_v0 : Value) (hflaws_0 : SL H 2 R_Cell flaws_v0 flaws) (y : Int) (hF : F_ref03_LeastOf n s flaws = some y) : SC Try.prog 58 [.agg [.int .i64 s.Width, .int .i64 s.Length, s_v2, s_v3, s_v4].toArray, flaws_v0] (.int .i64 y) H := by
 rw [F_ref03_LeastOf] at hF
 refine SC.of (N := 13) Try.func58 rfl rfl rfl fun w => ?_
 refine JC.seq (JC.region (by rfl) ?_)
 intro hQ
 refine JL.box (cs := [.int .i64 s.Width, .int .i64 s.Length, s_v2, s_v3, s_v4]) rfl .none rfl ?_
 intro b1
 refine JL.assign .none rfl ?_
 refine JL.done hQ (JQ.go (JC.seq ?_))
 obtain ⟨l4, hl4, hF⟩ := bind_some hF
 obtain ⟨l8, hl8, hF⟩ := bind_some hF
 obtain ⟨y14, hy14, hF⟩ := bind_some hF
 refine JC.mixed 9 9 #[false, false, false, false, false, false, false, false, false] [(b1, .cells [.int .i64 s.Width, .int .i64 s.Length, s_v2, s_v3, s_v4].toArray 25)] (by rfl) mo_ (by kernel_rfl) (by kernel_rfl) ?_
 intro hQ hE
 refine JA.take 0 (listed' := #[true, false, false, false, false, false, false, false, false]) hQ rfl (by kernel_rfl) (by kernel_rfl) (by kernel_rfl) (by kernel_rfl) (by kernel_rfl) hE (HSub.refl _) (.cons_cons _ (List.nil_sublist _)) ?_
 refine JL.loadOwn 0 az_25 rfl rfl rfl .none rfl ?_
 refine JA.cont ?_
 refine JA.take 2 (listed' := #[true, false, true, false, false, false, false, false, false]) hQ rfl (by kernel_rfl) (by kernel_rfl) (by kernel_rfl) (by kernel_rfl) (by kernel_rfl) hE (HSub.refl _) (.cons_cons _ (List.nil_sublist _)) ?_
 refine JL.fieldAddr fo_25_2 rfl .none rfl ?_
 refine JA.cont ?_
 refine JA.take 3 (listed' := #[true, false, true, true, false, false, false, false, false]) hQ rfl (by kernel_rfl) (by kernel_rfl) (by kernel_rfl) (by kernel_rfl) (by kernel_rfl) hE (HSub.refl _) (.cons_cons _ (List.nil_sublist _)) ?_
 refine JL.loadOwn 0 az_22 rfl rfl rfl .none rfl ?_
 refine JA.cont ?_
 refine JA.take 5 (listed' := #[true, false, true, true, false, true, false, false, false]) hQ rfl (by kernel_rfl) (by kernel_rfl) (by kernel_rfl) (by kernel_rfl) (by kernel_rfl) hE (HSub.refl _) (.cons_cons _ (List.nil_sublist _)) ?_
 refine JL.move .none rfl ?_
 refine JA.cont ?_
 refine JA.many [1] (by kernel_rfl) (by simp) (all_one ⟨_, #[true, true, true, true, false, true, false, false, false], rfl, (by kernel_rfl), ?_⟩)
 refine JL.emptySlice ap_22 .none rfl ?_
 intro v25
 refine JA.after hE (HSub.refl _) (.cons_cons _ (List.nil_sublist _)) ?_
 refine JA.many [4] (by kernel_rfl) (by simp) (all_one ⟨_, #[true, true, true, true, true, true, false, false, false], rfl, (by kernel_rfl), ?_⟩)
 refine JL.appD (R := R_Cell) 0 (l := ([] : List Cell)) (m := s.Faults) ap_22 rfl ⟨rfl, rfl⟩ rfl CH.nil rfl hs_2 (R_Cell_one _) hl4 .none rfl ?_
 intro v27 xs28 hch29
 refine JA.after hE (HSub.refl _) (.cons_cons _ (List.nil_sublist _)) ?_
 refine JA.many [6] (by kernel_rfl) (by simp) (all_one ⟨_, #[true, true, true, true, true, true, true, false, false], rfl, (by kernel_rfl), ?_⟩)
 refine JL.appD (R := R_Cell) 0 (l := l4) (m := flaws) ap_22 rfl ⟨rfl, rfl⟩ rfl hch29 rfl hflaws_0 (R_Cell_one _) hl8 .none rfl ?_
 intro v30 xs31 hch32
 refine JA.after hE (HSub.refl _) (.cons_cons _ (List.nil_sublist _)) ?_
 refine JA.many [7] (by kernel_rfl) (by simp) (all_one ⟨_, #[true, true, true, true, true, true, true, true, false], rfl, (by kernel_rfl), ?_⟩)
 refine JL.freezeG 0 (R := R_Cell) rfl R_Cell_mono hch32 rfl ?_
 intro H33 hs33 hg34
 refine JL.callS (c_ref03_least n H33 s s_v2 (SL.mono R_Cell_mono hs33 hs_2) s_v3 (SL.mono R_Cell_mono hs33 hs_3) s_v4 (SL.mono R_Panel_mono hs33 hs_4) l8 v30 hg34 y14 hy14) rfl en_57 .none rfl ?_
 refine JA.after hE hs33 (.cons_cons _ (List.nil_sublist _)) ?_
 refine JA.take 8 (listed' := #[true, true, true, true, true, true, true, true, true]) hQ rfl (by kernel_rfl) (by kernel_rfl) (by kernel_rfl) (by kernel_rfl) (by kernel_rfl) hE hs33 (.cons_cons _ (List.nil_sublist _)) ?_
 refine JL.assign .none rfl ?_
 refine JA.cont ?_
 refine JA.done hQ (by kernel_rfl) ?_
 refine JQ.go (JC.ret ?_)
 obtain rfl := Option.some.inj hF
 exact JQ.outS rfl (.tmp .nil) rfl
-- 31 ferrule/ferruleref03.Matters
def F_ref03_Matters_s1 (n : Nat) (s : Lap) (y7 : Int) : Int × List Int → Option ((Int × List Int) ⊕ (List Int))
 | (i_502, out_503) => if decide (i_502 < (s.Flaws.length : Int)) = true then ((slc s.Flaws 0 i_502).bind fun y510 => (lim (([] : List Cell) ++ y510)).bind fun l513 => (slc s.Flaws (w64 (i_502 + 1)) s.Flaws.length).bind fun y517 => (lim (l513 ++ y517)).bind fun l520 => (F_ref03_LeastOf n s l520).bind fun y526 => (if ((decide (0 ≤ y526)) && ((decide (y7 < 0)) || (decide (y526 < y7)))) = true then ((lim (out_503 ++ [i_502])).bind fun l580 => some l580) else (some out_503)).bind fun out_575 => some (Sum.inl ((w64 (i_502 + 1)), out_575))) else (some (Sum.inr out_503))
def F_ref03_Matters (n : Nat) (s : Lap) : Option ((List Int) × Int) :=
 (F_ref03_Check n s).bind fun y2 => if (y2 != 0) = true then (some (([] : List Int), y2)) else ((F_ref03_all n s).bind fun y5 => (F_ref03_least n s y5).bind fun y7 => (loopO n (F_ref03_Matters_s1 n s y7) (0, ([] : List Int))).bind fun out_339 => some (out_339, 0))
theorem c_ref03_Matters (n : Nat) (H : Hp) (s : Lap) (s_v2 : Value) (hs_2 : SL H 2 R_Cell s_v2 s.Faults) (s_v3 : Value) (hs_3 : SL H 2 R_Cell s_v3 s.Flaws) (s_v4 : Value) (hs_4 : SL H 1 R_Panel s_v4 s.Panels) (y : (List Int) × Int) (hF : F_ref03_Matters n s = some y) : HC Try.prog 31 [.agg [.int .i64 s.Width, .int .i64 s.Length, s_v2, s_v3, s_v4].toArray] H (fun H' v => ∃ ra_v0 : Value, v = .tuple [ra_v0, .int .i64 y.2].toArray ∧ SL H' 1 RInt ra_v0 y.1) := by
 rw [F_ref03_Matters] at hF
 refine HC.of (N := 55) Try.func31 rfl rfl rfl fun w => ?_
 refine JC.seq (JC.region (by rfl) ?_)
 intro hQ
 refine JL.box (cs := [.int .i64 s.Width, .int .i64 s.Length, s_v2, s_v3, s_v4]) rfl .none rfl ?_
 intro b1
 refine JL.assign .none rfl ?_
 refine JL.assign .none rfl ?_
 refine JL.done hQ (JQ.go (JC.seq (JC.seq (JC.region (by rfl) ?_))))
 intro hQ
 refine JL.loadOwn 0 az_25 rfl rfl rfl .none rfl ?_
 obtain ⟨y2, hy2, hF⟩ := bind_some hF
 refine JL.callS (c_ref03_Check n H s s_v2 hs_2 s_v3 hs_3 s_v4 hs_4 y2 hy2) rfl en_34 .none rfl ?_
 refine JL.assign .none rfl ?_
 refine JL.done hQ (JQ.go (JC.seq (JC.region (by rfl) ?_)))
 intro hQ
 refine JL.move .none rfl ?_
 refine JL.bin rfl rfl rfl .none rfl ?_
 refine JL.done hQ (JQ.go ?_)
 rcases ite_some hF with ⟨hc3, hF⟩ | ⟨hc3, hF⟩
 ·refine JC.cond_t (b := (y2 != 0)) rfl hc3 ?_
  refine JC.seq (JC.region (by rfl) ?_)
  intro hQ
  refine JL.move .none rfl ?_
  refine JL.assign .none rfl ?_
  refine JL.assign .none rfl ?_
  refine JL.done hQ (JQ.go (JC.ret (JQ.ret_then ?_)))
  obtain rfl := Option.some.inj hF
  exact JQ.outH rfl (.tmp (.tmp .nil)) ⟨(.slice none 0 0), rfl, SL.nil⟩
 ·refine JC.cond_f (b := (y2 != 0)) rfl hc3 ?_
  refine JC.skip (JQ.go (JC.seq ?_))
  obtain ⟨y5, hy5, hF⟩ := bind_some hF
  obtain ⟨y7, hy7, hF⟩ := bind_some hF
  refine JC.mixed 5 5 #[false, false, false, false, false] [(b1, .cells [.int .i64 s.Width, .int .i64 s.Length, s_v2, s_v3, s_v4].toArray 25)] (by rfl) mo_ (by kernel_rfl) (by kernel_rfl) ?_
  intro hQ hE
  refine JA.take 0 (listed' := #[true, false, false, false, false]) hQ rfl (by kernel_rfl) (by kernel_rfl) (by kernel_rfl) (by kernel_rfl) (by kernel_rfl) hE (HSub.refl _) (.cons_cons _ (List.nil_sublist _)) ?_
  refine JL.loadOwn 0 az_25 rfl rfl rfl .none rfl ?_
  refine JA.cont ?_
  refine JA.take 1 (listed' := #[true, true, false, false, false]) hQ rfl (by kernel_rfl) (by kernel_rfl) (by kernel_rfl) (by kernel_rfl) (by kernel_rfl) hE (HSub.refl _) (.cons_cons _ (List.nil_sublist _)) ?_
  refine JL.loadOwn 0 az_25 rfl rfl rfl .none rfl ?_
  refine JA.cont ?_
  refine JA.many [2] (by kernel_rfl) (by simp) (all_one ⟨_, #[true, true, true, false, false], rfl, (by kernel_rfl), ?_⟩)
  refine JL.callH (c_ref03_all n H s s_v2 hs_2 s_v3 hs_3 s_v4 hs_4 y5 hy5) rfl en_56 .none rfl ?_
  intro H9 y5a_v0 hs9 hy5a_0
  refine JA.after hE hs9 (.cons_cons _ (List.nil_sublist _)) ?_
  refine JA.many [3] (by kernel_rfl) (by simp) (all_one ⟨_, #[true, true, true, true, false], rfl, (by kernel_rfl), ?_⟩)
  refine JL.callS (c_ref03_least n H9 s s_v2 (SL.mono R_Cell_mono hs9 hs_2) s_v3 (SL.mono R_Cell_mono hs9 hs_3) s_v4 (SL.mono R_Panel_mono hs9 hs_4) y5 y5a_v0 hy5a_0 y7 hy7) rfl en_57 .none rfl ?_
  refine JA.after hE hs9 (.cons_cons _ (List.nil_sublist _)) ?_
  refine JA.take 4 (listed' := #[true, true, true, true, true]) hQ rfl (by kernel_rfl) (by kernel_rfl) (by kernel_rfl) (by kernel_rfl) (by kernel_rfl) hE hs9 (.cons_cons _ (List.nil_sublist _)) ?_
  refine JL.assign .none rfl ?_
  refine JA.cont ?_
  refine JA.done hQ (by kernel_rfl) ?_
  refine JQ.go (JC.fresh (fun f => f 1 = .pointer (some ⟨b1, 0, none⟩) ∧ f 2 = .slice none 0 0 ∧ f 3 = .int .i64 0 ∧ f 5 = .int .i64 y7) ⟨rfl, rfl, rfl, rfl⟩ ?_)
  rintro f ⟨hf1, hf2, hf3, hf5⟩
  refine (JC.norm (i := 1) hf1 (JC.norm (i := 2) hf2 (JC.norm (i := 3) hf3 (JC.norm (i := 5) hf5 ?_))))
  refine JC.seq (JC.region (by rfl) ?_)
  intro hQ
  refine JL.assign .none rfl ?_
  refine JL.done hQ (JQ.go (JC.seq (JC.seq (JC.region (by rfl) ?_))))
  intro hQ
  refine JL.assign .none rfl ?_
  refine JL.done hQ (JQ.go (JC.newNil (e := 3) (sz := 1) ?_))
  obtain ⟨r341, hlr341, hKr341⟩ := bind_some hF
  refine JC.join (fun (out_339 : List Int) H340 f bs gs => ∃ (vout_339 : Value) (xsout_339 : List Value), f 6 = vout_339 ∧ bs = [] ∧ gs = [⟨vout_339, 3, 1, out_339.length, xsout_339⟩] ∧ CH H340 1 RInt xsout_339 out_339 ∧ HSub H9 H340 ∧ out_339 = r341) ?_ ?_
  ·skip
   refine JC.block (JC.loop hlr341 (fun (x : Int × List Int) H504 f bs gs => match x with | (i_502, out_503) => ∃ (vout_503 : Value) (xsout_503 : List Value), f 1 = .pointer (some ⟨b1, 0, none⟩) ∧ f 5 = .int .i64 y7 ∧ f 6 = vout_503 ∧ f 7 = .int .i64 i_502 ∧ bs = [(b1, .cells [.int .i64 s.Width, .int .i64 s.Length, s_v2, s_v3, s_v4].toArray 25)] ∧ gs = [⟨vout_503, 3, 1, out_503.length, xsout_503⟩] ∧ CH H504 1 RInt xsout_503 out_503 ∧ HSub H9 H504) ⟨(.slice none 0 0), [], rfl, rfl, rfl, rfl, rfl, rfl, CH.nil, (HSub.refl _)⟩ ?_)
   rintro ⟨i_502, out_503⟩ x506 H504 f bs gs ⟨vout_503, xsout_503, hf1, hf5, hf6, hf7, rfl, rfl, hout_503, hs504⟩ hF hr505
   rw [F_ref03_Matters_s1] at hF
   refine (JC.norm (i := 1) hf1 (JC.norm (i := 5) hf5 (JC.norm (i := 6) hf6 (JC.norm (i := 7) hf7 ?_))))
   refine JC.seq (JC.seq (JC.region (by rfl) ?_))
   intro hQ
   refine JL.move .none rfl ?_
   refine JL.fieldAddr fo_25_3 rfl .none rfl ?_
   refine JL.loadOwn 0 az_22 rfl rfl rfl .none rfl ?_
   refine JL.lenSL (R := R_Cell) ul_22 (SL.mono R_Cell_mono (HSub.trans hs9 hs504) hs_3) .none rfl ?_
   refine JL.bin rfl rfl rfl .none rfl ?_
   refine JL.done hQ (JQ.go ?_)
   rcases ite_some hF with ⟨hc507, hF⟩ | ⟨hc507, hF⟩
   ·refine JC.cond_t (b := decide (i_502 < (s.Flaws.length : Int))) rfl hc507 ?_
    refine JC.skip (JQ.go (JC.seq (JC.block (JC.seq ?_))))
    obtain ⟨y510, hy510, hF⟩ := bind_some hF
    obtain ⟨l513, hl513, hF⟩ := bind_some hF
    obtain ⟨y517, hy517, hF⟩ := bind_some hF
    obtain ⟨l520, hl520, hF⟩ := bind_some hF
    obtain ⟨y526, hy526, hF⟩ := bind_some hF
    refine JC.mixed 15 15 #[false, false, false, false, false, false, false, false, false, false, false, false, false, false, false] [(b1, .cells [.int .i64 s.Width, .int .i64 s.Length, s_v2, s_v3, s_v4].toArray 25)] (by rfl) mo_ (by kernel_rfl) (by kernel_rfl) ?_
    intro hQ hE
    refine JA.take 0 (listed' := #[true, false, false, false, false, false, false, false, false, false, false, false, false, false, false]) hQ rfl (by kernel_rfl) (by kernel_rfl) (by kernel_rfl) (by kernel_rfl) (by kernel_rfl) hE (HSub.refl _) (.cons_cons _ (List.nil_sublist _)) ?_
    refine JL.loadOwn 0 az_25 rfl rfl rfl .none rfl ?_
    refine JA.cont ?_
    refine JA.take 2 (listed' := #[true, false, true, false, false, false, false, false, false, false, false, false, false, false, false]) hQ rfl (by kernel_rfl) (by kernel_rfl) (by kernel_rfl) (by kernel_rfl) (by kernel_rfl) hE (HSub.refl _) (.cons_cons _ (List.nil_sublist _)) ?_
    refine JL.fieldAddr fo_25_3 rfl .none rfl ?_
    refine JA.cont ?_
    refine JA.take 3 (listed' := #[true, false, true, true, false, false, false, false, false, false, false, false, false, false, false]) hQ rfl (by kernel_rfl) (by kernel_rfl) (by kernel_rfl) (by kernel_rfl) (by kernel_rfl) hE (HSub.refl _) (.cons_cons _ (List.nil_sublist _)) ?_
    refine JL.loadOwn 0 az_22 rfl rfl rfl .none rfl ?_
    refine JA.cont ?_
    refine JA.take 4 (listed' := #[true, false, true, true, true, false, false, false, false, false, false, false, false, false, false]) hQ rfl (by kernel_rfl) (by kernel_rfl) (by kernel_rfl) (by kernel_rfl) (by kernel_rfl) hE (HSub.refl _) (.cons_cons _ (List.nil_sublist _)) ?_
    refine JL.move .none rfl ?_
    refine JA.cont ?_
    refine JA.take 5 (listed' := #[true, false, true, true, true, true, false, false, false, false, false, false, false, false, false]) hQ rfl (by kernel_rfl) (by kernel_rfl) (by kernel_rfl) (by kernel_rfl) (by kernel_rfl) hE (HSub.refl _) (.cons_cons _ (List.nil_sublist _)) ?_
    refine JL.sliceHi (R := R_Cell) sl_22 (SL.mono R_Cell_mono (HSub.trans hs9 hs504) hs_3) rfl hy510 .none rfl ?_
    intro v547 hv548
    refine JA.cont ?_
    refine JA.take 7 (listed' := #[true, false, true, true, true, true, false, true, false, false, false, false, false, false, false]) hQ rfl (by kernel_rfl) (by kernel_rfl) (by kernel_rfl) (by kernel_rfl) (by kernel_rfl) hE (HSub.refl _) (.cons_cons _ (List.nil_sublist _)) ?_
    refine JL.fieldAddr fo_25_3 rfl .none rfl ?_
    refine JA.cont ?_
    refine JA.take 8 (listed' := #[true, false, true, true, true, true, false, true, true, false, false, false, false, false, false]) hQ rfl (by kernel_rfl) (by kernel_rfl) (by kernel_rfl) (by kernel_rfl) (by kernel_rfl) hE (HSub.refl _) (.cons_cons _ (List.nil_sublist _)) ?_
    refine JL.loadOwn 0 az_22 rfl rfl rfl .none rfl ?_
    refine JA.cont ?_
    refine JA.take 9 (listed' := #[true, false, true, true, true, true, false, true, true, true, false, false, false, false, false]) hQ rfl (by kernel_rfl) (by kernel_rfl) (by kernel_rfl) (by kernel_rfl) (by kernel_rfl) hE (HSub.refl _) (.cons_cons _ (List.nil_sublist _)) ?_
    refine JL.move .none rfl ?_
    refine JA.cont ?_
    refine JA.take 10 (listed' := #[true, false, true, true, true, true, false, true, true, true, true, false, false, false, false]) hQ rfl (by kernel_rfl) (by kernel_rfl) (by kernel_rfl) (by kernel_rfl) (by kernel_rfl) hE (HSub.refl _) (.cons_cons _ (List.nil_sublist _)) ?_
    refine JL.bin rfl rfl rfl .none rfl ?_
    refine JA.cont ?_
    refine JA.take 11 (listed' := #[true, false, true, true, true, true, false, true, true, true, true, true, false, false, false]) hQ rfl (by kernel_rfl) (by kernel_rfl) (by kernel_rfl) (by kernel_rfl) (by kernel_rfl) hE (HSub.refl _) (.cons_cons _ (List.nil_sublist _)) ?_
    refine JL.sliceLo (R := R_Cell) sl_22 (SL.mono R_Cell_mono (HSub.trans hs9 hs504) hs_3) rfl hy517 .none rfl ?_
    intro v551 hv552
    refine JA.cont ?_
    refine JA.many [1] (by kernel_rfl) (by simp) (all_one ⟨_, #[true, true, true, true, true, true, false, true, true, true, true, true, false, false, false], rfl, (by kernel_rfl), ?_⟩)
    refine JL.emptySlice ap_22 .none rfl ?_
    intro v553
    refine JA.after hE (HSub.refl _) (.cons_cons _ (List.nil_sublist _)) ?_
    refine JA.many [6] (by kernel_rfl) (by simp) (all_one ⟨_, #[true, true, true, true, true, true, true, true, true, true, true, true, false, false, false], rfl, (by kernel_rfl), ?_⟩)
    refine JL.appD (R := R_Cell) 0 (l := ([] : List Cell)) (m := y510) ap_22 rfl ⟨rfl, rfl⟩ rfl CH.nil rfl hv548 (R_Cell_one _) hl513 .none rfl ?_
    intro v555 xs556 hch557
    refine JA.after hE (HSub.refl _) (.cons_cons _ (List.nil_sublist _)) ?_
    refine JA.many [12] (by kernel_rfl) (by simp) (all_one ⟨_, #[true, true, true, true, true, true, true, true, true, true, true, true, true, false, false], rfl, (by kernel_rfl), ?_⟩)
    refine JL.appD (R := R_Cell) 0 (l := l513) (m := y517) ap_22 rfl ⟨rfl, rfl⟩ rfl hch557 rfl hv552 (R_Cell_one _) hl520 .none rfl ?_
    intro v558 xs559 hch560
    refine JA.after hE (HSub.refl _) (.cons_cons _ (List.nil_sublist _)) ?_
    refine JA.many [13] (by kernel_rfl) (by simp) (all_one ⟨_, #[true, true, true, true, true, true, true, true, true, true, true, true, true, true, false], rfl, (by kernel_rfl), ?_⟩)
    refine JL.freezeG 0 (R := R_Cell) rfl R_Cell_mono hch560 rfl ?_
    intro H561 hs561 hg562
    refine JL.callS (c_ref03_LeastOf n H561 s s_v2 (SL.mono R_Cell_mono (HSub.trans hs9 (HSub.trans hs504 hs561)) hs_2) s_v3 (SL.mono R_Cell_mono (HSub.trans hs9 (HSub.trans hs504 hs561)) hs_3) s_v4 (SL.mono R_Panel_mono (HSub.trans hs9 (HSub.trans hs504 hs561)) hs_4) l520 v558 hg562 y526 hy526) rfl en_58 .none rfl ?_
    refine JA.after hE hs561 (.cons_cons _ (List.nil_sublist _)) ?_
    refine JA.take 14 (listed' := #[true, true, true, true, true, true, true, true, true, true, true, true, true, true, true]) hQ rfl (by kernel_rfl) (by kernel_rfl) (by kernel_rfl) (by kernel_rfl) (by kernel_rfl) hE hs561 (.cons_cons _ (List.nil_sublist _)) ?_
    refine JL.assign .none rfl ?_
    refine JA.cont ?_
    refine JA.done hQ (by kernel_rfl) ?_
    refine JQ.go (JC.fresh (fun f => f 1 = .pointer (some ⟨b1, 0, none⟩) ∧ f 5 = .int .i64 y7 ∧ f 6 = vout_503 ∧ f 7 = .int .i64 i_502 ∧ f 8 = .int .i64 y526) ⟨rfl, rfl, rfl, rfl, rfl⟩ ?_)
    rintro f ⟨hf1, hf5, hf6, hf7, hf8⟩
    refine (JC.norm (i := 1) hf1 (JC.norm (i := 5) hf5 (JC.norm (i := 6) hf6 (JC.norm (i := 7) hf7 (JC.norm (i := 8) hf8 ?_)))))
    refine JC.seq (JC.region (by rfl) ?_)
    intro hQ
    refine JL.move .none rfl ?_
    refine JL.bin rfl rfl rfl .none rfl ?_
    refine JL.move .none rfl ?_
    refine JL.cut 8 (fun f => f 1 = .pointer (some ⟨b1, 0, none⟩) ∧ f 5 = .int .i64 y7 ∧ f 6 = vout_503 ∧ f 7 = .int .i64 i_502 ∧ f 49 = .bool ((decide (0 ≤ y526)) && ((decide (y7 < 0)) || (decide (y526 < y7))))) ?_ ?_
    ·intro hJ565
     rcases bcases (decide (0 ≤ y526)) with hc566 | hc566
     ·skip
      refine JL.move (.some rfl rfl rfl hc566) rfl ?_
      refine JL.bin rfl rfl rfl (.some rfl rfl rfl hc566) rfl ?_
      refine JL.move (.some rfl rfl rfl hc566) rfl ?_
      refine JL.cut 4 (fun f => f 1 = .pointer (some ⟨b1, 0, none⟩) ∧ f 5 = .int .i64 y7 ∧ f 6 = vout_503 ∧ f 7 = .int .i64 i_502 ∧ f 41 = .bool (decide (0 ≤ y526)) ∧ f 42 = .int .i64 y7 ∧ f 43 = .bool (decide (y7 < 0)) ∧ f 44 = .bool (decide (y7 < 0)) ∧ f 48 = .bool ((decide (y7 < 0)) || (decide (y526 < y7)))) ?_ ?_
      ·intro hJ567
       rcases bcases (decide (y7 < 0)) with hc568 | hc568
       ·skip
        refine JL.skip (.bool rfl rfl rfl hc568) rfl ?_
        refine JL.skip (.bool rfl rfl rfl hc568) rfl ?_
        refine JL.skip (.bool rfl rfl rfl hc568) rfl ?_
        refine JL.pick_t (b := decide (y7 < 0)) rfl hc568 (.some rfl rfl rfl hc566) rfl ?_
        exact hJ567 _ ⟨rfl, rfl, rfl, rfl, rfl, rfl, rfl, rfl, or_t hc568 rfl⟩
       ·skip
        refine JL.move (.some rfl rfl rfl hc568) rfl ?_
        refine JL.move (.some rfl rfl rfl hc568) rfl ?_
        refine JL.bin rfl rfl rfl (.some rfl rfl rfl hc568) rfl ?_
        refine JL.pick_f (b := decide (y7 < 0)) rfl hc568 (.some rfl rfl rfl hc566) rfl ?_
        exact hJ567 _ ⟨rfl, rfl, rfl, rfl, rfl, rfl, rfl, rfl, or_f hc568 rfl⟩
      ·rintro f ⟨hf1, hf5, hf6, hf7, hf41, hf42, hf43, hf44, hf48⟩
       refine (JL.norm (i := 1) hf1 (JL.norm (i := 5) hf5 (JL.norm (i := 6) hf6 (JL.norm (i := 7) hf7 (JL.norm (i := 41) hf41 (JL.norm (i := 42) hf42 (JL.norm (i := 43) hf43 (JL.norm (i := 44) hf44 (JL.norm (i := 48) hf48 ?_)))))))))
       refine JL.pick_t (b := decide (0 ≤ y526)) rfl hc566 .none rfl ?_
       exact hJ565 _ ⟨rfl, rfl, rfl, rfl, and_t hc566 rfl⟩
     ·skip
      refine JL.skip (.bool rfl rfl rfl hc566) rfl ?_
      refine JL.skip (.bool rfl rfl rfl hc566) rfl ?_
      refine JL.skip (.bool rfl rfl rfl hc566) rfl ?_
      refine JL.skip (.no rfl rfl rfl) rfl ?_
      refine JL.skip (.no rfl rfl rfl) rfl ?_
      refine JL.skip (.no rfl rfl rfl) rfl ?_
      refine JL.skip (.bool rfl rfl rfl hc566) rfl ?_
      refine JL.pick_f (b := decide (0 ≤ y526)) rfl hc566 .none rfl ?_
      exact hJ565 _ ⟨rfl, rfl, rfl, rfl, and_f hc566 rfl⟩
    ·rintro f ⟨hf1, hf5, hf6, hf7, hf49⟩
     refine (JL.norm (i := 1) hf1 (JL.norm (i := 5) hf5 (JL.norm (i := 6) hf6 (JL.norm (i := 7) hf7 (JL.norm (i := 49) hf49 ?_)))))
     refine JL.done hQ (JQ.go ?_)
     obtain ⟨r577, hlr577, hKr577⟩ := bind_some hF
     refine JC.join (fun (out_575 : List Int) H576 f bs gs => ∃ (vout_575 : Value) (xsout_575 : List Value), f 1 = .pointer (some ⟨b1, 0, none⟩) ∧ f 5 = .int .i64 y7 ∧ f 6 = vout_575 ∧ f 7 = .int .i64 i_502 ∧ bs = [(b1, .cells [.int .i64 s.Width, .int .i64 s.Length, s_v2, s_v3, s_v4].toArray 25)] ∧ gs = [⟨vout_575, 3, 1, out_575.length, xsout_575⟩] ∧ CH H576 1 RInt xsout_575 out_575 ∧ HSub H561 H576 ∧ out_575 = r577) ?_ ?_
     ·have hF := hlr577
      rcases ite_some hF with ⟨hc578, hF⟩ | ⟨hc578, hF⟩
      ·refine JC.cond_t (b := ((decide (0 ≤ y526)) && ((decide (y7 < 0)) || (decide (y526 < y7))))) rfl hc578 ?_
       refine JC.region (by rfl) ?_
       intro hQ
       refine JL.move .none rfl ?_
       refine JL.move .none rfl ?_
       refine JL.buildSlice (e := 3) (l := [.int .i64 i_502]) (by kernel_rfl) .none rfl ?_
       intro b579
       obtain ⟨l580, hl580, hF⟩ := bind_some hF
       refine JL.appO (R := RInt) 0 0 (l := out_503) (m := [i_502]) ap_48 rfl ⟨rfl, rfl⟩ rfl (CH.mono RInt.mono hs561 hout_503) rfl rfl rfl (CH.cons (cs := [.int .i64 i_502]) rfl rfl CH.nil) rfl (one_cons rfl one_nil) hl580 .none rfl ?_
       intro v581 xs582 hch583
       refine JL.assign .none rfl ?_
       refine JL.done hQ ?_
       obtain rfl := Option.some.inj hF
       refine JQ.mask [false, true] [true] ?_
       exact JQ.join l580 ⟨v581, xs582, rfl, rfl, rfl, rfl, rfl, rfl, hch583, (HSub.refl _), rfl⟩
      ·refine JC.cond_f (b := ((decide (0 ≤ y526)) && ((decide (y7 < 0)) || (decide (y526 < y7))))) rfl hc578 ?_
       refine JC.skip ?_
       obtain rfl := Option.some.inj hF
       exact JQ.join out_503 ⟨vout_503, xsout_503, rfl, rfl, rfl, rfl, rfl, rfl, (CH.mono RInt.mono hs561 hout_503), (HSub.refl _), rfl⟩
     ·rintro out_575 H576 f bs gs ⟨vout_575, xsout_575, hf1, hf5, hf6, hf7, rfl, rfl, hout_575, hs576, rfl⟩
      have hF := hKr577
      try dsimp only at hF
      refine (JQ.norm (i := 1) hf1 (JQ.norm (i := 5) hf5 (JQ.norm (i := 6) hf6 (JQ.norm (i := 7) hf7 ?_))))
      refine JQ.normal_block (JQ.go (JC.region (by rfl) ?_))
      intro hQ
      refine JL.move .none rfl ?_
      refine JL.bin rfl rfl rfl .none rfl ?_
      refine JL.assign .none rfl ?_
      refine JL.done hQ ?_
      obtain rfl := Option.some.inj hF
      exact JQ.next rfl ⟨vout_575, xsout_575, rfl, rfl, rfl, rfl, rfl, rfl, hout_575, (HSub.trans hs504 (HSub.trans hs561 hs576))⟩
   ·refine JC.cond_f (b := decide (i_502 < (s.Flaws.length : Int))) rfl hc507 ?_
    refine JC.exit (JQ.exit_then (JQ.exit_then (JQ.exit_block ?_)))
    obtain rfl := Option.some.inj hF
    have ehr505 := hr505 _ rfl
    subst ehr505
    refine JQ.mask [false] [true] ?_
    exact JQ.join out_503 ⟨vout_503, xsout_503, rfl, rfl, rfl, hout_503, hs504, rfl⟩
  ·rintro out_339 H340 f bs gs ⟨vout_339, xsout_339, hf6, rfl, rfl, hout_339, hs340, rfl⟩
   have hF := hKr341
   try dsimp only at hF
   refine (JQ.norm (i := 6) hf6 ?_)
   refine JQ.go (JC.seq (JC.region (by rfl) ?_))
   intro hQ
   refine JL.move .none rfl ?_
   refine JL.assign .none rfl ?_
   refine JL.assign .none rfl ?_
   refine JL.done hQ (JQ.go (JC.ret (JQ.freezeG 0 (R := RInt) rfl RInt.mono hout_339 rfl ?_)))
   intro H584 hs584 hg585
   obtain rfl := Option.some.inj hF
   exact JQ.outH rfl (.tmp (.tmp .nil)) ⟨vout_339, rfl, hg585⟩
end Go.Proofs.Ytflhjlgimihmgaa
end
