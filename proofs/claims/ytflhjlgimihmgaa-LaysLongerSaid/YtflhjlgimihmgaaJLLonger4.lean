/-
  A part of the proof of LLonger: the texts GenK3, GenK4.
-/
import Derived.Test.YtflhjlgimihmgaaJLLonger3
section
set_option maxRecDepth 100000
set_option maxHeartbeats 40000000
namespace Go.Proofs.Ytflhjlgimihmgaa
open Go Go.RowKit Go.Dec
set_option linter.unusedVariables false
-- 68 (*ferrule/lays.cloth).put
/-- what a callee leaves that works on its caller's cloth -/
abbrev KC (H : Hp) (b : Nat) (A : List Value) (bT : List (Nat × Obj)) (gT : List GS) (q0 : GS) (y : Bool × List Int × List Place) : Kw := fun v H' bs' gs' => v = .bool y.1 ∧ HSub H H' ∧ ∃ (lv : Value) (lx : List Value) (gx : List GS), bs' = (b, .cells (A ++ (av .u16 y.2.1 ++ [lv])).toArray 106) :: bT ∧ gs' = ⟨lv, 62, 3, y.2.2.length, lx⟩ :: (gx ++ gT) ∧ CH H' 3 R_Place lx y.2.2 ∧ y.2.1.length = 12 ∧ Back q0 ⟨lv, 62, 3, y.2.2.length, lx⟩ gx
def F_lays_cloth_put_s1 (n : Nat) (c : Lap) (c_r : Int) (c_t : List Int) (c_l : List Place) (p : Place) (y14 : (List Span)) : Int × List Int → Option ((Int × List Int) ⊕ ((Bool × List Int × List Place) ⊕ (List Int)))
 | (x_144, z_145) => if decide (x_144 < (y14.length : Int)) = true then ((geti y14 x_144).bind fun y150 => if ((decide (c_r ≤ (w64 (p.Row + x_144)))) || (decide (c.Width ≤ (w64 (p.Col + y150.High))))) = true then (some (Sum.inr (Sum.inl (false, c_t, c_l)))) else ((nneg (w64 ((w64 (p.Col + y150.High)) + 1))).bind fun _ => (nneg (w64 (p.Col + y150.Low))).bind fun _ => (geti z_145 (w64 (p.Row + x_144))).bind fun y163 => if ((band .u16 y163 (IntKind.u16.wrap ((bshl .u16 1 (w64 ((w64 (p.Col + y150.High)) + 1))) - (bshl .u16 1 (w64 (p.Col + y150.Low)))))) != 0) = true then (some (Sum.inr (Sum.inl (false, c_t, c_l)))) else ((geti z_145 (w64 (p.Row + x_144))).bind fun y165 => (geti z_145 (w64 (p.Row + x_144))).bind fun y166 => some (Sum.inl ((w64 (x_144 + 1)), (setx z_145 (w64 (p.Row + x_144)) (bor .u16 y165 (IntKind.u16.wrap ((bshl .u16 1 (w64 ((w64 (p.Col + y150.High)) + 1))) - (bshl .u16 1 (w64 (p.Col + y150.Low)))))))))))) else (some (Sum.inr (Sum.inr z_145)))
def F_lays_cloth_put (n : Nat) (c : Lap) (c_r : Int) (c_t : List Int) (c_l : List Place) (panel : Int) (p : Place) : Option (Bool × List Int × List Place) :=
 (geti c.Panels panel).bind fun y9 => (F_lays_rows n y9 p.Turned).bind fun y14 => (loopO n (F_lays_cloth_put_s1 n c c_r c_t c_l p y14) (0, c_t)).bind fun r101 => match r101 with | .inl o => some o | .inr z_99 => (lim (c_l ++ [p])).bind fun l168 => some (true, z_99, l168)
theorem c_lays_cloth_put (n : Nat) (H : Hp) (c : Lap) (c_v2 : Value) (hc_2 : SL H 2 R_Cell c_v2 c.Faults) (c_v3 : Value) (hc_3 : SL H 2 R_Cell c_v3 c.Flaws) (c_v4 : Value) (hc_4 : SL H 1 R_Panel c_v4 c.Panels) (c_r : Int) (c_t : List Int) (c_tl : c_t.length = 12) (c_l : List Place) (c_v : Value) (c_x : List Value) (c_h : CH H 3 R_Place c_x c_l) (c_b : Nat) (bT : List (Nat × Obj)) (gT : List GS) (panel : Int) (p : Place) (y : Bool × List Int × List Place) (hF : F_lays_cloth_put n c c_r c_t c_l panel p = some y) (B : Bs) (w : World) (hs : St B H ((c_b, .cells (([.int .i64 c.Width, .int .i64 c.Length, c_v2, c_v3, c_v4, .int .i64 c_r] : List Value) ++ (av .u16 c_t ++ [c_v])).toArray 106) :: bT) (⟨c_v, 62, 3, c_l.length, c_x⟩ :: gT) w) : Calls Try.prog 68 [.pointer (some ⟨c_b, 0, none⟩), .int .i64 panel, .agg [.int .i64 p.Row, .int .i64 p.Col, .int .i64 p.Turned].toArray].toArray w (RetW B (KC H c_b [.int .i64 c.Width, .int .i64 c.Length, c_v2, c_v3, c_v4, .int .i64 c_r] bT gT ⟨c_v, 62, 3, c_l.length, c_x⟩ y)) := by
 rw [F_lays_cloth_put] at hF
 refine calls_of (N := 95) Try.func68 rfl rfl rfl hs ?_
 clear hs
 refine JC.seq (JC.region (by rfl) ?_)
 intro hQ
 refine JL.box (cs := [.int .i64 p.Row, .int .i64 p.Col, .int .i64 p.Turned]) rfl .none rfl ?_
 intro b1
 refine JL.assign .none rfl ?_
 refine JL.done hQ (JQ.go (JC.seq (JC.region (by rfl) ?_)))
 intro hQ
 refine JL.move .none rfl ?_
 refine JL.nilCheck rfl .none rfl ?_
 refine JL.fieldAddr fo_106_2 rfl .none rfl ?_
 refine JL.loadOwn 1 az_85 rfl rfl (loadw_ama c_tl) .none rfl ?_
 refine JL.alloc ze_85 .none rfl ?_
 intro b2
 refine JL.storeArr (l := [0, 0, 0, 0, 0, 0, 0, 0, 0, 0, 0, 0]) (l' := c_t) 0 az_85 rfl rfl rfl rfl c_tl .none ?_
 refine JL.done hQ (JQ.go (JC.seq (JC.seq ?_)))
 obtain ⟨y9, hy9, hF⟩ := bind_some hF
 obtain ⟨y14, hy14, hF⟩ := bind_some hF
 refine JC.mixed 13 13 #[false, false, false, false, false, false, false, false, false, false, false, false, false] [(b2, .cells (av .u16 c_t).toArray 85), (b1, .cells [.int .i64 p.Row, .int .i64 p.Col, .int .i64 p.Turned].toArray 62), (c_b, .cells (([.int .i64 c.Width, .int .i64 c.Length, c_v2, c_v3, c_v4, .int .i64 c_r] : List Value) ++ (av .u16 c_t ++ [c_v])).toArray 106)] (by rfl) mo_ (by kernel_rfl) (by kernel_rfl) ?_
 intro hQ hE
 refine JA.take 0 (listed' := #[true, false, false, false, false, false, false, false, false, false, false, false, false]) hQ rfl (by kernel_rfl) (by kernel_rfl) (by kernel_rfl) (by kernel_rfl) (by kernel_rfl) hE (HSub.refl _) (.cons_cons _ (.cons_cons _ (.cons_cons _ (List.nil_sublist _)))) ?_
 refine JL.move .none rfl ?_
 refine JA.cont ?_
 refine JA.take 1 (listed' := #[true, true, false, false, false, false, false, false, false, false, false, false, false]) hQ rfl (by kernel_rfl) (by kernel_rfl) (by kernel_rfl) (by kernel_rfl) (by kernel_rfl) hE (HSub.refl _) (.cons_cons _ (.cons_cons _ (.cons_cons _ (List.nil_sublist _)))) ?_
 refine JL.nilCheck rfl .none rfl ?_
 refine JA.cont ?_
 refine JA.take 2 (listed' := #[true, true, true, false, false, false, false, false, false, false, false, false, false]) hQ rfl (by kernel_rfl) (by kernel_rfl) (by kernel_rfl) (by kernel_rfl) (by kernel_rfl) hE (HSub.refl _) (.cons_cons _ (.cons_cons _ (.cons_cons _ (List.nil_sublist _)))) ?_
 refine JL.fieldAddr fo_106_0 rfl .none rfl ?_
 refine JA.cont ?_
 refine JA.take 3 (listed' := #[true, true, true, true, false, false, false, false, false, false, false, false, false]) hQ rfl (by kernel_rfl) (by kernel_rfl) (by kernel_rfl) (by kernel_rfl) (by kernel_rfl) hE (HSub.refl _) (.cons_cons _ (.cons_cons _ (.cons_cons _ (List.nil_sublist _)))) ?_
 refine JL.fieldAddr fo_25_4 rfl .none rfl ?_
 refine JA.cont ?_
 refine JA.take 4 (listed' := #[true, true, true, true, true, false, false, false, false, false, false, false, false]) hQ rfl (by kernel_rfl) (by kernel_rfl) (by kernel_rfl) (by kernel_rfl) (by kernel_rfl) hE (HSub.refl _) (.cons_cons _ (.cons_cons _ (.cons_cons _ (List.nil_sublist _)))) ?_
 refine JL.loadOwn 2 az_23 rfl rfl rfl .none rfl ?_
 refine JA.cont ?_
 refine JA.take 5 (listed' := #[true, true, true, true, true, true, false, false, false, false, false, false, false]) hQ rfl (by kernel_rfl) (by kernel_rfl) (by kernel_rfl) (by kernel_rfl) (by kernel_rfl) hE (HSub.refl _) (.cons_cons _ (.cons_cons _ (.cons_cons _ (List.nil_sublist _)))) ?_
 refine JL.move .none rfl ?_
 refine JA.cont ?_
 refine JA.take 6 (listed' := #[true, true, true, true, true, true, true, false, false, false, false, false, false]) hQ rfl (by kernel_rfl) (by kernel_rfl) (by kernel_rfl) (by kernel_rfl) (by kernel_rfl) hE (HSub.refl _) (.cons_cons _ (.cons_cons _ (.cons_cons _ (List.nil_sublist _)))) ?_
 refine JL.indexSL (R := R_Panel) sl_23 hc_4 rfl hy9 .none rfl ?_
 rintro b29 o30 cs31 hc32 - ⟨y9_v0, rfl, hy9_0⟩
 refine JA.cont ?_
 refine JA.take 7 (listed' := #[true, true, true, true, true, true, true, true, false, false, false, false, false]) hQ rfl (by kernel_rfl) (by kernel_rfl) (by kernel_rfl) (by kernel_rfl) (by kernel_rfl) hE (HSub.refl _) (.cons_cons _ (.cons_cons _ (.cons_cons _ (List.nil_sublist _)))) ?_
 refine JL.loadH 0 az_30 rfl hc32 rfl .none rfl ?_
 refine JA.cont ?_
 refine JA.take 8 (listed' := #[true, true, true, true, true, true, true, true, true, false, false, false, false]) hQ rfl (by kernel_rfl) (by kernel_rfl) (by kernel_rfl) (by kernel_rfl) (by kernel_rfl) hE (HSub.refl _) (.cons_cons _ (.cons_cons _ (.cons_cons _ (List.nil_sublist _)))) ?_
 refine JL.fieldAddr fo_62_2 rfl .none rfl ?_
 refine JA.cont ?_
 refine JA.take 9 (listed' := #[true, true, true, true, true, true, true, true, true, true, false, false, false]) hQ rfl (by kernel_rfl) (by kernel_rfl) (by kernel_rfl) (by kernel_rfl) (by kernel_rfl) hE (HSub.refl _) (.cons_cons _ (.cons_cons _ (.cons_cons _ (List.nil_sublist _)))) ?_
 refine JL.loadOwn 1 az_3 rfl rfl rfl .none rfl ?_
 refine JA.cont ?_
 refine JA.take 12 (listed' := #[true, true, true, true, true, true, true, true, true, true, false, false, true]) hQ rfl (by kernel_rfl) (by kernel_rfl) (by kernel_rfl) (by kernel_rfl) (by kernel_rfl) hE (HSub.refl _) (.cons_cons _ (.cons_cons _ (.cons_cons _ (List.nil_sublist _)))) ?_
 refine JL.move .none rfl ?_
 refine JA.cont ?_
 refine JA.many [10] (by kernel_rfl) (by simp) (all_one ⟨_, #[true, true, true, true, true, true, true, true, true, true, true, false, true], rfl, (by kernel_rfl), ?_⟩)
 refine JL.callH (c_lays_rows n H y9 y9_v0 hy9_0 p.Turned y14 hy14) rfl en_71 .none rfl ?_
 intro H33 y14a_v0 hs33 hy14a_0
 refine JA.after hE hs33 (.cons_cons _ (.cons_cons _ (.cons_cons _ (List.nil_sublist _)))) ?_
 refine JA.many [11] (by kernel_rfl) (by simp) (all_one ⟨_, #[true, true, true, true, true, true, true, true, true, true, true, true, true], rfl, (by kernel_rfl), ?_⟩)
 refine JL.lenSL (R := R_Span) ul_28 hy14a_0 .none rfl ?_
 refine JA.after hE hs33 (.cons_cons _ (.cons_cons _ (.cons_cons _ (List.nil_sublist _)))) ?_
 refine JA.done hQ (by kernel_rfl) ?_
 refine JQ.go (JC.fresh (fun f => f 0 = .pointer (some ⟨c_b, 0, none⟩) ∧ f 5 = .pointer (some ⟨b1, 0, none⟩) ∧ f 6 = .bool false ∧ f 7 = .pointer (some ⟨b2, 0, none⟩) ∧ f 27 = y14a_v0 ∧ f 28 = .int .i64 (y14.length : Int) ∧ f 29 = .int .i64 0) ⟨rfl, rfl, rfl, rfl, rfl, rfl, rfl⟩ ?_)
 rintro f ⟨hf0, hf5, hf6, hf7, hf27, hf28, hf29⟩
 refine (JC.norm (i := 0) hf0 (JC.norm (i := 5) hf5 (JC.norm (i := 6) hf6 (JC.norm (i := 7) hf7 (JC.norm (i := 27) hf27 (JC.norm (i := 28) hf28 (JC.norm (i := 29) hf29 ?_)))))))
 obtain ⟨r101, hlr101, hKr101⟩ := bind_some hF
 refine JC.join (fun (z_99 : List Int) H100 f bs gs => f 0 = .pointer (some ⟨c_b, 0, none⟩) ∧ f 5 = .pointer (some ⟨b1, 0, none⟩) ∧ f 7 = .pointer (some ⟨b2, 0, none⟩) ∧ bs = ((b2, .cells (av .u16 z_99).toArray 85) :: (b1, .cells [.int .i64 p.Row, .int .i64 p.Col, .int .i64 p.Turned].toArray 62) :: (c_b, .cells (([.int .i64 c.Width, .int .i64 c.Length, c_v2, c_v3, c_v4, .int .i64 c_r] : List Value) ++ (av .u16 c_t ++ [c_v])).toArray 106) :: bT) ∧ gs = (⟨c_v, 62, 3, c_l.length, c_x⟩ :: gT) ∧ z_99.length = 12 ∧ HSub H33 H100 ∧ Sum.inr z_99 = r101) ?_ ?_
 ·skip
  refine JC.block (JC.loop hlr101 (fun (x : Int × List Int) H146 f bs gs => match x with | (x_144, z_145) => f 0 = .pointer (some ⟨c_b, 0, none⟩) ∧ f 5 = .pointer (some ⟨b1, 0, none⟩) ∧ f 7 = .pointer (some ⟨b2, 0, none⟩) ∧ f 27 = y14a_v0 ∧ f 28 = .int .i64 (y14.length : Int) ∧ f 29 = .int .i64 x_144 ∧ bs = ((b2, .cells (av .u16 z_145).toArray 85) :: (b1, .cells [.int .i64 p.Row, .int .i64 p.Col, .int .i64 p.Turned].toArray 62) :: (c_b, .cells (([.int .i64 c.Width, .int .i64 c.Length, c_v2, c_v3, c_v4, .int .i64 c_r] : List Value) ++ (av .u16 c_t ++ [c_v])).toArray 106) :: bT) ∧ gs = (⟨c_v, 62, 3, c_l.length, c_x⟩ :: gT) ∧ z_145.length = 12 ∧ HSub H33 H146) ⟨rfl, rfl, rfl, rfl, rfl, rfl, rfl, rfl, c_tl, (HSub.refl _)⟩ ?_)
  rintro ⟨x_144, z_145⟩ x148 H146 f bs gs ⟨hf0, hf5, hf7, hf27, hf28, hf29, rfl, rfl, hz_145, hs146⟩ hF hr147
  rw [F_lays_cloth_put_s1] at hF
  refine (JC.norm (i := 0) hf0 (JC.norm (i := 5) hf5 (JC.norm (i := 7) hf7 (JC.norm (i := 27) hf27 (JC.norm (i := 28) hf28 (JC.norm (i := 29) hf29 ?_))))))
  refine JC.seq (JC.region (by rfl) ?_)
  intro hQ
  refine JL.bin rfl rfl rfl .none rfl ?_
  refine JL.done hQ (JQ.go (JC.seq ?_))
  rcases ite_some hF with ⟨hc149, hF⟩ | ⟨hc149, hF⟩
  ·refine JC.cond_t (b := decide (x_144 < (y14.length : Int))) rfl hc149 ?_
   refine JC.skip (JQ.go (JC.seq (JC.block (JC.seq (JC.region (by rfl) ?_)))))
   intro hQ
   refine JL.move .none rfl ?_
   obtain ⟨y150, hy150, hF⟩ := bind_some hF
   refine JL.indexSL (R := R_Span) sl_28 (SL.mono R_Span_mono hs146 hy14a_0) rfl hy150 .none rfl ?_
   rintro b151 o152 cs153 hc154 - rfl
   refine JL.loadH 0 az_46 rfl hc154 rfl .none rfl ?_
   refine JL.alloc ze_46 .none rfl ?_
   intro b155
   refine JL.assign .none rfl ?_
   refine JL.storeOwn 0 (cs := [.int .i64 y150.Low, .int .i64 y150.High]) az_46 rfl rfl rfl (one_cons rfl (one_cons rfl one_nil)) rfl rfl .none ?_
   refine JL.done hQ (JQ.go (JC.seq (JC.draw (by rfl) mo_ (by kernel_rfl) ?_)))
   intro hQ
   refine JL.fieldAddr fo_62_0 rfl .none rfl ?_
   refine JL.loadOwn 2 az_3 rfl rfl rfl .none rfl ?_
   refine JL.move .none rfl ?_
   refine JL.bin rfl rfl rfl .none rfl ?_
   refine JL.fieldAddr fo_62_1 rfl .none rfl ?_
   refine JL.loadOwn 2 az_3 rfl rfl rfl .none rfl ?_
   refine JL.fieldAddr fo_46_1 rfl .none rfl ?_
   refine JL.loadOwn 0 az_3 rfl rfl rfl .none rfl ?_
   refine JL.bin rfl rfl rfl .none rfl ?_
   refine JL.assign .none rfl ?_
   refine JL.assign .none rfl ?_
   refine JL.doneQ hQ ?_
   refine JQ.go (JC.fresh (fun f => f 0 = .pointer (some ⟨c_b, 0, none⟩) ∧ f 5 = .pointer (some ⟨b1, 0, none⟩) ∧ f 7 = .pointer (some ⟨b2, 0, none⟩) ∧ f 9 = .pointer (some ⟨b155, 0, none⟩) ∧ f 10 = .int .i64 (w64 (p.Row + x_144)) ∧ f 11 = .int .i64 (w64 (p.Col + y150.High)) ∧ f 27 = y14a_v0 ∧ f 28 = .int .i64 (y14.length : Int) ∧ f 29 = .int .i64 x_144) ⟨rfl, rfl, rfl, rfl, rfl, rfl, rfl, rfl, rfl⟩ ?_)
   rintro f ⟨hf0, hf5, hf7, hf9, hf10, hf11, hf27, hf28, hf29⟩
   refine (JC.norm (i := 0) hf0 (JC.norm (i := 5) hf5 (JC.norm (i := 7) hf7 (JC.norm (i := 9) hf9 (JC.norm (i := 10) hf10 (JC.norm (i := 11) hf11 (JC.norm (i := 27) hf27 (JC.norm (i := 28) hf28 (JC.norm (i := 29) hf29 ?_)))))))))
   refine JC.seq (JC.seq (JC.region (by rfl) ?_))
   intro hQ
   refine JL.move .none rfl ?_
   refine JL.move .none rfl ?_
   refine JL.nilCheck rfl .none rfl ?_
   refine JL.fieldAddr fo_106_1 rfl .none rfl ?_
   refine JL.loadOwn 3 az_3 rfl rfl rfl .none rfl ?_
   refine JL.bin rfl rfl rfl .none rfl ?_
   refine JL.move .none rfl ?_
   refine JL.cut 8 (fun f => f 0 = .pointer (some ⟨c_b, 0, none⟩) ∧ f 5 = .pointer (some ⟨b1, 0, none⟩) ∧ f 7 = .pointer (some ⟨b2, 0, none⟩) ∧ f 9 = .pointer (some ⟨b155, 0, none⟩) ∧ f 10 = .int .i64 (w64 (p.Row + x_144)) ∧ f 11 = .int .i64 (w64 (p.Col + y150.High)) ∧ f 27 = y14a_v0 ∧ f 28 = .int .i64 (y14.length : Int) ∧ f 29 = .int .i64 x_144 ∧ f 57 = .bool ((decide (c_r ≤ (w64 (p.Row + x_144)))) || (decide (c.Width ≤ (w64 (p.Col + y150.High)))))) ?_ ?_
   ·intro hJ156
    rcases bcases (decide (c_r ≤ (w64 (p.Row + x_144)))) with hc157 | hc157
    ·skip
     refine JL.skip (.bool rfl rfl rfl hc157) rfl ?_
     refine JL.skip (.bool rfl rfl rfl hc157) rfl ?_
     refine JL.skip (.bool rfl rfl rfl hc157) rfl ?_
     refine JL.skip (.bool rfl rfl rfl hc157) rfl ?_
     refine JL.skip (.bool rfl rfl rfl hc157) rfl ?_
     refine JL.skip (.bool rfl rfl rfl hc157) rfl ?_
     refine JL.skip (.bool rfl rfl rfl hc157) rfl ?_
     refine JL.pick_t (b := decide (c_r ≤ (w64 (p.Row + x_144)))) rfl hc157 .none rfl ?_
     exact hJ156 _ ⟨rfl, rfl, rfl, rfl, rfl, rfl, rfl, rfl, rfl, or_t hc157 rfl⟩
    ·skip
     refine JL.move (.some rfl rfl rfl hc157) rfl ?_
     refine JL.move (.some rfl rfl rfl hc157) rfl ?_
     refine JL.nilCheck rfl (.some rfl rfl rfl hc157) rfl ?_
     refine JL.fieldAddr fo_106_0 rfl (.some rfl rfl rfl hc157) rfl ?_
     refine JL.fieldAddr fo_25_0 rfl (.some rfl rfl rfl hc157) rfl ?_
     refine JL.loadOwn 3 az_3 rfl rfl rfl (.some rfl rfl rfl hc157) rfl ?_
     refine JL.bin rfl rfl rfl (.some rfl rfl rfl hc157) rfl ?_
     refine JL.pick_f (b := decide (c_r ≤ (w64 (p.Row + x_144)))) rfl hc157 .none rfl ?_
     exact hJ156 _ ⟨rfl, rfl, rfl, rfl, rfl, rfl, rfl, rfl, rfl, or_f hc157 rfl⟩
   ·rintro f ⟨hf0, hf5, hf7, hf9, hf10, hf11, hf27, hf28, hf29, hf57⟩
    refine (JL.norm (i := 0) hf0 (JL.norm (i := 5) hf5 (JL.norm (i := 7) hf7 (JL.norm (i := 9) hf9 (JL.norm (i := 10) hf10 (JL.norm (i := 11) hf11 (JL.norm (i := 27) hf27 (JL.norm (i := 28) hf28 (JL.norm (i := 29) hf29 (JL.norm (i := 57) hf57 ?_))))))))))
    refine JL.done hQ (JQ.go ?_)
    rcases ite_some hF with ⟨hc158, hF⟩ | ⟨hc158, hF⟩
    ·refine JC.cond_t (b := ((decide (c_r ≤ (w64 (p.Row + x_144)))) || (decide (c.Width ≤ (w64 (p.Col + y150.High)))))) rfl hc158 ?_
     refine JC.seq (JC.region (by rfl) ?_)
     intro hQ
     refine JL.assign .none rfl ?_
     refine JL.done hQ (JQ.go (JC.ret (JQ.ret_then (JQ.ret_block (JQ.ret_then (JQ.ret_then (JQ.ret_block (JQ.ret_join (JQ.ret_then ?_)))))))))
     obtain rfl := Option.some.inj hF
     have ehr147 := hr147 _ rfl
     subst ehr147
     have hF := hKr101
     try dsimp only at hF
     refine JQ.mask [false, false, false, true] [] ?_
     obtain rfl := Option.some.inj hF
     exact JQ.outW rfl (.tmp .nil) ⟨rfl, (HSub.trans hs33 hs146), _, _, [], rfl, rfl, (CH.mono R_Place_mono (HSub.trans hs33 hs146) c_h), c_tl, (Back.refl _)⟩
    ·refine JC.cond_f (b := ((decide (c_r ≤ (w64 (p.Row + x_144)))) || (decide (c.Width ≤ (w64 (p.Col + y150.High)))))) rfl hc158 ?_
     refine JC.skip (JQ.go (JC.seq (JC.draw (by rfl) mo_ (by kernel_rfl) ?_)))
     intro hQ
     refine JL.move .none rfl ?_
     refine JL.bin rfl rfl rfl .none rfl ?_
     obtain ⟨u161, hu161, hF⟩ := bind_some hF
     refine JL.shl rfl rfl (nneg_some hu161) .none rfl ?_
     refine JL.fieldAddr fo_62_1 rfl .none rfl ?_
     refine JL.loadOwn 2 az_3 rfl rfl rfl .none rfl ?_
     refine JL.fieldAddr fo_46_0 rfl .none rfl ?_
     refine JL.loadOwn 0 az_3 rfl rfl rfl .none rfl ?_
     refine JL.bin rfl rfl rfl .none rfl ?_
     obtain ⟨u162, hu162, hF⟩ := bind_some hF
     refine JL.shl rfl rfl (nneg_some hu162) .none rfl ?_
     refine JL.bin rfl rfl rfl .none rfl ?_
     refine JL.assign .none rfl ?_
     refine JL.doneQ hQ ?_
     refine JQ.go (JC.fresh (fun f => f 0 = .pointer (some ⟨c_b, 0, none⟩) ∧ f 5 = .pointer (some ⟨b1, 0, none⟩) ∧ f 7 = .pointer (some ⟨b2, 0, none⟩) ∧ f 10 = .int .i64 (w64 (p.Row + x_144)) ∧ f 12 = .int .u16 (IntKind.u16.wrap ((bshl .u16 1 (w64 ((w64 (p.Col + y150.High)) + 1))) - (bshl .u16 1 (w64 (p.Col + y150.Low))))) ∧ f 27 = y14a_v0 ∧ f 28 = .int .i64 (y14.length : Int) ∧ f 29 = .int .i64 x_144) ⟨rfl, rfl, rfl, rfl, rfl, rfl, rfl, rfl⟩ ?_)
     rintro f ⟨hf0, hf5, hf7, hf10, hf12, hf27, hf28, hf29⟩
     refine (JC.norm (i := 0) hf0 (JC.norm (i := 5) hf5 (JC.norm (i := 7) hf7 (JC.norm (i := 10) hf10 (JC.norm (i := 12) hf12 (JC.norm (i := 27) hf27 (JC.norm (i := 28) hf28 (JC.norm (i := 29) hf29 ?_))))))))
     refine JC.seq (JC.seq (JC.region (by rfl) ?_))
     intro hQ
     refine JL.move .none rfl ?_
     obtain ⟨y163, hy163, hF⟩ := bind_some hF
     refine JL.indexArrP (l := z_145) ar_85 az_83 rfl rfl hz_145 hy163 .none rfl ?_
     refine JL.loadEl (j := (w64 (p.Row + x_144))) 1 az_83 rfl rfl hy163 .none rfl ?_
     refine JL.move .none rfl ?_
     refine JL.and rfl rfl .none rfl ?_
     refine JL.bin rfl rfl rfl .none rfl ?_
     refine JL.done hQ (JQ.go ?_)
     rcases ite_some hF with ⟨hc164, hF⟩ | ⟨hc164, hF⟩
     ·refine JC.cond_t (b := ((band .u16 y163 (IntKind.u16.wrap ((bshl .u16 1 (w64 ((w64 (p.Col + y150.High)) + 1))) - (bshl .u16 1 (w64 (p.Col + y150.Low)))))) != 0)) rfl hc164 ?_
      refine JC.seq (JC.region (by rfl) ?_)
      intro hQ
      refine JL.assign .none rfl ?_
      refine JL.done hQ (JQ.go (JC.fresh (fun f => f 6 = .bool false) rfl ?_))
      rintro f hf6
      refine (JC.norm (i := 6) hf6 ?_)
      refine JC.ret (JQ.ret_then (JQ.ret_block (JQ.ret_then (JQ.ret_then (JQ.ret_block (JQ.ret_join (JQ.ret_then ?_)))))))
      obtain rfl := Option.some.inj hF
      have ehr147 := hr147 _ rfl
      subst ehr147
      have hF := hKr101
      try dsimp only at hF
      refine JQ.mask [false, false, false, true] [] ?_
      obtain rfl := Option.some.inj hF
      exact JQ.outW rfl (.tmp .nil) ⟨rfl, (HSub.trans hs33 hs146), _, _, [], rfl, rfl, (CH.mono R_Place_mono (HSub.trans hs33 hs146) c_h), c_tl, (Back.refl _)⟩
     ·refine JC.cond_f (b := ((band .u16 y163 (IntKind.u16.wrap ((bshl .u16 1 (w64 ((w64 (p.Col + y150.High)) + 1))) - (bshl .u16 1 (w64 (p.Col + y150.Low)))))) != 0)) rfl hc164 ?_
      refine JC.skip (JQ.go (JC.region (by rfl) ?_))
      intro hQ
      refine JL.move .none rfl ?_
      obtain ⟨y165, hy165, hF⟩ := bind_some hF
      refine JL.indexArrP (l := z_145) ar_85 az_83 rfl rfl hz_145 hy165 .none rfl ?_
      refine JL.loadEl (j := (w64 (p.Row + x_144))) 1 az_83 rfl rfl hy165 .none rfl ?_
      refine JL.move .none rfl ?_
      refine JL.or rfl rfl .none rfl ?_
      obtain ⟨y166, hy166, hF⟩ := bind_some hF
      refine JL.indexArrP (l := z_145) ar_85 az_83 rfl rfl hz_145 hy166 .none rfl ?_
      refine JL.storeEl (j := (w64 (p.Row + x_144))) 1 az_83 rfl rfl rfl hy166 .none ?_
      refine JL.done hQ (JQ.normal_block (JQ.go (JC.fresh (fun f => f 0 = .pointer (some ⟨c_b, 0, none⟩) ∧ f 5 = .pointer (some ⟨b1, 0, none⟩) ∧ f 7 = .pointer (some ⟨b2, 0, none⟩) ∧ f 27 = y14a_v0 ∧ f 28 = .int .i64 (y14.length : Int) ∧ f 29 = .int .i64 x_144) ⟨rfl, rfl, rfl, rfl, rfl, rfl⟩ ?_)))
      rintro f ⟨hf0, hf5, hf7, hf27, hf28, hf29⟩
      refine (JC.norm (i := 0) hf0 (JC.norm (i := 5) hf5 (JC.norm (i := 7) hf7 (JC.norm (i := 27) hf27 (JC.norm (i := 28) hf28 (JC.norm (i := 29) hf29 ?_))))))
      refine JC.region (by rfl) ?_
      intro hQ
      refine JL.bin rfl rfl rfl .none rfl ?_
      refine JL.move .none rfl ?_
      refine JL.done hQ ?_
      obtain rfl := Option.some.inj hF
      refine JQ.mask [false, true, true, true] [true] ?_
      exact JQ.next rfl ⟨rfl, rfl, rfl, rfl, rfl, rfl, rfl, rfl, (setx_length hz_145), hs146⟩
  ·refine JC.cond_f (b := decide (x_144 < (y14.length : Int))) rfl hc149 ?_
   refine JC.exit (JQ.exit_then (JQ.exit_then (JQ.exit_block ?_)))
   obtain rfl := Option.some.inj hF
   have ehr147 := hr147 _ rfl
   subst ehr147
   exact JQ.join z_145 ⟨rfl, rfl, rfl, rfl, rfl, hz_145, hs146, rfl⟩
 ·rintro z_99 H100 f bs gs ⟨hf0, hf5, hf7, rfl, rfl, hz_99, hs100, rfl⟩
  have hF := hKr101
  try dsimp only at hF
  refine (JQ.norm (i := 0) hf0 (JQ.norm (i := 5) hf5 (JQ.norm (i := 7) hf7 ?_)))
  refine JQ.go (JC.seq ?_)
  obtain ⟨l168, hl168, hF⟩ := bind_some hF
  refine JC.mixed 16 16 #[false, false, false, false, false, false, false, false, false, false, false, false, false, false, false, false] [(b2, .cells (av .u16 z_99).toArray 85), (b1, .cells [.int .i64 p.Row, .int .i64 p.Col, .int .i64 p.Turned].toArray 62)] (by rfl) mo_ (by kernel_rfl) (by kernel_rfl) ?_
  intro hQ hE
  refine JA.cut 7 #[true, true, true, true, true, true, true, true, true, false, false, false, false, false, false, false] (fun H209 f bs gs => ∃ (b202 : Nat), f 81 = .pointer (some ⟨c_b, 0, none⟩) ∧ f 82 = .pointer (some ⟨c_b, 0, none⟩) ∧ f 83 = .agg (av .u16 z_99).toArray ∧ f 87 = c_v ∧ f 89 = .slice (some ⟨b202, 0, none⟩) 1 1 ∧ bs = ((b202, .cells [.int .i64 p.Row, .int .i64 p.Col, .int .i64 p.Turned].toArray 62) :: (b2, .cells (av .u16 z_99).toArray 85) :: (b1, .cells [.int .i64 p.Row, .int .i64 p.Col, .int .i64 p.Turned].toArray 62) :: (c_b, .cells (([.int .i64 c.Width, .int .i64 c.Length, c_v2, c_v3, c_v4, .int .i64 c_r] : List Value) ++ (av .u16 c_t ++ [c_v])).toArray 106) :: bT) ∧ gs = (⟨c_v, 62, 3, c_l.length, c_x⟩ :: gT) ∧ HSub H100 H209) ?_ ?_
  ·rintro H209 f bs gs ⟨b202, hf81, hf82, hf83, hf87, hf89, rfl, rfl, hs209⟩
   refine (JA.norm (i := 81) hf81 (JA.norm (i := 82) hf82 (JA.norm (i := 83) hf83 (JA.norm (i := 87) hf87 (JA.norm (i := 89) hf89 ?_)))))
   refine JA.many [9] (by kernel_rfl) (by simp) (all_one ⟨_, #[true, true, true, true, true, true, true, true, true, true, false, false, false, false, false, false], rfl, (by kernel_rfl), ?_⟩)
   refine JL.appendK (R := R_Place) 0 (l := c_l) (m := [p]) ap_54 ⟨rfl, rfl⟩ rfl (CH.mono R_Place_mono (HSub.trans hs33 (HSub.trans hs100 hs209)) c_h) rfl rfl rfl (CH.cons (cs := [.int .i64 p.Row, .int .i64 p.Col, .int .i64 p.Turned]) rfl rfl CH.nil) rfl (by decide) (one_cons rfl (one_cons rfl (one_cons rfl one_nil))) hl168 .none rfl ?_
   intro v210 xs211 gx212 hch213 hbk214
   refine JA.after hE hs209 (.cons _ (.cons_cons _ (.cons_cons _ (.cons _ (List.nil_sublist _))))) ?_
   refine JA.take 10 (listed' := #[true, true, true, true, true, true, true, true, true, true, true, false, false, false, false, false]) hQ rfl (by kernel_rfl) (by kernel_rfl) (by kernel_rfl) (by kernel_rfl) (by kernel_rfl) hE hs209 (.cons _ (.cons_cons _ (.cons_cons _ (.cons _ (List.nil_sublist _))))) ?_
   refine JL.nilCheck rfl .none rfl ?_
   refine JA.cont ?_
   refine JA.take 11 (listed' := #[true, true, true, true, true, true, true, true, true, true, true, true, false, false, false, false]) hQ rfl (by kernel_rfl) (by kernel_rfl) (by kernel_rfl) (by kernel_rfl) (by kernel_rfl) hE hs209 (.cons _ (.cons_cons _ (.cons_cons _ (.cons _ (List.nil_sublist _))))) ?_
   refine JL.fieldAddr fo_106_2 rfl .none rfl ?_
   refine JA.cont ?_
   refine JA.many [12] (by kernel_rfl) (by simp) (all_one ⟨_, #[true, true, true, true, true, true, true, true, true, true, true, true, true, false, false, false], rfl, (by kernel_rfl), ?_⟩)
   refine JL.storeAma 3 az_85 rfl rfl rfl c_tl hz_99 .none ?_
   refine JA.after hE hs209 (.cons _ (.cons_cons _ (.cons_cons _ (.cons _ (List.nil_sublist _))))) ?_
   refine JA.take 13 (listed' := #[true, true, true, true, true, true, true, true, true, true, true, true, true, true, false, false]) hQ rfl (by kernel_rfl) (by kernel_rfl) (by kernel_rfl) (by kernel_rfl) (by kernel_rfl) hE hs209 (.cons _ (.cons_cons _ (.cons_cons _ (.cons _ (List.nil_sublist _))))) ?_
   refine JL.nilCheck rfl .none rfl ?_
   refine JA.cont ?_
   refine JA.take 14 (listed' := #[true, true, true, true, true, true, true, true, true, true, true, true, true, true, true, false]) hQ rfl (by kernel_rfl) (by kernel_rfl) (by kernel_rfl) (by kernel_rfl) (by kernel_rfl) hE hs209 (.cons _ (.cons_cons _ (.cons_cons _ (.cons _ (List.nil_sublist _))))) ?_
   refine JL.fieldAddr fo_106_3 rfl .none rfl ?_
   refine JA.cont ?_
   refine JA.many [15] (by kernel_rfl) (by simp) (all_one ⟨_, #[true, true, true, true, true, true, true, true, true, true, true, true, true, true, true, true], rfl, (by kernel_rfl), ?_⟩)
   refine JL.oneG 0 rfl (fun ho215 => ?_)
   refine JL.storeAmb 3 az_54 rfl rfl ⟨ho215.2, ho215.1⟩ rfl hz_99 .none ?_
   refine JA.after hE hs209 (.cons _ (.cons_cons _ (.cons_cons _ (.cons _ (List.nil_sublist _))))) ?_
   refine JA.done hQ (by kernel_rfl) ?_
   refine JQ.go (JC.seq (JC.region (by rfl) ?_))
   intro hQ
   refine JL.assign .none rfl ?_
   refine JL.done hQ (JQ.go (JC.ret (JQ.mask [false, false, false, true] [] ?_)))
   obtain rfl := Option.some.inj hF
   exact JQ.outW rfl (.tmp .nil) ⟨rfl, (HSub.trans hs33 (HSub.trans hs100 hs209)), _, _, gx212, rfl, rfl, hch213, hz_99, hbk214⟩
  intro nd208_0
  refine JA.take 0 (listed' := #[true, false, false, false, false, false, false, false, false, false, false, false, false, false, false, false]) hQ rfl (by kernel_rfl) (by kernel_rfl) (by kernel_rfl) (by kernel_rfl) (by kernel_rfl) hE (HSub.refl _) (.cons_cons _ (.cons_cons _ (.cons _ (List.nil_sublist _)))) ?_
  refine JL.move .none rfl ?_
  refine JA.cont ?_
  refine JA.take 1 (listed' := #[true, true, false, false, false, false, false, false, false, false, false, false, false, false, false, false]) hQ rfl (by kernel_rfl) (by kernel_rfl) (by kernel_rfl) (by kernel_rfl) (by kernel_rfl) hE (HSub.refl _) (.cons_cons _ (.cons_cons _ (.cons _ (List.nil_sublist _)))) ?_
  refine JL.move .none rfl ?_
  refine JA.cont ?_
  refine JA.take 2 (listed' := #[true, true, true, false, false, false, false, false, false, false, false, false, false, false, false, false]) hQ rfl (by kernel_rfl) (by kernel_rfl) (by kernel_rfl) (by kernel_rfl) (by kernel_rfl) hE (HSub.refl _) (.cons_cons _ (.cons_cons _ (.cons _ (List.nil_sublist _)))) ?_
  refine JL.loadArr (l := z_99) 0 az_85 rfl rfl hz_99 .none rfl ?_
  refine JA.cont ?_
  refine JA.take 3 (listed' := #[true, true, true, true, false, false, false, false, false, false, false, false, false, false, false, false]) hQ rfl (by kernel_rfl) (by kernel_rfl) (by kernel_rfl) (by kernel_rfl) (by kernel_rfl) hE (HSub.refl _) (.cons_cons _ (.cons_cons _ (.cons _ (List.nil_sublist _)))) ?_
  refine JL.move .none rfl ?_
  refine JA.cont ?_
  refine JA.take 4 (listed' := #[true, true, true, true, true, false, false, false, false, false, false, false, false, false, false, false]) hQ rfl (by kernel_rfl) (by kernel_rfl) (by kernel_rfl) (by kernel_rfl) (by kernel_rfl) hE (HSub.refl _) (.cons_cons _ (.cons_cons _ (.cons _ (List.nil_sublist _)))) ?_
  refine JL.nilCheck rfl .none rfl ?_
  refine JA.cont ?_
  refine JA.take 5 (listed' := #[true, true, true, true, true, true, false, false, false, false, false, false, false, false, false, false]) hQ rfl (by kernel_rfl) (by kernel_rfl) (by kernel_rfl) (by kernel_rfl) (by kernel_rfl) hE (HSub.refl _) (.cons_cons _ (.cons_cons _ (.cons _ (List.nil_sublist _)))) ?_
  refine JL.fieldAddr fo_106_3 rfl .none rfl ?_
  refine JA.cont ?_
  refine JA.take 7 (listed' := #[true, true, true, true, true, true, false, true, false, false, false, false, false, false, false, false]) hQ rfl (by kernel_rfl) (by kernel_rfl) (by kernel_rfl) (by kernel_rfl) (by kernel_rfl) hE (HSub.refl _) (.cons_cons _ (.cons_cons _ (.cons _ (List.nil_sublist _)))) ?_
  refine JL.loadOwn 1 az_62 rfl rfl rfl .none rfl ?_
  refine JA.cont ?_
  refine JA.many [6, 8] (by kernel_rfl) (by simp) (all_cons ⟨_, #[true, true, true, true, true, true, true, true, false, false, false, false, false, false, false, false], rfl, (by kernel_rfl), ?_⟩ (all_one ⟨_, #[true, true, true, true, true, true, false, true, true, false, false, false, false, false, false, false], rfl, (by kernel_rfl), ?_⟩))
  ·skip
   refine JL.loadOwn 2 az_54 rfl rfl (loadw_amb c_tl) .none rfl ?_
   refine JA.after hE (HSub.refl _) (.cons_cons _ (.cons_cons _ (.cons _ (List.nil_sublist _)))) ?_
   refine JA.many [8] (by kernel_rfl) (by simp) (all_one ⟨_, #[true, true, true, true, true, true, true, true, true, false, false, false, false, false, false, false], rfl, (by kernel_rfl), ?_⟩)
   refine JL.buildSlice (e := 62) (l := [.int .i64 p.Row, .int .i64 p.Col, .int .i64 p.Turned]) (by kernel_rfl) .none rfl ?_
   intro b216
   refine JA.after hE (HSub.refl _) (.cons _ (.cons_cons _ (.cons_cons _ (.cons _ (List.nil_sublist _))))) ?_
   exact nd208_0 _ _ _ _ ⟨b216, rfl, rfl, rfl, rfl, rfl, rfl, rfl, (HSub.refl _)⟩
  ·skip
   refine JL.buildSlice (e := 62) (l := [.int .i64 p.Row, .int .i64 p.Col, .int .i64 p.Turned]) (by kernel_rfl) .none rfl ?_
   intro b217
   refine JA.after hE (HSub.refl _) (.cons _ (.cons_cons _ (.cons_cons _ (.cons _ (List.nil_sublist _))))) ?_
   refine JA.many [6] (by kernel_rfl) (by simp) (all_one ⟨_, #[true, true, true, true, true, true, true, true, true, false, false, false, false, false, false, false], rfl, (by kernel_rfl), ?_⟩)
   refine JL.loadOwn 3 az_54 rfl rfl (loadw_amb c_tl) .none rfl ?_
   refine JA.after hE (HSub.refl _) (.cons _ (.cons_cons _ (.cons_cons _ (.cons _ (List.nil_sublist _))))) ?_
   exact nd208_0 _ _ _ _ ⟨b217, rfl, rfl, rfl, rfl, rfl, rfl, rfl, (HSub.refl _)⟩
-- 69 (*ferrule/lays.cloth).fill
def F_lays_cloth_fill_s3 (n : Nat) (rec : Lap → Int → (List Int) → (List Place) → Option (Bool × List Int × List Place)) (c : Lap) (c_r : Int) (c_t : List Int) (c_l : List Place) (x_5181 : Int) (x_6045 : Int) : Int → Option (Int ⊕ ((Int ⊕ ((Int ⊕ ((Bool × List Int × List Place) ⊕ Unit)) ⊕ Unit)) ⊕ Unit))
 | x_6189 => if decide (x_6189 < 2) = true then ((F_lays_cloth_put n c c_r c_t c_l (c_l.length : Int) (Place.mk x_5181 x_6045 x_6189)).bind fun y6196 => (if y6196.1 = true then ((rec c c_r y6196.2.1 y6196.2.2).bind fun y6206 => if y6206.1 = true then (some (Sum.inr (Sum.inl (Sum.inr (Sum.inl (Sum.inr (Sum.inl (true, y6206.2.1, y6206.2.2)))))))) else (some (Sum.inl (w64 (x_6189 + 1))))) else (some (Sum.inl (w64 (x_6189 + 1)))))) else (some (Sum.inr (Sum.inr ())))
def F_lays_cloth_fill_s2 (n : Nat) (rec : Lap → Int → (List Int) → (List Place) → Option (Bool × List Int × List Place)) (c : Lap) (c_r : Int) (c_t : List Int) (c_l : List Place) (x_5181 : Int) : Int → Option (Int ⊕ ((Int ⊕ ((Bool × List Int × List Place) ⊕ Unit)) ⊕ Unit))
 | x_6045 => if decide (x_6045 < c.Width) = true then ((loopO n (F_lays_cloth_fill_s3 n rec c c_r c_t c_l x_5181 x_6045) 0).bind fun r6134 => match r6134 with | .inl o => some o | .inr _ => some (Sum.inl (w64 (x_6045 + 1)))) else (some (Sum.inr (Sum.inr ())))
def F_lays_cloth_fill_s1 (n : Nat) (rec : Lap → Int → (List Int) → (List Place) → Option (Bool × List Int × List Place)) (c : Lap) (c_r : Int) (c_t : List Int) (c_l : List Place) : Int → Option (Int ⊕ ((Bool × List Int × List Place) ⊕ Unit))
 | x_5181 => if decide (x_5181 < c_r) = true then ((loopO n (F_lays_cloth_fill_s2 n rec c c_r c_t c_l x_5181) 0).bind fun r5702 => match r5702 with | .inl o => some o | .inr _ => some (Sum.inl (w64 (x_5181 + 1)))) else (some (Sum.inr (Sum.inr ())))
def F_lays_cloth_fill : Nat → Lap → Int → (List Int) → (List Place) → Option (Bool × List Int × List Place)
 | 0, _, _, _, _ => none
 | n + 1, c, c_r, c_t, c_l => (fun rec => if ((c_l.length : Int) == (c.Panels.length : Int)) = true then (some (true, c_t, c_l)) else ((loopO n (F_lays_cloth_fill_s1 n rec c c_r c_t c_l) 0).bind fun r3110 => match r3110 with | .inl o => some o | .inr _ => some (false, c_t, c_l))) (F_lays_cloth_fill n)
theorem c_lays_cloth_fill (n : Nat) : ∀ (H : Hp) (c : Lap) (c_v2 : Value) (hc_2 : SL H 2 R_Cell c_v2 c.Faults) (c_v3 : Value) (hc_3 : SL H 2 R_Cell c_v3 c.Flaws) (c_v4 : Value) (hc_4 : SL H 1 R_Panel c_v4 c.Panels) (c_r : Int) (c_t : List Int) (c_tl : c_t.length = 12) (c_l : List Place) (c_v : Value) (c_x : List Value) (c_h : CH H 3 R_Place c_x c_l) (c_b : Nat) (bT : List (Nat × Obj)) (gT : List GS) (y : Bool × List Int × List Place) (hF : F_lays_cloth_fill n c c_r c_t c_l = some y) (B : Bs) (w : World) (hs : St B H ((c_b, .cells (([.int .i64 c.Width, .int .i64 c.Length, c_v2, c_v3, c_v4, .int .i64 c_r] : List Value) ++ (av .u16 c_t ++ [c_v])).toArray 106) :: bT) (⟨c_v, 62, 3, c_l.length, c_x⟩ :: gT) w), Calls Try.prog 69 [.pointer (some ⟨c_b, 0, none⟩)].toArray w (RetW B (KC H c_b [.int .i64 c.Width, .int .i64 c.Length, c_v2, c_v3, c_v4, .int .i64 c_r] bT gT ⟨c_v, 62, 3, c_l.length, c_x⟩ y)) := by
 induction n with
 | zero => intro H c c_v2 hc_2 c_v3 hc_3 c_v4 hc_4 c_r c_t c_tl c_l c_v c_x c_h c_b bT gT y hF; simp [F_lays_cloth_fill] at hF
 | succ n ih =>
 intro H c c_v2 hc_2 c_v3 hc_3 c_v4 hc_4 c_r c_t c_tl c_l c_v c_x c_h c_b bT gT y hF B w hs
 rw [F_lays_cloth_fill] at hF
 dsimp only at hF
 refine calls_of (N := 59) Try.func69 rfl rfl rfl hs ?_
 clear hs
 refine JC.seq (JC.region (by rfl) ?_)
 intro hQ
 refine JL.assign .none rfl ?_
 refine JL.done hQ (JQ.go (JC.seq (JC.region (by rfl) ?_)))
 intro hQ
 refine JL.move .none rfl ?_
 refine JL.nilCheck rfl .none rfl ?_
 refine JL.fieldAddr fo_106_3 rfl .none rfl ?_
 refine JL.loadOwn 0 az_54 rfl rfl (loadw_amb c_tl) .none rfl ?_
 refine JL.lenG 0 ul_54 rfl rfl .none rfl ?_
 refine JL.assign .none rfl ?_
 refine JL.done hQ (JQ.go (JC.seq (JC.seq (JC.region (by rfl) ?_))))
 intro hQ
 refine JL.move .none rfl ?_
 refine JL.move .none rfl ?_
 refine JL.nilCheck rfl .none rfl ?_
 refine JL.fieldAddr fo_106_0 rfl .none rfl ?_
 refine JL.fieldAddr fo_25_4 rfl .none rfl ?_
 refine JL.loadOwn 0 az_23 rfl rfl rfl .none rfl ?_
 refine JL.lenSL (R := R_Panel) ul_23 hc_4 .none rfl ?_
 refine JL.bin rfl rfl rfl .none rfl ?_
 refine JL.done hQ (JQ.go (JC.fresh (fun f => f 0 = .pointer (some ⟨c_b, 0, none⟩) ∧ f 2 = .bool false ∧ f 3 = .int .i64 (c_l.length : Int) ∧ f 20 = .bool ((c_l.length : Int) == (c.Panels.length : Int))) ⟨rfl, rfl, rfl, rfl⟩ ?_))
 rintro f ⟨hf0, hf2, hf3, hf20⟩
 refine (JC.norm (i := 0) hf0 (JC.norm (i := 2) hf2 (JC.norm (i := 3) hf3 (JC.norm (i := 20) hf20 ?_))))
 rcases ite_some hF with ⟨hc1, hF⟩ | ⟨hc1, hF⟩
 ·refine JC.cond_t (b := ((c_l.length : Int) == (c.Panels.length : Int))) rfl hc1 ?_
  refine JC.seq (JC.region (by rfl) ?_)
  intro hQ
  refine JL.assign .none rfl ?_
  refine JL.done hQ (JQ.go (JC.ret (JQ.ret_then ?_)))
  obtain rfl := Option.some.inj hF
  exact JQ.outW rfl (.tmp .nil) ⟨rfl, (HSub.refl _), _, _, [], rfl, rfl, c_h, c_tl, (Back.refl _)⟩
 ·refine JC.cond_f (b := ((c_l.length : Int) == (c.Panels.length : Int))) rfl hc1 ?_
  refine JC.skip (JQ.go (JC.seq (JC.seq (JC.region (by rfl) ?_))))
  intro hQ
  refine JL.move .none rfl ?_
  refine JL.nilCheck rfl .none rfl ?_
  refine JL.fieldAddr fo_106_1 rfl .none rfl ?_
  refine JL.loadOwn 0 az_3 rfl rfl rfl .none rfl ?_
  refine JL.move .none rfl ?_
  refine JL.done hQ (JQ.go ?_)
  obtain ⟨r3110, hlr3110, hKr3110⟩ := bind_some hF
  refine JC.join (fun (_ : Unit) H3109 f bs gs => bs = ((c_b, .cells (([.int .i64 c.Width, .int .i64 c.Length, c_v2, c_v3, c_v4, .int .i64 c_r] : List Value) ++ (av .u16 c_t ++ [c_v])).toArray 106) :: bT) ∧ gs = (⟨c_v, 62, 3, c_l.length, c_x⟩ :: gT) ∧ HSub H H3109 ∧ Sum.inr () = r3110) ?_ ?_
  ·skip
   refine JC.block (JC.loop hlr3110 (fun (x_5181 : Int) H5182 f bs gs => f 0 = .pointer (some ⟨c_b, 0, none⟩) ∧ f 3 = .int .i64 (c_l.length : Int) ∧ f 24 = .int .i64 c_r ∧ f 25 = .int .i64 x_5181 ∧ bs = ((c_b, .cells (([.int .i64 c.Width, .int .i64 c.Length, c_v2, c_v3, c_v4, .int .i64 c_r] : List Value) ++ (av .u16 c_t ++ [c_v])).toArray 106) :: bT) ∧ gs = (⟨c_v, 62, 3, c_l.length, c_x⟩ :: gT) ∧ HSub H H5182) ⟨rfl, rfl, rfl, rfl, rfl, rfl, (HSub.refl _)⟩ ?_)
   rintro x_5181 x5184 H5182 f bs gs ⟨hf0, hf3, hf24, hf25, rfl, rfl, hs5182⟩ hF hr5183
   rw [F_lays_cloth_fill_s1] at hF
   refine (JC.norm (i := 0) hf0 (JC.norm (i := 3) hf3 (JC.norm (i := 24) hf24 (JC.norm (i := 25) hf25 ?_))))
   refine JC.seq (JC.region (by rfl) ?_)
   intro hQ
   refine JL.bin rfl rfl rfl .none rfl ?_
   refine JL.done hQ (JQ.go (JC.seq ?_))
   rcases ite_some hF with ⟨hc5185, hF⟩ | ⟨hc5185, hF⟩
   ·refine JC.cond_t (b := decide (x_5181 < c_r)) rfl hc5185 ?_
    refine JC.skip (JQ.go (JC.seq (JC.block (JC.seq (JC.region (by rfl) ?_)))))
    intro hQ
    refine JL.move .none rfl ?_
    refine JL.assign .none rfl ?_
    refine JL.done hQ (JQ.go (JC.seq (JC.region (by rfl) ?_)))
    intro hQ
    refine JL.move .none rfl ?_
    refine JL.nilCheck rfl .none rfl ?_
    refine JL.fieldAddr fo_106_0 rfl .none rfl ?_
    refine JL.fieldAddr fo_25_0 rfl .none rfl ?_
    refine JL.loadOwn 0 az_3 rfl rfl rfl .none rfl ?_
    refine JL.move .none rfl ?_
    refine JL.done hQ (JQ.go ?_)
    obtain ⟨r5702, hlr5702, hKr5702⟩ := bind_some hF
    refine JC.join (fun (_ : Unit) H5701 f bs gs => f 0 = .pointer (some ⟨c_b, 0, none⟩) ∧ f 3 = .int .i64 (c_l.length : Int) ∧ f 24 = .int .i64 c_r ∧ f 25 = .int .i64 x_5181 ∧ bs = ((c_b, .cells (([.int .i64 c.Width, .int .i64 c.Length, c_v2, c_v3, c_v4, .int .i64 c_r] : List Value) ++ (av .u16 c_t ++ [c_v])).toArray 106) :: bT) ∧ gs = (⟨c_v, 62, 3, c_l.length, c_x⟩ :: gT) ∧ HSub H5182 H5701 ∧ Sum.inr () = r5702) ?_ ?_
    ·skip
     refine JC.block (JC.loop hlr5702 (fun (x_6045 : Int) H6046 f bs gs => f 0 = .pointer (some ⟨c_b, 0, none⟩) ∧ f 3 = .int .i64 (c_l.length : Int) ∧ f 4 = .int .i64 x_5181 ∧ f 24 = .int .i64 c_r ∧ f 25 = .int .i64 x_5181 ∧ f 32 = .int .i64 c.Width ∧ f 33 = .int .i64 x_6045 ∧ bs = ((c_b, .cells (([.int .i64 c.Width, .int .i64 c.Length, c_v2, c_v3, c_v4, .int .i64 c_r] : List Value) ++ (av .u16 c_t ++ [c_v])).toArray 106) :: bT) ∧ gs = (⟨c_v, 62, 3, c_l.length, c_x⟩ :: gT) ∧ HSub H5182 H6046) ⟨rfl, rfl, rfl, rfl, rfl, rfl, rfl, rfl, rfl, (HSub.refl _)⟩ ?_)
     rintro x_6045 x6048 H6046 f bs gs ⟨hf0, hf3, hf4, hf24, hf25, hf32, hf33, rfl, rfl, hs6046⟩ hF hr6047
     rw [F_lays_cloth_fill_s2] at hF
     refine (JC.norm (i := 0) hf0 (JC.norm (i := 3) hf3 (JC.norm (i := 4) hf4 (JC.norm (i := 24) hf24 (JC.norm (i := 25) hf25 (JC.norm (i := 32) hf32 (JC.norm (i := 33) hf33 ?_)))))))
     refine JC.seq (JC.region (by rfl) ?_)
     intro hQ
     refine JL.bin rfl rfl rfl .none rfl ?_
     refine JL.done hQ (JQ.go (JC.seq ?_))
     rcases ite_some hF with ⟨hc6049, hF⟩ | ⟨hc6049, hF⟩
     ·refine JC.cond_t (b := decide (x_6045 < c.Width)) rfl hc6049 ?_
      refine JC.skip (JQ.go (JC.seq (JC.block (JC.seq (JC.region (by rfl) ?_)))))
      intro hQ
      refine JL.move .none rfl ?_
      refine JL.assign .none rfl ?_
      refine JL.done hQ (JQ.go (JC.seq (JC.region (by rfl) ?_)))
      intro hQ
      refine JL.move .none rfl ?_
      refine JL.done hQ (JQ.go ?_)
      obtain ⟨r6134, hlr6134, hKr6134⟩ := bind_some hF
      refine JC.join (fun (_ : Unit) H6133 f bs gs => f 0 = .pointer (some ⟨c_b, 0, none⟩) ∧ f 3 = .int .i64 (c_l.length : Int) ∧ f 4 = .int .i64 x_5181 ∧ f 24 = .int .i64 c_r ∧ f 25 = .int .i64 x_5181 ∧ f 32 = .int .i64 c.Width ∧ f 33 = .int .i64 x_6045 ∧ bs = ((c_b, .cells (([.int .i64 c.Width, .int .i64 c.Length, c_v2, c_v3, c_v4, .int .i64 c_r] : List Value) ++ (av .u16 c_t ++ [c_v])).toArray 106) :: bT) ∧ gs = (⟨c_v, 62, 3, c_l.length, c_x⟩ :: gT) ∧ HSub H6046 H6133 ∧ Sum.inr () = r6134) ?_ ?_
      ·skip
       refine JC.block (JC.loop hlr6134 (fun (x_6189 : Int) H6190 f bs gs => f 0 = .pointer (some ⟨c_b, 0, none⟩) ∧ f 3 = .int .i64 (c_l.length : Int) ∧ f 4 = .int .i64 x_5181 ∧ f 5 = .int .i64 x_6045 ∧ f 24 = .int .i64 c_r ∧ f 25 = .int .i64 x_5181 ∧ f 32 = .int .i64 c.Width ∧ f 33 = .int .i64 x_6045 ∧ f 36 = .int .i64 x_6189 ∧ bs = ((c_b, .cells (([.int .i64 c.Width, .int .i64 c.Length, c_v2, c_v3, c_v4, .int .i64 c_r] : List Value) ++ (av .u16 c_t ++ [c_v])).toArray 106) :: bT) ∧ gs = (⟨c_v, 62, 3, c_l.length, c_x⟩ :: gT) ∧ HSub H6046 H6190) ⟨rfl, rfl, rfl, rfl, rfl, rfl, rfl, rfl, rfl, rfl, rfl, (HSub.refl _)⟩ ?_)
       rintro x_6189 x6192 H6190 f bs gs ⟨hf0, hf3, hf4, hf5, hf24, hf25, hf32, hf33, hf36, rfl, rfl, hs6190⟩ hF hr6191
       rw [F_lays_cloth_fill_s3] at hF
       refine (JC.norm (i := 0) hf0 (JC.norm (i := 3) hf3 (JC.norm (i := 4) hf4 (JC.norm (i := 5) hf5 (JC.norm (i := 24) hf24 (JC.norm (i := 25) hf25 (JC.norm (i := 32) hf32 (JC.norm (i := 33) hf33 (JC.norm (i := 36) hf36 ?_)))))))))
       refine JC.seq (JC.region (by rfl) ?_)
       intro hQ
       refine JL.bin rfl rfl rfl .none rfl ?_
       refine JL.done hQ (JQ.go (JC.seq ?_))
       rcases ite_some hF with ⟨hc6193, hF⟩ | ⟨hc6193, hF⟩
       ·refine JC.cond_t (b := decide (x_6189 < 2)) rfl hc6193 ?_
        refine JC.skip (JQ.go (JC.seq (JC.block (JC.seq (JC.region (by rfl) ?_)))))
        intro hQ
        refine JL.move .none rfl ?_
        refine JL.assign .none rfl ?_
        refine JL.done hQ (JQ.go (JC.seq (JC.region (by rfl) ?_)))
        intro hQ
        refine JL.move .none rfl ?_
        refine JL.nilCheck rfl .none rfl ?_
        refine JL.loadOwn 0 az_106 rfl rfl (loadw_amc c_tl) .none rfl ?_
        refine JL.alloc ze_106 .none rfl ?_
        intro b6194
        refine JL.oneG 0 rfl (fun ho6195 => ?_)
        refine JL.storeAmc 0 az_106 rfl rfl c_tl (one_cons rfl (one_cons rfl (one_cons (SL.one (SL.mono R_Cell_mono (HSub.trans hs5182 (HSub.trans hs6046 hs6190)) hc_2)) (one_cons (SL.one (SL.mono R_Cell_mono (HSub.trans hs5182 (HSub.trans hs6046 hs6190)) hc_3)) (one_cons (SL.one (SL.mono R_Panel_mono (HSub.trans hs5182 (HSub.trans hs6046 hs6190)) hc_4)) (one_cons rfl (one_cons ho6195.1 one_nil))))))) rfl rfl .none ?_
        refine JL.done hQ (JQ.go (JC.seq (JC.seq (JC.region (by rfl) ?_))))
        intro hQ
        refine JL.move .none rfl ?_
        refine JL.move .none rfl ?_
        refine JL.move .none rfl ?_
        refine JL.move .none rfl ?_
        refine JL.move .none rfl ?_
        refine JL.build (l := [.int .i64 x_5181, .int .i64 x_6045, .int .i64 x_6189]) (by kernel_rfl) .none rfl ?_
        refine JL.permB (swapAt_perm 0 _) ?_
        obtain ⟨y6196, hy6196, hF⟩ := bind_some hF
        refine JL.callW (fun w hs => c_lays_cloth_put n H6190 c c_v2 (SL.mono R_Cell_mono (HSub.trans hs5182 (HSub.trans hs6046 hs6190)) hc_2) c_v3 (SL.mono R_Cell_mono (HSub.trans hs5182 (HSub.trans hs6046 hs6190)) hc_3) c_v4 (SL.mono R_Panel_mono (HSub.trans hs5182 (HSub.trans hs6046 hs6190)) hc_4) c_r c_t c_tl c_l c_v c_x (CH.mono R_Place_mono (HSub.trans hs5182 (HSub.trans hs6046 hs6190)) c_h) c_b _ _ (c_l.length : Int) (Place.mk x_5181 x_6045 x_6189) y6196 hy6196 _ w hs) rfl en_68 .none rfl ?_
        rintro _ H6197 _ _ ⟨rfl, hs6197, lv6198, lx6199, gx6200, rfl, rfl, hch6201, htl6202, hbk6203⟩
        refine JL.move .none rfl ?_
        rcases ite_some hF with ⟨hc6205, hF⟩ | ⟨hc6205, hF⟩
        ·skip
         refine JL.move (.some rfl rfl rfl hc6205) rfl ?_
         obtain ⟨y6206, hy6206, hF⟩ := bind_some hF
         refine JL.callW (fun w hs => ih H6197 c c_v2 (SL.mono R_Cell_mono (HSub.trans hs5182 (HSub.trans hs6046 (HSub.trans hs6190 hs6197))) hc_2) c_v3 (SL.mono R_Cell_mono (HSub.trans hs5182 (HSub.trans hs6046 (HSub.trans hs6190 hs6197))) hc_3) c_v4 (SL.mono R_Panel_mono (HSub.trans hs5182 (HSub.trans hs6046 (HSub.trans hs6190 hs6197))) hc_4) c_r y6196.2.1 htl6202 y6196.2.2 lv6198 lx6199 hch6201 c_b _ _ y6206 hy6206 _ w hs) rfl en_69 (.some rfl rfl rfl hc6205) rfl ?_
         rintro _ H6207 _ _ ⟨rfl, hs6207, lv6208, lx6209, gx6210, rfl, rfl, hch6211, htl6212, hbk6213⟩
         refine JL.pick_t (b := y6196.1) rfl hc6205 .none rfl ?_
         refine JL.done hQ (JQ.go (JC.fresh (fun f => f 0 = .pointer (some ⟨c_b, 0, none⟩) ∧ f 3 = .int .i64 (c_l.length : Int) ∧ f 4 = .int .i64 x_5181 ∧ f 5 = .int .i64 x_6045 ∧ f 7 = .pointer (some ⟨b6194, 0, none⟩) ∧ f 24 = .int .i64 c_r ∧ f 25 = .int .i64 x_5181 ∧ f 32 = .int .i64 c.Width ∧ f 33 = .int .i64 x_6045 ∧ f 36 = .int .i64 x_6189 ∧ f 50 = .pointer (some ⟨c_b, 0, none⟩) ∧ f 51 = .bool y6206.1 ∧ f 52 = .bool y6206.1) ⟨rfl, rfl, rfl, rfl, rfl, rfl, rfl, rfl, rfl, rfl, rfl, rfl, rfl⟩ ?_))
         rintro f ⟨hf0, hf3, hf4, hf5, hf7, hf24, hf25, hf32, hf33, hf36, hf50, hf51, hf52⟩
         refine (JC.norm (i := 0) hf0 (JC.norm (i := 3) hf3 (JC.norm (i := 4) hf4 (JC.norm (i := 5) hf5 (JC.norm (i := 7) hf7 (JC.norm (i := 24) hf24 (JC.norm (i := 25) hf25 (JC.norm (i := 32) hf32 (JC.norm (i := 33) hf33 (JC.norm (i := 36) hf36 (JC.norm (i := 50) hf50 (JC.norm (i := 51) hf51 (JC.norm (i := 52) hf52 ?_)))))))))))))
         rcases ite_some hF with ⟨hc6215, hF⟩ | ⟨hc6215, hF⟩
         ·refine JC.cond_t (b := y6206.1) rfl hc6215 ?_
          refine JC.seq (JC.region (by rfl) ?_)
          intro hQ
          refine JL.assign .none rfl ?_
          refine JL.done hQ (JQ.go (JC.fresh (fun f => f 2 = .bool true) rfl ?_))
          rintro f hf2
          refine (JC.norm (i := 2) hf2 ?_)
          refine JC.ret (JQ.ret_then (JQ.ret_block (JQ.ret_then (JQ.ret_then (JQ.ret_block (JQ.ret_join (JQ.ret_block (JQ.ret_then (JQ.ret_then (JQ.ret_block (JQ.ret_join (JQ.ret_block (JQ.ret_then (JQ.ret_then (JQ.ret_block (JQ.ret_join (JQ.ret_then ?_)))))))))))))))))
          obtain rfl := Option.some.inj hF
          have ehr6191 := hr6191 _ rfl
          subst ehr6191
          have hF := hKr6134
          try dsimp only at hF
          obtain rfl := Option.some.inj hF
          have ehr6047 := hr6047 _ rfl
          subst ehr6047
          have hF := hKr5702
          try dsimp only at hF
          obtain rfl := Option.some.inj hF
          have ehr5183 := hr5183 _ rfl
          subst ehr5183
          have hF := hKr3110
          try dsimp only at hF
          refine JQ.mask [true, false] [] ?_
          refine JQ.assocG (a := gx6210) (b := gx6200) ?_
          obtain rfl := Option.some.inj hF
          exact JQ.outW rfl (.tmp .nil) ⟨rfl, (HSub.trans hs5182 (HSub.trans hs6046 (HSub.trans hs6190 (HSub.trans hs6197 hs6207)))), _, _, (gx6210 ++ gx6200), rfl, rfl, hch6211, htl6212, (hbk6203.trans hbk6213)⟩
         ·refine JC.cond_f (b := y6206.1) rfl hc6215 ?_
          refine JC.skip (JQ.go (JC.region (by rfl) ?_))
          intro hQ
          refine JL.move .none rfl ?_
          refine JL.loadOwn 1 az_106 rfl rfl (loadw_amc c_tl) .none rfl ?_
          refine JL.nilCheck rfl .none rfl ?_
          refine JL.back hbk6213 ?_
          refine JL.back hbk6203 ?_
          refine JL.oneG 0 rfl (fun ho6216 => ?_)
          refine JL.storeAmc 0 az_106 rfl rfl c_tl (one_cons rfl (one_cons rfl (one_cons (SL.one (SL.mono R_Cell_mono (HSub.trans hs5182 (HSub.trans hs6046 (HSub.trans hs6190 (HSub.trans hs6197 hs6207)))) hc_2)) (one_cons (SL.one (SL.mono R_Cell_mono (HSub.trans hs5182 (HSub.trans hs6046 (HSub.trans hs6190 (HSub.trans hs6197 hs6207)))) hc_3)) (one_cons (SL.one (SL.mono R_Panel_mono (HSub.trans hs5182 (HSub.trans hs6046 (HSub.trans hs6190 (HSub.trans hs6197 hs6207)))) hc_4)) (one_cons rfl (one_cons ho6216.1 one_nil))))))) rfl (am_len htl6212) .none ?_
          refine JL.done hQ (JQ.normal_block (JQ.go (JC.region (by rfl) ?_)))
          intro hQ
          refine JL.bin rfl rfl rfl .none rfl ?_
          refine JL.move .none rfl ?_
          refine JL.done hQ ?_
          obtain rfl := Option.some.inj hF
          refine JQ.mask [true, false] [true] ?_
          exact JQ.next rfl ⟨rfl, rfl, rfl, rfl, rfl, rfl, rfl, rfl, rfl, rfl, rfl, (HSub.trans hs6190 (HSub.trans hs6197 hs6207))⟩
        ·skip
         refine JL.skip (.bool rfl rfl rfl hc6205) rfl ?_
         refine JL.skip (.bool rfl rfl rfl hc6205) rfl ?_
         refine JL.pick_f (b := y6196.1) rfl hc6205 .none rfl ?_
         refine JL.done hQ (JQ.go (JC.fresh (fun f => f 0 = .pointer (some ⟨c_b, 0, none⟩) ∧ f 3 = .int .i64 (c_l.length : Int) ∧ f 4 = .int .i64 x_5181 ∧ f 5 = .int .i64 x_6045 ∧ f 7 = .pointer (some ⟨b6194, 0, none⟩) ∧ f 24 = .int .i64 c_r ∧ f 25 = .int .i64 x_5181 ∧ f 32 = .int .i64 c.Width ∧ f 33 = .int .i64 x_6045 ∧ f 36 = .int .i64 x_6189 ∧ f 52 = .bool false) ⟨rfl, rfl, rfl, rfl, rfl, rfl, rfl, rfl, rfl, rfl, rfl⟩ ?_))
         rintro f ⟨hf0, hf3, hf4, hf5, hf7, hf24, hf25, hf32, hf33, hf36, hf52⟩
         refine (JC.norm (i := 0) hf0 (JC.norm (i := 3) hf3 (JC.norm (i := 4) hf4 (JC.norm (i := 5) hf5 (JC.norm (i := 7) hf7 (JC.norm (i := 24) hf24 (JC.norm (i := 25) hf25 (JC.norm (i := 32) hf32 (JC.norm (i := 33) hf33 (JC.norm (i := 36) hf36 (JC.norm (i := 52) hf52 ?_)))))))))))
         refine JC.cond_f (b := false) rfl rfl ?_
         refine JC.skip (JQ.go (JC.region (by rfl) ?_))
         intro hQ
         refine JL.move .none rfl ?_
         refine JL.loadOwn 1 az_106 rfl rfl (loadw_amc c_tl) .none rfl ?_
         refine JL.nilCheck rfl .none rfl ?_
         refine JL.back hbk6203 ?_
         refine JL.oneG 0 rfl (fun ho6217 => ?_)
         refine JL.storeAmc 0 az_106 rfl rfl c_tl (one_cons rfl (one_cons rfl (one_cons (SL.one (SL.mono R_Cell_mono (HSub.trans hs5182 (HSub.trans hs6046 (HSub.trans hs6190 hs6197))) hc_2)) (one_cons (SL.one (SL.mono R_Cell_mono (HSub.trans hs5182 (HSub.trans hs6046 (HSub.trans hs6190 hs6197))) hc_3)) (one_cons (SL.one (SL.mono R_Panel_mono (HSub.trans hs5182 (HSub.trans hs6046 (HSub.trans hs6190 hs6197))) hc_4)) (one_cons rfl (one_cons ho6217.1 one_nil))))))) rfl (am_len htl6202) .none ?_
         refine JL.done hQ (JQ.normal_block (JQ.go (JC.region (by rfl) ?_)))
         intro hQ
         refine JL.bin rfl rfl rfl .none rfl ?_
         refine JL.move .none rfl ?_
         refine JL.done hQ ?_
         obtain rfl := Option.some.inj hF
         refine JQ.mask [true, false] [true] ?_
         exact JQ.next rfl ⟨rfl, rfl, rfl, rfl, rfl, rfl, rfl, rfl, rfl, rfl, rfl, (HSub.trans hs6190 hs6197)⟩
       ·refine JC.cond_f (b := decide (x_6189 < 2)) rfl hc6193 ?_
        refine JC.exit (JQ.exit_then (JQ.exit_then (JQ.exit_block ?_)))
        obtain rfl := Option.some.inj hF
        have ehr6191 := hr6191 _ rfl
        subst ehr6191
        exact JQ.join () ⟨rfl, rfl, rfl, rfl, rfl, rfl, rfl, rfl, rfl, hs6190, rfl⟩
      ·rintro _ H6133 f bs gs ⟨hf0, hf3, hf4, hf24, hf25, hf32, hf33, rfl, rfl, hs6133, rfl⟩
       have hF := hKr6134
       try dsimp only at hF
       refine (JQ.norm (i := 0) hf0 (JQ.norm (i := 3) hf3 (JQ.norm (i := 4) hf4 (JQ.norm (i := 24) hf24 (JQ.norm (i := 25) hf25 (JQ.norm (i := 32) hf32 (JQ.norm (i := 33) hf33 ?_)))))))
       refine JQ.normal_block (JQ.go (JC.region (by rfl) ?_))
       intro hQ
       refine JL.bin rfl rfl rfl .none rfl ?_
       refine JL.move .none rfl ?_
       refine JL.done hQ ?_
       obtain rfl := Option.some.inj hF
       exact JQ.next rfl ⟨rfl, rfl, rfl, rfl, rfl, rfl, rfl, rfl, rfl, (HSub.trans hs6046 hs6133)⟩
     ·refine JC.cond_f (b := decide (x_6045 < c.Width)) rfl hc6049 ?_
      refine JC.exit (JQ.exit_then (JQ.exit_then (JQ.exit_block ?_)))
      obtain rfl := Option.some.inj hF
      have ehr6047 := hr6047 _ rfl
      subst ehr6047
      exact JQ.join () ⟨rfl, rfl, rfl, rfl, rfl, rfl, hs6046, rfl⟩
    ·rintro _ H5701 f bs gs ⟨hf0, hf3, hf24, hf25, rfl, rfl, hs5701, rfl⟩
     have hF := hKr5702
     try dsimp only at hF
     refine (JQ.norm (i := 0) hf0 (JQ.norm (i := 3) hf3 (JQ.norm (i := 24) hf24 (JQ.norm (i := 25) hf25 ?_))))
     refine JQ.normal_block (JQ.go (JC.region (by rfl) ?_))
     intro hQ
     refine JL.bin rfl rfl rfl .none rfl ?_
     refine JL.move .none rfl ?_
     refine JL.done hQ ?_
     obtain rfl := Option.some.inj hF
     exact JQ.next rfl ⟨rfl, rfl, rfl, rfl, rfl, rfl, (HSub.trans hs5182 hs5701)⟩
   ·refine JC.cond_f (b := decide (x_5181 < c_r)) rfl hc5185 ?_
    refine JC.exit (JQ.exit_then (JQ.exit_then (JQ.exit_block ?_)))
    obtain rfl := Option.some.inj hF
    have ehr5183 := hr5183 _ rfl
    subst ehr5183
    exact JQ.join () ⟨rfl, rfl, hs5182, rfl⟩
  ·rintro _ H3109 f bs gs ⟨rfl, rfl, hs3109, rfl⟩
   have hF := hKr3110
   try dsimp only at hF
   refine JQ.go (JC.seq (JC.region (by rfl) ?_))
   intro hQ
   refine JL.assign .none rfl ?_
   refine JL.done hQ (JQ.go (JC.ret ?_))
   obtain rfl := Option.some.inj hF
   exact JQ.outW rfl (.tmp .nil) ⟨rfl, hs3109, _, _, [], rfl, rfl, (CH.mono R_Place_mono hs3109 c_h), c_tl, (Back.refl _)⟩
end Go.Proofs.Ytflhjlgimihmgaa
end
section
set_option maxRecDepth 100000
set_option maxHeartbeats 40000000
namespace Go.Proofs.Ytflhjlgimihmgaa
open Go Go.RowKit Go.Dec
set_option linter.unusedVariables false
-- 44 ferrule/lays.least
def F_lays_least_s1 (n : Nat) (s : Lap) (taken : List Int) : Int → Option (Int ⊕ ((Int × (List Place)) ⊕ Unit))
 | x_77 => if decide (x_77 < (w64 (s.Length + 1))) = true then ((F_lays_cloth_fill n s x_77 taken ([] : List Place)).bind fun y84 => if y84.1 = true then (some (Sum.inr (Sum.inl (x_77, y84.2.2)))) else (some (Sum.inl (w64 (x_77 + 1))))) else (some (Sum.inr (Sum.inr ())))
def F_lays_least (n : Nat) (s : Lap) (taken : List Int) : Option (Int × (List Place)) :=
 (loopO n (F_lays_least_s1 n s taken) 0).bind fun r48 => match r48 with | .inl o => some o | .inr _ => some ((-1), ([] : List Place))
theorem c_lays_least (n : Nat) (H : Hp) (s : Lap) (s_v2 : Value) (hs_2 : SL H 2 R_Cell s_v2 s.Faults) (s_v3 : Value) (hs_3 : SL H 2 R_Cell s_v3 s.Flaws) (s_v4 : Value) (hs_4 : SL H 1 R_Panel s_v4 s.Panels) (taken : List Int) (taken_l : taken.length = 12) (y : Int × (List Place)) (hF : F_lays_least n s taken = some y) : HC Try.prog 44 [.agg [.int .i64 s.Width, .int .i64 s.Length, s_v2, s_v3, s_v4].toArray, .agg (av .u16 taken).toArray] H (fun H' v => ∃ rb_v0 : Value, v = .tuple [.int .i64 y.1, rb_v0].toArray ∧ SL H' 3 R_Place rb_v0 y.2) := by
 rw [F_lays_least] at hF
 refine HC.of (N := 27) Try.func44 rfl rfl rfl fun w => ?_
 refine JC.seq (JC.region (by rfl) ?_)
 intro hQ
 refine JL.box (cs := [.int .i64 s.Width, .int .i64 s.Length, s_v2, s_v3, s_v4]) rfl .none rfl ?_
 intro b1
 refine JL.box (cs := av .u16 taken) rfl .none rfl ?_
 intro b2
 refine JL.assign .none rfl ?_
 refine JL.assign .none rfl ?_
 refine JL.done hQ (JQ.go (JC.seq (JC.seq (JC.region (by rfl) ?_))))
 intro hQ
 refine JL.fieldAddr fo_25_1 rfl .none rfl ?_
 refine JL.loadOwn 1 az_3 rfl rfl rfl .none rfl ?_
 refine JL.bin rfl rfl rfl .none rfl ?_
 refine JL.move .none rfl ?_
 refine JL.done hQ (JQ.go ?_)
 obtain ⟨r48, hlr48, hKr48⟩ := bind_some hF
 refine JC.join (fun (_ : Unit) H47 f bs gs => bs = [] ∧ gs = [] ∧ HSub H H47 ∧ Sum.inr () = r48) ?_ ?_
 ·skip
  refine JC.block (JC.loop hlr48 (fun (x_77 : Int) H78 f bs gs => f 2 = .pointer (some ⟨b1, 0, none⟩) ∧ f 3 = .pointer (some ⟨b2, 0, none⟩) ∧ f 10 = .int .i64 (w64 (s.Length + 1)) ∧ f 11 = .int .i64 x_77 ∧ bs = [(b2, .cells (av .u16 taken).toArray 85), (b1, .cells [.int .i64 s.Width, .int .i64 s.Length, s_v2, s_v3, s_v4].toArray 25)] ∧ gs = [] ∧ HSub H H78) ⟨rfl, rfl, rfl, rfl, rfl, rfl, (HSub.refl _)⟩ ?_)
  rintro x_77 x80 H78 f bs gs ⟨hf2, hf3, hf10, hf11, rfl, rfl, hs78⟩ hF hr79
  rw [F_lays_least_s1] at hF
  refine (JC.norm (i := 2) hf2 (JC.norm (i := 3) hf3 (JC.norm (i := 10) hf10 (JC.norm (i := 11) hf11 ?_))))
  refine JC.seq (JC.region (by rfl) ?_)
  intro hQ
  refine JL.bin rfl rfl rfl .none rfl ?_
  refine JL.done hQ (JQ.go (JC.seq ?_))
  rcases ite_some hF with ⟨hc81, hF⟩ | ⟨hc81, hF⟩
  ·refine JC.cond_t (b := decide (x_77 < (w64 (s.Length + 1)))) rfl hc81 ?_
   refine JC.skip (JQ.go (JC.seq (JC.block (JC.seq (JC.region (by rfl) ?_)))))
   intro hQ
   refine JL.move .none rfl ?_
   refine JL.assign .none rfl ?_
   refine JL.done hQ (JQ.go (JC.seq (JC.region (by rfl) ?_)))
   intro hQ
   refine JL.loadOwn 1 az_25 rfl rfl rfl .none rfl ?_
   refine JL.move .none rfl ?_
   refine JL.loadArr (l := taken) 0 az_85 rfl rfl taken_l .none rfl ?_
   refine JL.buildAm (kd := .u16) (A := [.int .i64 s.Width, .int .i64 s.Length, s_v2, s_v3, s_v4, .int .i64 x_77]) (v := .slice none 0 0) taken_l rfl (fun t0 t1 t2 t3 t4 t5 t6 t7 t8 t9 t10 t11 => by kernel_rfl) .none rfl ?_
   refine JL.box (cs := ([.int .i64 s.Width, .int .i64 s.Length, s_v2, s_v3, s_v4, .int .i64 x_77] : List Value) ++ (av .u16 taken ++ [.slice none 0 0])) rfl .none rfl ?_
   intro b82
   refine JL.assign .none rfl ?_
   refine JL.done hQ (JQ.go (JC.seq (JC.region (by rfl) ?_)))
   intro hQ
   refine JL.move .none rfl ?_
   refine JL.newNil (e := 62) (sz := 3) ?_
   obtain ⟨y84, hy84, hF⟩ := bind_some hF
   refine JL.callW (fun w hs => c_lays_cloth_fill n H78 s s_v2 (SL.mono R_Cell_mono hs78 hs_2) s_v3 (SL.mono R_Cell_mono hs78 hs_3) s_v4 (SL.mono R_Panel_mono hs78 hs_4) x_77 taken taken_l ([] : List Place) (.slice none 0 0) [] CH.nil b82 _ _ y84 hy84 _ w hs) rfl en_69 .none rfl ?_
   rintro _ H85 _ _ ⟨rfl, hs85, lv86, lx87, gx88, rfl, rfl, hch89, htl90, hbk91⟩
   refine JL.takeG 1 ?_
   refine JL.done hQ (JQ.go (JC.fresh (fun f => f 2 = .pointer (some ⟨b1, 0, none⟩) ∧ f 3 = .pointer (some ⟨b2, 0, none⟩) ∧ f 6 = .int .i64 x_77 ∧ f 7 = .pointer (some ⟨b82, 0, none⟩) ∧ f 10 = .int .i64 (w64 (s.Length + 1)) ∧ f 11 = .int .i64 x_77 ∧ f 20 = .bool y84.1) ⟨rfl, rfl, rfl, rfl, rfl, rfl, rfl⟩ ?_))
   rintro f ⟨hf2, hf3, hf6, hf7, hf10, hf11, hf20⟩
   refine (JC.norm (i := 2) hf2 (JC.norm (i := 3) hf3 (JC.norm (i := 6) hf6 (JC.norm (i := 7) hf7 (JC.norm (i := 10) hf10 (JC.norm (i := 11) hf11 (JC.norm (i := 20) hf20 ?_)))))))
   rcases ite_some hF with ⟨hc92, hF⟩ | ⟨hc92, hF⟩
   ·refine JC.cond_t (b := y84.1) rfl hc92 ?_
    refine JC.seq (JC.draw (by rfl) mo_ (by kernel_rfl) ?_)
    intro hQ
    refine JL.move .none rfl ?_
    refine JL.move .none rfl ?_
    refine JL.nilCheck rfl .none rfl ?_
    refine JL.fieldAddr fo_106_3 rfl .none rfl ?_
    refine JL.loadOwn 0 az_54 rfl rfl (loadw_amb htl90) .none rfl ?_
    refine JL.assign .none rfl ?_
    refine JL.assign .none rfl ?_
    refine JL.doneQ hQ ?_
    refine JQ.go (JC.fresh (fun f => f 4 = .int .i64 x_77 ∧ f 5 = lv86) ⟨rfl, rfl⟩ ?_)
    rintro f ⟨hf4, hf5⟩
    refine (JC.norm (i := 4) hf4 (JC.norm (i := 5) hf5 ?_))
    refine JC.ret (JQ.ret_block (JQ.ret_then (JQ.ret_then (JQ.ret_block (JQ.ret_join (JQ.ret_then ?_))))))
    obtain rfl := Option.some.inj hF
    have ehr79 := hr79 _ rfl
    subst ehr79
    have hF := hKr48
    try dsimp only at hF
    refine JQ.freezeG 0 (R := R_Place) rfl R_Place_mono hch89 rfl ?_
    intro H93 hs93 hg94
    obtain rfl := Option.some.inj hF
    exact JQ.outH rfl (.tmp (.tmp .nil)) ⟨lv86, rfl, hg94⟩
   ·refine JC.cond_f (b := y84.1) rfl hc92 ?_
    refine JC.skip (JQ.normal_block (JQ.go (JC.region (by rfl) ?_)))
    intro hQ
    refine JL.bin rfl rfl rfl .none rfl ?_
    refine JL.move .none rfl ?_
    refine JL.done hQ ?_
    obtain rfl := Option.some.inj hF
    refine JQ.mask [false, true, true] [false] ?_
    exact JQ.next rfl ⟨rfl, rfl, rfl, rfl, rfl, rfl, (HSub.trans hs78 hs85)⟩
  ·refine JC.cond_f (b := decide (x_77 < (w64 (s.Length + 1)))) rfl hc81 ?_
   refine JC.exit (JQ.exit_then (JQ.exit_then (JQ.exit_block ?_)))
   obtain rfl := Option.some.inj hF
   have ehr79 := hr79 _ rfl
   subst ehr79
   refine JQ.mask [false, false] [] ?_
   exact JQ.join () ⟨rfl, rfl, hs78, rfl⟩
 ·rintro _ H47 f bs gs ⟨rfl, rfl, hs47, rfl⟩
  have hF := hKr48
  try dsimp only at hF
  refine JQ.go (JC.seq (JC.region (by rfl) ?_))
  intro hQ
  refine JL.assign .none rfl ?_
  refine JL.assign .none rfl ?_
  refine JL.done hQ (JQ.go (JC.ret ?_))
  obtain rfl := Option.some.inj hF
  exact JQ.outH rfl (.tmp (.tmp .nil)) ⟨(.slice none 0 0), rfl, SL.nil⟩
-- 43 ferrule/lays.sure
def F_lays_sure (n : Nat) (s : Lap) : Option (Int × (List Place) × Int) :=
 (F_lays_Check n s).bind fun y2 => if (y2 != 0) = true then (some (0, ([] : List Place), y2)) else ((F_lays_cellsOf n [s.Faults, s.Flaws]).bind fun y17 => (lenck 12 y17).bind fun u18 => (F_lays_least n s y17).bind fun y19 => if decide (y19.1 < 0) = true then (some (0, ([] : List Place), 3)) else (some (y19.1, y19.2, 0)))
theorem c_lays_sure (n : Nat) (H : Hp) (s : Lap) (s_v2 : Value) (hs_2 : SL H 2 R_Cell s_v2 s.Faults) (s_v3 : Value) (hs_3 : SL H 2 R_Cell s_v3 s.Flaws) (s_v4 : Value) (hs_4 : SL H 1 R_Panel s_v4 s.Panels) (y : Int × (List Place) × Int) (hF : F_lays_sure n s = some y) : HC Try.prog 43 [.agg [.int .i64 s.Width, .int .i64 s.Length, s_v2, s_v3, s_v4].toArray] H (fun H' v => ∃ rb_v0 : Value, v = .tuple [.int .i64 y.1, rb_v0, .int .i64 y.2.2].toArray ∧ SL H' 3 R_Place rb_v0 y.2.1) := by
 rw [F_lays_sure] at hF
 refine HC.of (N := 28) Try.func43 rfl rfl rfl fun w => ?_
 refine JC.seq (JC.region (by rfl) ?_)
 intro hQ
 refine JL.box (cs := [.int .i64 s.Width, .int .i64 s.Length, s_v2, s_v3, s_v4]) rfl .none rfl ?_
 intro b1
 refine JL.assign .none rfl ?_
 refine JL.assign .none rfl ?_
 refine JL.assign .none rfl ?_
 refine JL.done hQ (JQ.go (JC.seq (JC.seq (JC.region (by rfl) ?_))))
 intro hQ
 refine JL.loadOwn 0 az_25 rfl rfl rfl .none rfl ?_
 obtain ⟨y2, hy2, hF⟩ := bind_some hF
 refine JL.callS (c_lays_Check n H s s_v2 hs_2 s_v3 hs_3 s_v4 hs_4 y2 hy2) rfl en_33 .none rfl ?_
 refine JL.assign .none rfl ?_
 refine JL.done hQ (JQ.go (JC.seq (JC.region (by rfl) ?_)))
 intro hQ
 refine JL.move .none rfl ?_
 refine JL.bin rfl rfl rfl .none rfl ?_
 refine JL.done hQ (JQ.go ?_)
 rcases ite_some hF with ⟨hc3, hF⟩ | ⟨hc3, hF⟩
 ·refine JC.cond_t (b := (y2 != 0)) rfl hc3 ?_
  refine JC.seq (JC.region (by rfl) ?_)
  intro hQ
  refine JL.move .none rfl ?_
  refine JL.assign .none rfl ?_
  refine JL.assign .none rfl ?_
  refine JL.assign .none rfl ?_
  refine JL.done hQ (JQ.go (JC.ret (JQ.ret_then ?_)))
  obtain rfl := Option.some.inj hF
  exact JQ.outH rfl (.tmp (.tmp (.tmp .nil))) ⟨(.slice none 0 0), rfl, SL.nil⟩
 ·refine JC.cond_f (b := (y2 != 0)) rfl hc3 ?_
  refine JC.skip (JQ.go (JC.seq ?_))
  obtain ⟨a4, c5, rfl, hh6⟩ := hs_2
  have hs_2 : SL H 2 R_Cell (.slice a4 s.Faults.length c5) s.Faults := ⟨a4, c5, rfl, hh6⟩
  obtain ⟨a7, c8, rfl, hh9⟩ := hs_3
  have hs_3 : SL H 2 R_Cell (.slice a7 s.Flaws.length c8) s.Flaws := ⟨a7, c8, rfl, hh9⟩
  obtain ⟨a10, c11, rfl, hh12⟩ := hs_4
  have hs_4 : SL H 1 R_Panel (.slice a10 s.Panels.length c11) s.Panels := ⟨a10, c11, rfl, hh12⟩
  obtain ⟨y17, hy17, hF⟩ := bind_some hF
  obtain ⟨u18, hu18, hF⟩ := bind_some hF
  obtain ⟨y19, hy19, hF⟩ := bind_some hF
  refine JC.mixed 13 13 #[false, false, false, false, false, false, false, false, false, false, false, false, false] [(b1, .cells [.int .i64 s.Width, .int .i64 s.Length, (.slice a4 s.Faults.length c5), (.slice a7 s.Flaws.length c8), (.slice a10 s.Panels.length c11)].toArray 25)] (by rfl) mo_ (by kernel_rfl) (by kernel_rfl) ?_
  intro hQ hE
  refine JA.take 0 (listed' := #[true, false, false, false, false, false, false, false, false, false, false, false, false]) hQ rfl (by kernel_rfl) (by kernel_rfl) (by kernel_rfl) (by kernel_rfl) (by kernel_rfl) hE (HSub.refl _) (.cons_cons _ (List.nil_sublist _)) ?_
  refine JL.loadOwn 0 az_25 rfl rfl rfl .none rfl ?_
  refine JA.cont ?_
  refine JA.take 1 (listed' := #[true, true, false, false, false, false, false, false, false, false, false, false, false]) hQ rfl (by kernel_rfl) (by kernel_rfl) (by kernel_rfl) (by kernel_rfl) (by kernel_rfl) hE (HSub.refl _) (.cons_cons _ (List.nil_sublist _)) ?_
  refine JL.fieldAddr fo_25_2 rfl .none rfl ?_
  refine JA.cont ?_
  refine JA.take 2 (listed' := #[true, true, true, false, false, false, false, false, false, false, false, false, false]) hQ rfl (by kernel_rfl) (by kernel_rfl) (by kernel_rfl) (by kernel_rfl) (by kernel_rfl) hE (HSub.refl _) (.cons_cons _ (List.nil_sublist _)) ?_
  refine JL.loadOwn 0 az_22 rfl rfl rfl .none rfl ?_
  refine JA.cont ?_
  refine JA.take 3 (listed' := #[true, true, true, true, false, false, false, false, false, false, false, false, false]) hQ rfl (by kernel_rfl) (by kernel_rfl) (by kernel_rfl) (by kernel_rfl) (by kernel_rfl) hE (HSub.refl _) (.cons_cons _ (List.nil_sublist _)) ?_
  refine JL.fieldAddr fo_25_3 rfl .none rfl ?_
  refine JA.cont ?_
  refine JA.take 4 (listed' := #[true, true, true, true, true, false, false, false, false, false, false, false, false]) hQ rfl (by kernel_rfl) (by kernel_rfl) (by kernel_rfl) (by kernel_rfl) (by kernel_rfl) hE (HSub.refl _) (.cons_cons _ (List.nil_sublist _)) ?_
  refine JL.loadOwn 0 az_22 rfl rfl rfl .none rfl ?_
  refine JA.cont ?_
  refine JA.many [5] (by kernel_rfl) (by simp) (all_one ⟨_, #[true, true, true, true, true, true, false, false, false, false, false, false, false], rfl, (by kernel_rfl), ?_⟩)
  refine JL.buildSlice (e := 22) (l := [(.slice a4 s.Faults.length c5), (.slice a7 s.Flaws.length c8)]) (by kernel_rfl) .none rfl ?_
  intro b28
  refine JA.after hE (HSub.refl _) (.cons _ (.cons_cons _ (List.nil_sublist _))) ?_
  refine JA.many [6] (by kernel_rfl) (by simp) (all_one ⟨_, #[true, true, true, true, true, true, true, false, false, false, false, false, false], rfl, (by kernel_rfl), ?_⟩)
  refine JL.freezeC 0 (l := [(.slice a4 s.Faults.length c5), (.slice a7 s.Flaws.length c8)]) rfl ?_
  intro H29 hs29 hc30
  have hg31 : SL H29 1 (RSl 2 R_Cell) (.slice (some ⟨b28, 0, none⟩) 2 2) [s.Faults, s.Flaws] := CH.sl (l := [s.Faults, s.Flaws]) (CH.cons (cs := [(.slice a4 s.Faults.length c5)]) rfl ⟨_, rfl, (SL.mono R_Cell_mono hs29 hs_2)⟩ (CH.cons (cs := [(.slice a7 s.Flaws.length c8)]) rfl ⟨_, rfl, (SL.mono R_Cell_mono hs29 hs_3)⟩ CH.nil)) hc30 ⟨by simp, by simp⟩
  refine JL.callS (c_lays_cellsOf n H29 [s.Faults, s.Flaws] (.slice (some ⟨b28, 0, none⟩) 2 2) hg31 y17 hy17) rfl en_45 .none rfl ?_
  refine JA.after hE hs29 (.cons_cons _ (List.nil_sublist _)) ?_
  refine JA.many [7] (by kernel_rfl) (by simp) (all_one ⟨_, #[true, true, true, true, true, true, true, true, false, false, false, false, false], rfl, (by kernel_rfl), ?_⟩)
  refine JL.callH (c_lays_least n H29 s (.slice a4 s.Faults.length c5) (SL.mono R_Cell_mono hs29 hs_2) (.slice a7 s.Flaws.length c8) (SL.mono R_Cell_mono hs29 hs_3) (.slice a10 s.Panels.length c11) (SL.mono R_Panel_mono hs29 hs_4) y17 (lenck_some hu18) y19 hy19) rfl en_44 .none rfl ?_
  rintro H32 vv33 hs32 ⟨y19b_v0, rfl, hy19b_0⟩
  refine JA.after hE (HSub.trans hs29 hs32) (.cons_cons _ (List.nil_sublist _)) ?_
  refine JA.take 8 (listed' := #[true, true, true, true, true, true, true, true, true, false, false, false, false]) hQ rfl (by kernel_rfl) (by kernel_rfl) (by kernel_rfl) (by kernel_rfl) (by kernel_rfl) hE (HSub.trans hs29 hs32) (.cons_cons _ (List.nil_sublist _)) ?_
  refine JL.move .none rfl ?_
  refine JA.cont ?_
  refine JA.take 9 (listed' := #[true, true, true, true, true, true, true, true, true, true, false, false, false]) hQ rfl (by kernel_rfl) (by kernel_rfl) (by kernel_rfl) (by kernel_rfl) (by kernel_rfl) hE (HSub.trans hs29 hs32) (.cons_cons _ (List.nil_sublist _)) ?_
  refine JL.extract rfl rfl .none rfl ?_
  refine JA.cont ?_
  refine JA.take 10 (listed' := #[true, true, true, true, true, true, true, true, true, true, true, false, false]) hQ rfl (by kernel_rfl) (by kernel_rfl) (by kernel_rfl) (by kernel_rfl) (by kernel_rfl) hE (HSub.trans hs29 hs32) (.cons_cons _ (List.nil_sublist _)) ?_
  refine JL.extract rfl rfl .none rfl ?_
  refine JA.cont ?_
  refine JA.take 11 (listed' := #[true, true, true, true, true, true, true, true, true, true, true, true, false]) hQ rfl (by kernel_rfl) (by kernel_rfl) (by kernel_rfl) (by kernel_rfl) (by kernel_rfl) hE (HSub.trans hs29 hs32) (.cons_cons _ (List.nil_sublist _)) ?_
  refine JL.assign .none rfl ?_
  refine JA.cont ?_
  refine JA.take 12 (listed' := #[true, true, true, true, true, true, true, true, true, true, true, true, true]) hQ rfl (by kernel_rfl) (by kernel_rfl) (by kernel_rfl) (by kernel_rfl) (by kernel_rfl) hE (HSub.trans hs29 hs32) (.cons_cons _ (List.nil_sublist _)) ?_
  refine JL.assign .none rfl ?_
  refine JA.cont ?_
  refine JA.done hQ (by kernel_rfl) ?_
  refine JQ.go (JC.fresh (fun f => f 2 = .int .i64 0 ∧ f 3 = .slice none 0 0 ∧ f 4 = .int .i64 0 ∧ f 6 = .int .i64 y19.1 ∧ f 7 = y19b_v0) ⟨rfl, rfl, rfl, rfl, rfl⟩ ?_)
  rintro f ⟨hf2, hf3, hf4, hf6, hf7⟩
  refine (JC.norm (i := 2) hf2 (JC.norm (i := 3) hf3 (JC.norm (i := 4) hf4 (JC.norm (i := 6) hf6 (JC.norm (i := 7) hf7 ?_)))))
  refine JC.seq (JC.seq (JC.region (by rfl) ?_))
  intro hQ
  refine JL.move .none rfl ?_
  refine JL.bin rfl rfl rfl .none rfl ?_
  refine JL.done hQ (JQ.go ?_)
  rcases ite_some hF with ⟨hc34, hF⟩ | ⟨hc34, hF⟩
  ·refine JC.cond_t (b := decide (y19.1 < 0)) rfl hc34 ?_
   refine JC.seq (JC.region (by rfl) ?_)
   intro hQ
   refine JL.assign .none rfl ?_
   refine JL.assign .none rfl ?_
   refine JL.assign .none rfl ?_
   refine JL.done hQ (JQ.go (JC.ret (JQ.ret_then ?_)))
   obtain rfl := Option.some.inj hF
   exact JQ.outH rfl (.tmp (.tmp (.tmp .nil))) ⟨(.slice none 0 0), rfl, SL.nil⟩
  ·refine JC.cond_f (b := decide (y19.1 < 0)) rfl hc34 ?_
   refine JC.skip (JQ.go (JC.seq (JC.region (by rfl) ?_)))
   intro hQ
   refine JL.move .none rfl ?_
   refine JL.move .none rfl ?_
   refine JL.assign .none rfl ?_
   refine JL.assign .none rfl ?_
   refine JL.assign .none rfl ?_
   refine JL.done hQ (JQ.go (JC.ret ?_))
   obtain rfl := Option.some.inj hF
   exact JQ.outH rfl (.tmp (.tmp (.tmp .nil))) ⟨y19b_v0, rfl, hy19b_0⟩
-- 14 ferrule/lays.Least
def F_lays_Least (n : Nat) (s : Lap) : Option (Int × Int) :=
 (F_lays_sure n s).bind fun y2 => some (y2.1, y2.2.2)
theorem c_lays_Least (n : Nat) (H : Hp) (s : Lap) (s_v2 : Value) (hs_2 : SL H 2 R_Cell s_v2 s.Faults) (s_v3 : Value) (hs_3 : SL H 2 R_Cell s_v3 s.Flaws) (s_v4 : Value) (hs_4 : SL H 1 R_Panel s_v4 s.Panels) (y : Int × Int) (hF : F_lays_Least n s = some y) : SC Try.prog 14 [.agg [.int .i64 s.Width, .int .i64 s.Length, s_v2, s_v3, s_v4].toArray] (.tuple [.int .i64 y.1, .int .i64 y.2].toArray) H := by
 rw [F_lays_Least] at hF
 refine SC.of (N := 15) Try.func14 rfl rfl rfl fun w => ?_
 refine JC.seq (JC.region (by rfl) ?_)
 intro hQ
 refine JL.box (cs := [.int .i64 s.Width, .int .i64 s.Length, s_v2, s_v3, s_v4]) rfl .none rfl ?_
 intro b1
 refine JL.assign .none rfl ?_
 refine JL.assign .none rfl ?_
 refine JL.done hQ (JQ.go (JC.seq (JC.region (by rfl) ?_)))
 intro hQ
 refine JL.loadOwn 0 az_25 rfl rfl rfl .none rfl ?_
 obtain ⟨y2, hy2, hF⟩ := bind_some hF
 refine JL.callH (c_lays_sure n H s s_v2 hs_2 s_v3 hs_3 s_v4 hs_4 y2 hy2) rfl en_43 .none rfl ?_
 rintro H3 vv4 hs3 ⟨y2b_v0, rfl, hy2b_0⟩
 refine JL.move .none rfl ?_
 refine JL.extract rfl rfl .none rfl ?_
 refine JL.extract rfl rfl .none rfl ?_
 refine JL.extract rfl rfl .none rfl ?_
 refine JL.assign .none rfl ?_
 refine JL.assign .none rfl ?_
 refine JL.assign .none rfl ?_
 refine JL.done hQ (JQ.go (JC.seq (JC.region (by rfl) ?_)))
 intro hQ
 refine JL.move .none rfl ?_
 refine JL.move .none rfl ?_
 refine JL.assign .none rfl ?_
 refine JL.assign .none rfl ?_
 refine JL.done hQ (JQ.go (JC.fresh (fun f => f 2 = .int .i64 y2.1 ∧ f 3 = .int .i64 y2.2.2) ⟨rfl, rfl⟩ ?_))
 rintro f ⟨hf2, hf3⟩
 refine (JC.norm (i := 2) hf2 (JC.norm (i := 3) hf3 ?_))
 refine JC.ret ?_
 obtain rfl := Option.some.inj hF
 exact JQ.outS rfl (.tmp (.tmp .nil)) rfl
-- 17 ferrule/lays.Hopes
def F_lays_Hopes (n : Nat) (s : Lap) : Option (Int × Int) :=
 (F_lays_Check n s).bind fun y2 => if (y2 != 0) = true then (some (0, y2)) else ((F_lays_cellsOf n [s.Faults]).bind fun y17 => (lenck 12 y17).bind fun u18 => (F_lays_least n s y17).bind fun y19 => if decide (y19.1 < 0) = true then (some (0, 3)) else (some (y19.1, 0)))
theorem c_lays_Hopes (n : Nat) (H : Hp) (s : Lap) (s_v2 : Value) (hs_2 : SL H 2 R_Cell s_v2 s.Faults) (s_v3 : Value) (hs_3 : SL H 2 R_Cell s_v3 s.Flaws) (s_v4 : Value) (hs_4 : SL H 1 R_Panel s_v4 s.Panels) (y : Int × Int) (hF : F_lays_Hopes n s = some y) : SC Try.prog 17 [.agg [.int .i64 s.Width, .int .i64 s.Length, s_v2, s_v3, s_v4].toArray] (.tuple [.int .i64 y.1, .int .i64 y.2].toArray) H := by
 rw [F_lays_Hopes] at hF
 refine SC.of (N := 24) Try.func17 rfl rfl rfl fun w => ?_
 refine JC.seq (JC.region (by rfl) ?_)
 intro hQ
 refine JL.box (cs := [.int .i64 s.Width, .int .i64 s.Length, s_v2, s_v3, s_v4]) rfl .none rfl ?_
 intro b1
 refine JL.assign .none rfl ?_
 refine JL.assign .none rfl ?_
 refine JL.done hQ (JQ.go (JC.seq (JC.seq (JC.region (by rfl) ?_))))
 intro hQ
 refine JL.loadOwn 0 az_25 rfl rfl rfl .none rfl ?_
 obtain ⟨y2, hy2, hF⟩ := bind_some hF
 refine JL.callS (c_lays_Check n H s s_v2 hs_2 s_v3 hs_3 s_v4 hs_4 y2 hy2) rfl en_33 .none rfl ?_
 refine JL.assign .none rfl ?_
 refine JL.done hQ (JQ.go (JC.seq (JC.region (by rfl) ?_)))
 intro hQ
 refine JL.move .none rfl ?_
 refine JL.bin rfl rfl rfl .none rfl ?_
 refine JL.done hQ (JQ.go ?_)
 rcases ite_some hF with ⟨hc3, hF⟩ | ⟨hc3, hF⟩
 ·refine JC.cond_t (b := (y2 != 0)) rfl hc3 ?_
  refine JC.seq (JC.region (by rfl) ?_)
  intro hQ
  refine JL.move .none rfl ?_
  refine JL.assign .none rfl ?_
  refine JL.assign .none rfl ?_
  refine JL.done hQ (JQ.go (JC.ret (JQ.ret_then ?_)))
  obtain rfl := Option.some.inj hF
  exact JQ.outS rfl (.tmp (.tmp .nil)) rfl
 ·refine JC.cond_f (b := (y2 != 0)) rfl hc3 ?_
  refine JC.skip (JQ.go (JC.seq ?_))
  obtain ⟨a4, c5, rfl, hh6⟩ := hs_2
  have hs_2 : SL H 2 R_Cell (.slice a4 s.Faults.length c5) s.Faults := ⟨a4, c5, rfl, hh6⟩
  obtain ⟨a7, c8, rfl, hh9⟩ := hs_3
  have hs_3 : SL H 2 R_Cell (.slice a7 s.Flaws.length c8) s.Flaws := ⟨a7, c8, rfl, hh9⟩
  obtain ⟨a10, c11, rfl, hh12⟩ := hs_4
  have hs_4 : SL H 1 R_Panel (.slice a10 s.Panels.length c11) s.Panels := ⟨a10, c11, rfl, hh12⟩
  obtain ⟨y17, hy17, hF⟩ := bind_some hF
  obtain ⟨u18, hu18, hF⟩ := bind_some hF
  obtain ⟨y19, hy19, hF⟩ := bind_some hF
  refine JC.mixed 11 11 #[false, false, false, false, false, false, false, false, false, false, false] [(b1, .cells [.int .i64 s.Width, .int .i64 s.Length, (.slice a4 s.Faults.length c5), (.slice a7 s.Flaws.length c8), (.slice a10 s.Panels.length c11)].toArray 25)] (by rfl) mo_ (by kernel_rfl) (by kernel_rfl) ?_
  intro hQ hE
  refine JA.take 0 (listed' := #[true, false, false, false, false, false, false, false, false, false, false]) hQ rfl (by kernel_rfl) (by kernel_rfl) (by kernel_rfl) (by kernel_rfl) (by kernel_rfl) hE (HSub.refl _) (.cons_cons _ (List.nil_sublist _)) ?_
  refine JL.loadOwn 0 az_25 rfl rfl rfl .none rfl ?_
  refine JA.cont ?_
  refine JA.take 1 (listed' := #[true, true, false, false, false, false, false, false, false, false, false]) hQ rfl (by kernel_rfl) (by kernel_rfl) (by kernel_rfl) (by kernel_rfl) (by kernel_rfl) hE (HSub.refl _) (.cons_cons _ (List.nil_sublist _)) ?_
  refine JL.fieldAddr fo_25_2 rfl .none rfl ?_
  refine JA.cont ?_
  refine JA.take 2 (listed' := #[true, true, true, false, false, false, false, false, false, false, false]) hQ rfl (by kernel_rfl) (by kernel_rfl) (by kernel_rfl) (by kernel_rfl) (by kernel_rfl) hE (HSub.refl _) (.cons_cons _ (List.nil_sublist _)) ?_
  refine JL.loadOwn 0 az_22 rfl rfl rfl .none rfl ?_
  refine JA.cont ?_
  refine JA.many [3] (by kernel_rfl) (by simp) (all_one ⟨_, #[true, true, true, true, false, false, false, false, false, false, false], rfl, (by kernel_rfl), ?_⟩)
  refine JL.buildSlice (e := 22) (l := [(.slice a4 s.Faults.length c5)]) (by kernel_rfl) .none rfl ?_
  intro b28
  refine JA.after hE (HSub.refl _) (.cons _ (.cons_cons _ (List.nil_sublist _))) ?_
  refine JA.many [4] (by kernel_rfl) (by simp) (all_one ⟨_, #[true, true, true, true, true, false, false, false, false, false, false], rfl, (by kernel_rfl), ?_⟩)
  refine JL.freezeC 0 (l := [(.slice a4 s.Faults.length c5)]) rfl ?_
  intro H29 hs29 hc30
  have hg31 : SL H29 1 (RSl 2 R_Cell) (.slice (some ⟨b28, 0, none⟩) 1 1) [s.Faults] := CH.sl (l := [s.Faults]) (CH.cons (cs := [(.slice a4 s.Faults.length c5)]) rfl ⟨_, rfl, (SL.mono R_Cell_mono hs29 hs_2)⟩ CH.nil) hc30 ⟨by simp, by simp⟩
  refine JL.callS (c_lays_cellsOf n H29 [s.Faults] (.slice (some ⟨b28, 0, none⟩) 1 1) hg31 y17 hy17) rfl en_45 .none rfl ?_
  refine JA.after hE hs29 (.cons_cons _ (List.nil_sublist _)) ?_
  refine JA.many [5] (by kernel_rfl) (by simp) (all_one ⟨_, #[true, true, true, true, true, true, false, false, false, false, false], rfl, (by kernel_rfl), ?_⟩)
  refine JL.callH (c_lays_least n H29 s (.slice a4 s.Faults.length c5) (SL.mono R_Cell_mono hs29 hs_2) (.slice a7 s.Flaws.length c8) (SL.mono R_Cell_mono hs29 hs_3) (.slice a10 s.Panels.length c11) (SL.mono R_Panel_mono hs29 hs_4) y17 (lenck_some hu18) y19 hy19) rfl en_44 .none rfl ?_
  rintro H32 vv33 hs32 ⟨y19b_v0, rfl, hy19b_0⟩
  refine JA.after hE (HSub.trans hs29 hs32) (.cons_cons _ (List.nil_sublist _)) ?_
  refine JA.take 6 (listed' := #[true, true, true, true, true, true, true, false, false, false, false]) hQ rfl (by kernel_rfl) (by kernel_rfl) (by kernel_rfl) (by kernel_rfl) (by kernel_rfl) hE (HSub.trans hs29 hs32) (.cons_cons _ (List.nil_sublist _)) ?_
  refine JL.move .none rfl ?_
  refine JA.cont ?_
  refine JA.take 7 (listed' := #[true, true, true, true, true, true, true, true, false, false, false]) hQ rfl (by kernel_rfl) (by kernel_rfl) (by kernel_rfl) (by kernel_rfl) (by kernel_rfl) hE (HSub.trans hs29 hs32) (.cons_cons _ (List.nil_sublist _)) ?_
  refine JL.extract rfl rfl .none rfl ?_
  refine JA.cont ?_
  refine JA.take 8 (listed' := #[true, true, true, true, true, true, true, true, true, false, false]) hQ rfl (by kernel_rfl) (by kernel_rfl) (by kernel_rfl) (by kernel_rfl) (by kernel_rfl) hE (HSub.trans hs29 hs32) (.cons_cons _ (List.nil_sublist _)) ?_
  refine JL.extract rfl rfl .none rfl ?_
  refine JA.cont ?_
  refine JA.take 9 (listed' := #[true, true, true, true, true, true, true, true, true, true, false]) hQ rfl (by kernel_rfl) (by kernel_rfl) (by kernel_rfl) (by kernel_rfl) (by kernel_rfl) hE (HSub.trans hs29 hs32) (.cons_cons _ (List.nil_sublist _)) ?_
  refine JL.assign .none rfl ?_
  refine JA.cont ?_
  refine JA.take 10 (listed' := #[true, true, true, true, true, true, true, true, true, true, true]) hQ rfl (by kernel_rfl) (by kernel_rfl) (by kernel_rfl) (by kernel_rfl) (by kernel_rfl) hE (HSub.trans hs29 hs32) (.cons_cons _ (List.nil_sublist _)) ?_
  refine JL.assign .none rfl ?_
  refine JA.cont ?_
  refine JA.done hQ (by kernel_rfl) ?_
  refine JQ.go (JC.fresh (fun f => f 2 = .int .i64 0 ∧ f 3 = .int .i64 0 ∧ f 5 = .int .i64 y19.1) ⟨rfl, rfl, rfl⟩ ?_)
  rintro f ⟨hf2, hf3, hf5⟩
  refine (JC.norm (i := 2) hf2 (JC.norm (i := 3) hf3 (JC.norm (i := 5) hf5 ?_)))
  refine JC.seq (JC.seq (JC.region (by rfl) ?_))
  intro hQ
  refine JL.move .none rfl ?_
  refine JL.bin rfl rfl rfl .none rfl ?_
  refine JL.done hQ (JQ.go ?_)
  rcases ite_some hF with ⟨hc34, hF⟩ | ⟨hc34, hF⟩
  ·refine JC.cond_t (b := decide (y19.1 < 0)) rfl hc34 ?_
   refine JC.seq (JC.region (by rfl) ?_)
   intro hQ
   refine JL.assign .none rfl ?_
   refine JL.assign .none rfl ?_
   refine JL.done hQ (JQ.go (JC.ret (JQ.ret_then ?_)))
   obtain rfl := Option.some.inj hF
   exact JQ.outS rfl (.tmp (.tmp .nil)) rfl
  ·refine JC.cond_f (b := decide (y19.1 < 0)) rfl hc34 ?_
   refine JC.skip (JQ.go (JC.seq (JC.region (by rfl) ?_)))
   intro hQ
   refine JL.move .none rfl ?_
   refine JL.assign .none rfl ?_
   refine JL.assign .none rfl ?_
   refine JL.done hQ (JQ.go (JC.ret ?_))
   obtain rfl := Option.some.inj hF
   exact JQ.outS rfl (.tmp (.tmp .nil)) rfl
-- 47 slices.Clone[[]ferrule/api.Cell,ferrule/api.Cell]
def F_slices_Clone___api_Cell_api_Cell_ (n : Nat) (s : List Cell) : Option (List Cell) := lim s
theorem c_slices_Clone___api_Cell_api_Cell_ (n : Nat) (H : Hp) (s : List Cell) (s_v0 : Value) (hs_0 : SL H 2 R_Cell s_v0 s) (y : List Cell) (hF : F_slices_Clone___api_Cell_api_Cell_ n s = some y) : OC Try.prog 47 [s_v0] H 27 2 (fun m xs => m = y.length ∧ CH H 2 R_Cell xs y) := by
 rw [F_slices_Clone___api_Cell_api_Cell_] at hF
 have hl : lim (([] : List Cell) ++ s) = some y := by rw [List.nil_append]; exact hF
 obtain ⟨rfl, _⟩ := lim_some hF
 obtain ⟨a, c, rfl, hh⟩ := id hs_0
 refine OC.of (N := 8) Try.func47 rfl rfl rfl fun w => ?_
 refine JC.seq (JC.region (by rfl) ?_)
 intro hQ
 refine JL.assign .none rfl ?_
 refine JL.done hQ (JQ.go (JC.seq (JC.seq (JC.region (by rfl) ?_))))
 intro hQ
 refine JL.move .none rfl ?_
 refine JL.eqNil ul_22 rfl rfl .none rfl ?_
 refine JL.done hQ (JQ.go ?_)
 cases a with
 | none =>
  have hnil : y = [] := by
   rcases hh.2 with h | ⟨b, o, h, _⟩
   ·exact h
   ·cases h
  subst hnil
  refine JC.cond_t (b := true) rfl rfl ?_
  refine JC.seq (JC.region (by rfl) ?_)
  intro hQ
  refine JL.assign .none rfl ?_
  refine JL.newNil (e := 27) (sz := 2) ?_
  exact JL.done hQ (JQ.go (JC.ret (JQ.ret_then (JQ.outO 0 rfl rfl rfl ⟨rfl, rfl⟩ ⟨rfl, CH.nil⟩))))
 | some ad =>
  refine JC.cond_f (b := false) rfl rfl ?_
  refine JC.skip (JQ.go (JC.seq (JC.region (by rfl) ?_)))
  intro hQ
  refine JL.emptySlice ap_22 .none rfl ?_
  intro v1
  refine JL.move .none rfl ?_
  refine JL.appD (R := R_Cell) 0 (l := ([] : List Cell)) (m := y) ap_22 rfl ⟨rfl, rfl⟩ rfl CH.nil rfl hs_0 (R_Cell_one _) hl .none rfl ?_
  intro v4 xs5 hch6
  refine JL.assign .none rfl ?_
  exact JL.done hQ (JQ.go (JC.ret (JQ.outO 0 rfl rfl rfl ⟨rfl, rfl⟩ ⟨rfl, hch6⟩)))
-- 18 ferrule/lays.Matters
def F_lays_Matters_s1 (n : Nat) (s : Lap) (y2 : Int × Int) : Int × List Int → Option ((Int × List Int) ⊕ (List Int))
 | (x_510, out_511) => if decide (x_510 < (s.Flaws.length : Int)) = true then ((F_slices_Clone___api_Cell_api_Cell_ n s.Flaws).bind fun y516 => (delck y516 x_510 (w64 (x_510 + 1))).bind fun y521 => (F_lays_cellsOf n [s.Faults, y521]).bind fun y544 => (lenck 12 y544).bind fun u545 => (F_lays_least n s y544).bind fun y546 => (if ((decide (0 ≤ y546.1)) && ((y2.2 != 0) || (decide (y546.1 < y2.1)))) = true then ((lim (out_511 ++ [x_510])).bind fun l590 => some l590) else (some out_511)).bind fun out_585 => some (Sum.inl ((w64 (x_510 + 1)), out_585))) else (some (Sum.inr out_511))
def F_lays_Matters (n : Nat) (s : Lap) : Option ((List Int) × Int) :=
 (F_lays_Least n s).bind fun y2 => if ((y2.2 != 0) && (y2.2 != 3)) = true then (some (([] : List Int), y2.2)) else ((loopO n (F_lays_Matters_s1 n s y2) (0, ([] : List Int))).bind fun out_343 => some (out_343, 0))
theorem c_lays_Matters (n : Nat) (H : Hp) (s : Lap) (s_v2 : Value) (hs_2 : SL H 2 R_Cell s_v2 s.Faults) (s_v3 : Value) (hs_3 : SL H 2 R_Cell s_v3 s.Flaws) (s_v4 : Value) (hs_4 : SL H 1 R_Panel s_v4 s.Panels) (y : (List Int) × Int) (hF : F_lays_Matters n s = some y) : HC Try.prog 18 [.agg [.int .i64 s.Width, .int .i64 s.Length, s_v2, s_v3, s_v4].toArray] H (fun H' v => ∃ ra_v0 : Value, v = .tuple [ra_v0, .int .i64 y.2].toArray ∧ SL H' 1 RInt ra_v0 y.1) := by
 rw [F_lays_Matters] at hF
 refine HC.of (N := 63) Try.func18 rfl rfl rfl fun w => ?_
 refine JC.seq (JC.region (by rfl) ?_)
 intro hQ
 refine JL.box (cs := [.int .i64 s.Width, .int .i64 s.Length, s_v2, s_v3, s_v4]) rfl .none rfl ?_
 intro b1
 refine JL.assign .none rfl ?_
 refine JL.assign .none rfl ?_
 refine JL.done hQ (JQ.go (JC.seq (JC.region (by rfl) ?_)))
 intro hQ
 refine JL.loadOwn 0 az_25 rfl rfl rfl .none rfl ?_
 obtain ⟨y2, hy2, hF⟩ := bind_some hF
 refine JL.callS (c_lays_Least n H s s_v2 hs_2 s_v3 hs_3 s_v4 hs_4 y2 hy2) rfl en_14 .none rfl ?_
 refine JL.move .none rfl ?_
 refine JL.extract rfl rfl .none rfl ?_
 refine JL.extract rfl rfl .none rfl ?_
 refine JL.assign .none rfl ?_
 refine JL.assign .none rfl ?_
 refine JL.done hQ (JQ.go (JC.seq (JC.seq (JC.region (by rfl) ?_))))
 intro hQ
 refine JL.move .none rfl ?_
 refine JL.bin rfl rfl rfl .none rfl ?_
 refine JL.move .none rfl ?_
 refine JL.cut 3 (fun f => f 1 = .pointer (some ⟨b1, 0, none⟩) ∧ f 4 = .int .i64 y2.1 ∧ f 5 = .int .i64 y2.2 ∧ f 21 = .bool ((y2.2 != 0) && (y2.2 != 3))) ?_ ?_
 ·intro hJ3
  rcases bcases (y2.2 != 0) with hc4 | hc4
  ·skip
   refine JL.move (.some rfl rfl rfl hc4) rfl ?_
   refine JL.bin rfl rfl rfl (.some rfl rfl rfl hc4) rfl ?_
   refine JL.pick_t (b := (y2.2 != 0)) rfl hc4 .none rfl ?_
   exact hJ3 _ ⟨rfl, rfl, rfl, and_t hc4 rfl⟩
  ·skip
   refine JL.skip (.bool rfl rfl rfl hc4) rfl ?_
   refine JL.skip (.bool rfl rfl rfl hc4) rfl ?_
   refine JL.pick_f (b := (y2.2 != 0)) rfl hc4 .none rfl ?_
   exact hJ3 _ ⟨rfl, rfl, rfl, and_f hc4 rfl⟩
 ·rintro f ⟨hf1, hf4, hf5, hf21⟩
  refine (JL.norm (i := 1) hf1 (JL.norm (i := 4) hf4 (JL.norm (i := 5) hf5 (JL.norm (i := 21) hf21 ?_))))
  refine JL.done hQ (JQ.go ?_)
  rcases ite_some hF with ⟨hc5, hF⟩ | ⟨hc5, hF⟩
  ·refine JC.cond_t (b := ((y2.2 != 0) && (y2.2 != 3))) rfl hc5 ?_
   refine JC.seq (JC.region (by rfl) ?_)
   intro hQ
   refine JL.move .none rfl ?_
   refine JL.assign .none rfl ?_
   refine JL.assign .none rfl ?_
   refine JL.done hQ (JQ.go (JC.ret (JQ.ret_then ?_)))
   obtain rfl := Option.some.inj hF
   exact JQ.outH rfl (.tmp (.tmp .nil)) ⟨(.slice none 0 0), rfl, SL.nil⟩
  ·refine JC.cond_f (b := ((y2.2 != 0) && (y2.2 != 3))) rfl hc5 ?_
   refine JC.skip (JQ.go (JC.seq (JC.region (by rfl) ?_)))
   intro hQ
   refine JL.assign .none rfl ?_
   refine JL.done hQ (JQ.go (JC.seq (JC.seq (JC.region (by rfl) ?_))))
   intro hQ
   refine JL.fieldAddr fo_25_3 rfl .none rfl ?_
   refine JL.loadOwn 0 az_22 rfl rfl rfl .none rfl ?_
   refine JL.lenSL (R := R_Cell) ul_22 hs_3 .none rfl ?_
   refine JL.move .none rfl ?_
   refine JL.done hQ (JQ.go (JC.newNil (e := 3) (sz := 1) ?_))
   obtain ⟨r345, hlr345, hKr345⟩ := bind_some hF
   refine JC.join (fun (out_343 : List Int) H344 f bs gs => ∃ (vout_343 : Value) (xsout_343 : List Value), f 6 = vout_343 ∧ bs = [] ∧ gs = [⟨vout_343, 3, 1, out_343.length, xsout_343⟩] ∧ CH H344 1 RInt xsout_343 out_343 ∧ HSub H H344 ∧ out_343 = r345) ?_ ?_
   ·skip
    refine JC.block (JC.loop hlr345 (fun (x : Int × List Int) H512 f bs gs => match x with | (x_510, out_511) => ∃ (vout_511 : Value) (xsout_511 : List Value), f 1 = .pointer (some ⟨b1, 0, none⟩) ∧ f 4 = .int .i64 y2.1 ∧ f 5 = .int .i64 y2.2 ∧ f 6 = vout_511 ∧ f 25 = .int .i64 (s.Flaws.length : Int) ∧ f 26 = .int .i64 x_510 ∧ bs = [(b1, .cells [.int .i64 s.Width, .int .i64 s.Length, s_v2, s_v3, s_v4].toArray 25)] ∧ gs = [⟨vout_511, 3, 1, out_511.length, xsout_511⟩] ∧ CH H512 1 RInt xsout_511 out_511 ∧ HSub H H512) ⟨(.slice none 0 0), [], rfl, rfl, rfl, rfl, rfl, rfl, rfl, rfl, CH.nil, (HSub.refl _)⟩ ?_)
    rintro ⟨x_510, out_511⟩ x514 H512 f bs gs ⟨vout_511, xsout_511, hf1, hf4, hf5, hf6, hf25, hf26, rfl, rfl, hout_511, hs512⟩ hF hr513
    rw [F_lays_Matters_s1] at hF
    refine (JC.norm (i := 1) hf1 (JC.norm (i := 4) hf4 (JC.norm (i := 5) hf5 (JC.norm (i := 6) hf6 (JC.norm (i := 25) hf25 (JC.norm (i := 26) hf26 ?_))))))
    refine JC.seq (JC.region (by rfl) ?_)
    intro hQ
    refine JL.bin rfl rfl rfl .none rfl ?_
    refine JL.done hQ (JQ.go (JC.seq ?_))
    rcases ite_some hF with ⟨hc515, hF⟩ | ⟨hc515, hF⟩
    ·refine JC.cond_t (b := decide (x_510 < (s.Flaws.length : Int))) rfl hc515 ?_
     refine JC.skip (JQ.go (JC.seq (JC.block (JC.seq (JC.region (by rfl) ?_)))))
     intro hQ
     refine JL.move .none rfl ?_
     refine JL.assign .none rfl ?_
     refine JL.done hQ (JQ.go (JC.seq (JC.region (by rfl) ?_)))
     intro hQ
     refine JL.fieldAddr fo_25_3 rfl .none rfl ?_
     refine JL.loadOwn 0 az_22 rfl rfl rfl .none rfl ?_
     obtain ⟨y516, hy516, hF⟩ := bind_some hF
     refine JL.callO (c_slices_Clone___api_Cell_api_Cell_ n H512 s.Flaws s_v3 (SL.mono R_Cell_mono hs512 hs_3) y516 hy516) rfl en_47 .none rfl ?_
     rintro v517 _ xs518 ⟨rfl, hch519⟩
     refine JL.move .none rfl ?_
     refine JL.move .none rfl ?_
     refine JL.bin rfl rfl rfl .none rfl ?_
     obtain ⟨y521, hy521, hF⟩ := bind_some hF
     refine JL.callW (fun w hs => c_Delete H512 y516 v517 xs518 hch519 x_510 (w64 (x_510 + 1)) y521 hy521 hs) rfl en_46 .none rfl ?_
     rintro v522 _ _ _ ⟨rfl, rfl, xs523, rfl, hch524⟩
     refine JL.assign .none rfl ?_
     refine JL.done hQ (JQ.go (JC.fresh (fun f => f 1 = .pointer (some ⟨b1, 0, none⟩) ∧ f 4 = .int .i64 y2.1 ∧ f 5 = .int .i64 y2.2 ∧ f 6 = vout_511 ∧ f 7 = .int .i64 x_510 ∧ f 8 = v522 ∧ f 25 = .int .i64 (s.Flaws.length : Int) ∧ f 26 = .int .i64 x_510) ⟨rfl, rfl, rfl, rfl, rfl, rfl, rfl, rfl⟩ ?_))
     rintro f ⟨hf1, hf4, hf5, hf6, hf7, hf8, hf25, hf26⟩
     refine (JC.norm (i := 1) hf1 (JC.norm (i := 4) hf4 (JC.norm (i := 5) hf5 (JC.norm (i := 6) hf6 (JC.norm (i := 7) hf7 (JC.norm (i := 8) hf8 (JC.norm (i := 25) hf25 (JC.norm (i := 26) hf26 ?_))))))))
     refine JC.seq ?_
     obtain ⟨a525, c526, rfl, hh527⟩ := hs_2
     have hs_2 : SL H 2 R_Cell (.slice a525 s.Faults.length c526) s.Faults := ⟨a525, c526, rfl, hh527⟩
     obtain ⟨a528, c529, rfl, hh530⟩ := hs_3
     have hs_3 : SL H 2 R_Cell (.slice a528 s.Flaws.length c529) s.Flaws := ⟨a528, c529, rfl, hh530⟩
     obtain ⟨a531, c532, rfl, hh533⟩ := hs_4
     have hs_4 : SL H 1 R_Panel (.slice a531 s.Panels.length c532) s.Panels := ⟨a531, c532, rfl, hh533⟩
     obtain ⟨y544, hy544, hF⟩ := bind_some hF
     obtain ⟨u545, hu545, hF⟩ := bind_some hF
     obtain ⟨y546, hy546, hF⟩ := bind_some hF
     refine JC.mixed 12 12 #[false, false, false, false, false, false, false, false, false, false, false, false] [(b1, .cells [.int .i64 s.Width, .int .i64 s.Length, (.slice a525 s.Faults.length c526), (.slice a528 s.Flaws.length c529), (.slice a531 s.Panels.length c532)].toArray 25)] (by rfl) mo_ (by kernel_rfl) (by kernel_rfl) ?_
     intro hQ hE
     refine JA.take 0 (listed' := #[true, false, false, false, false, false, false, false, false, false, false, false]) hQ rfl (by kernel_rfl) (by kernel_rfl) (by kernel_rfl) (by kernel_rfl) (by kernel_rfl) hE (HSub.refl _) (.cons_cons _ (List.nil_sublist _)) ?_
     refine JL.loadOwn 0 az_25 rfl rfl rfl .none rfl ?_
     refine JA.cont ?_
     refine JA.take 1 (listed' := #[true, true, false, false, false, false, false, false, false, false, false, false]) hQ rfl (by kernel_rfl) (by kernel_rfl) (by kernel_rfl) (by kernel_rfl) (by kernel_rfl) hE (HSub.refl _) (.cons_cons _ (List.nil_sublist _)) ?_
     refine JL.fieldAddr fo_25_2 rfl .none rfl ?_
     refine JA.cont ?_
     refine JA.take 2 (listed' := #[true, true, true, false, false, false, false, false, false, false, false, false]) hQ rfl (by kernel_rfl) (by kernel_rfl) (by kernel_rfl) (by kernel_rfl) (by kernel_rfl) hE (HSub.refl _) (.cons_cons _ (List.nil_sublist _)) ?_
     refine JL.loadOwn 0 az_22 rfl rfl rfl .none rfl ?_
     refine JA.cont ?_
     refine JA.take 3 (listed' := #[true, true, true, true, false, false, false, false, false, false, false, false]) hQ rfl (by kernel_rfl) (by kernel_rfl) (by kernel_rfl) (by kernel_rfl) (by kernel_rfl) hE (HSub.refl _) (.cons_cons _ (List.nil_sublist _)) ?_
     refine JL.move .none rfl ?_
     refine JA.cont ?_
     refine JA.many [4] (by kernel_rfl) (by simp) (all_one ⟨_, #[true, true, true, true, true, false, false, false, false, false, false, false], rfl, (by kernel_rfl), ?_⟩)
     refine JL.formG 0 rfl (fun a561 n562 c563 hh564 => ?_)
     dsimp only at hh564
     subst hh564
     refine JL.buildSlice (e := 22) (l := [(.slice a525 s.Faults.length c526), (.slice a561 n562 c563)]) (by kernel_rfl) .none rfl ?_
     intro b565
     refine JA.after hE (HSub.refl _) (.cons _ (.cons_cons _ (List.nil_sublist _))) ?_
     refine JA.many [5] (by kernel_rfl) (by simp) (all_one ⟨_, #[true, true, true, true, true, true, false, false, false, false, false, false], rfl, (by kernel_rfl), ?_⟩)
     refine JL.freezeG 0 (R := R_Cell) rfl R_Cell_mono hch524 rfl ?_
     intro H566 hs566 hg567
     refine JL.freezeC 0 (l := [(.slice a525 s.Faults.length c526), (.slice a561 n562 c563)]) rfl ?_
     intro H568 hs568 hc569
     have hg570 : SL H568 1 (RSl 2 R_Cell) (.slice (some ⟨b565, 0, none⟩) 2 2) [s.Faults, y521] := CH.sl (l := [s.Faults, y521]) (CH.cons (cs := [(.slice a525 s.Faults.length c526)]) rfl ⟨_, rfl, (SL.mono R_Cell_mono (HSub.trans hs512 (HSub.trans hs566 hs568)) hs_2)⟩ (CH.cons (cs := [(.slice a561 n562 c563)]) rfl ⟨_, rfl, (SL.mono R_Cell_mono hs568 hg567)⟩ CH.nil)) hc569 ⟨by simp, by simp⟩
     refine JL.callS (c_lays_cellsOf n H568 [s.Faults, y521] (.slice (some ⟨b565, 0, none⟩) 2 2) hg570 y544 hy544) rfl en_45 .none rfl ?_
     refine JA.after hE (HSub.trans hs566 hs568) (.cons_cons _ (List.nil_sublist _)) ?_
     refine JA.many [6] (by kernel_rfl) (by simp) (all_one ⟨_, #[true, true, true, true, true, true, true, false, false, false, false, false], rfl, (by kernel_rfl), ?_⟩)
     refine JL.callH (c_lays_least n H568 s (.slice a525 s.Faults.length c526) (SL.mono R_Cell_mono (HSub.trans hs512 (HSub.trans hs566 hs568)) hs_2) (.slice a528 s.Flaws.length c529) (SL.mono R_Cell_mono (HSub.trans hs512 (HSub.trans hs566 hs568)) hs_3) (.slice a531 s.Panels.length c532) (SL.mono R_Panel_mono (HSub.trans hs512 (HSub.trans hs566 hs568)) hs_4) y544 (lenck_some hu545) y546 hy546) rfl en_44 .none rfl ?_
     rintro H571 vv572 hs571 ⟨y546b_v0, rfl, hy546b_0⟩
     refine JA.after hE (HSub.trans hs566 (HSub.trans hs568 hs571)) (.cons_cons _ (List.nil_sublist _)) ?_
     refine JA.take 7 (listed' := #[true, true, true, true, true, true, true, true, false, false, false, false]) hQ rfl (by kernel_rfl) (by kernel_rfl) (by kernel_rfl) (by kernel_rfl) (by kernel_rfl) hE (HSub.trans hs566 (HSub.trans hs568 hs571)) (.cons_cons _ (List.nil_sublist _)) ?_
     refine JL.move .none rfl ?_
     refine JA.cont ?_
     refine JA.take 8 (listed' := #[true, true, true, true, true, true, true, true, true, false, false, false]) hQ rfl (by kernel_rfl) (by kernel_rfl) (by kernel_rfl) (by kernel_rfl) (by kernel_rfl) hE (HSub.trans hs566 (HSub.trans hs568 hs571)) (.cons_cons _ (List.nil_sublist _)) ?_
     refine JL.extract rfl rfl .none rfl ?_
     refine JA.cont ?_
     refine JA.take 9 (listed' := #[true, true, true, true, true, true, true, true, true, true, false, false]) hQ rfl (by kernel_rfl) (by kernel_rfl) (by kernel_rfl) (by kernel_rfl) (by kernel_rfl) hE (HSub.trans hs566 (HSub.trans hs568 hs571)) (.cons_cons _ (List.nil_sublist _)) ?_
     refine JL.extract rfl rfl .none rfl ?_
     refine JA.cont ?_
     refine JA.take 10 (listed' := #[true, true, true, true, true, true, true, true, true, true, true, false]) hQ rfl (by kernel_rfl) (by kernel_rfl) (by kernel_rfl) (by kernel_rfl) (by kernel_rfl) hE (HSub.trans hs566 (HSub.trans hs568 hs571)) (.cons_cons _ (List.nil_sublist _)) ?_
     refine JL.assign .none rfl ?_
     refine JA.cont ?_
     refine JA.take 11 (listed' := #[true, true, true, true, true, true, true, true, true, true, true, true]) hQ rfl (by kernel_rfl) (by kernel_rfl) (by kernel_rfl) (by kernel_rfl) (by kernel_rfl) hE (HSub.trans hs566 (HSub.trans hs568 hs571)) (.cons_cons _ (List.nil_sublist _)) ?_
     refine JL.assign .none rfl ?_
     refine JA.cont ?_
     refine JA.done hQ (by kernel_rfl) ?_
     refine JQ.go (JC.fresh (fun f => f 1 = .pointer (some ⟨b1, 0, none⟩) ∧ f 4 = .int .i64 y2.1 ∧ f 5 = .int .i64 y2.2 ∧ f 6 = vout_511 ∧ f 7 = .int .i64 x_510 ∧ f 9 = .int .i64 y546.1 ∧ f 25 = .int .i64 (s.Flaws.length : Int) ∧ f 26 = .int .i64 x_510) ⟨rfl, rfl, rfl, rfl, rfl, rfl, rfl, rfl⟩ ?_)
     rintro f ⟨hf1, hf4, hf5, hf6, hf7, hf9, hf25, hf26⟩
     refine (JC.norm (i := 1) hf1 (JC.norm (i := 4) hf4 (JC.norm (i := 5) hf5 (JC.norm (i := 6) hf6 (JC.norm (i := 7) hf7 (JC.norm (i := 9) hf9 (JC.norm (i := 25) hf25 (JC.norm (i := 26) hf26 ?_))))))))
     refine JC.seq (JC.region (by rfl) ?_)
     intro hQ
     refine JL.move .none rfl ?_
     refine JL.bin rfl rfl rfl .none rfl ?_
     refine JL.move .none rfl ?_
     refine JL.cut 8 (fun f => f 1 = .pointer (some ⟨b1, 0, none⟩) ∧ f 4 = .int .i64 y2.1 ∧ f 5 = .int .i64 y2.2 ∧ f 6 = vout_511 ∧ f 7 = .int .i64 x_510 ∧ f 25 = .int .i64 (s.Flaws.length : Int) ∧ f 26 = .int .i64 x_510 ∧ f 56 = .bool ((decide (0 ≤ y546.1)) && ((y2.2 != 0) || (decide (y546.1 < y2.1))))) ?_ ?_
     ·intro hJ575
      rcases bcases (decide (0 ≤ y546.1)) with hc576 | hc576
      ·skip
       refine JL.move (.some rfl rfl rfl hc576) rfl ?_
       refine JL.bin rfl rfl rfl (.some rfl rfl rfl hc576) rfl ?_
       refine JL.move (.some rfl rfl rfl hc576) rfl ?_
       refine JL.cut 4 (fun f => f 1 = .pointer (some ⟨b1, 0, none⟩) ∧ f 4 = .int .i64 y2.1 ∧ f 5 = .int .i64 y2.2 ∧ f 6 = vout_511 ∧ f 7 = .int .i64 x_510 ∧ f 25 = .int .i64 (s.Flaws.length : Int) ∧ f 26 = .int .i64 x_510 ∧ f 48 = .bool (decide (0 ≤ y546.1)) ∧ f 49 = .int .i64 y2.2 ∧ f 50 = .bool (y2.2 != 0) ∧ f 51 = .bool (y2.2 != 0) ∧ f 55 = .bool ((y2.2 != 0) || (decide (y546.1 < y2.1)))) ?_ ?_
       ·intro hJ577
        rcases bcases (y2.2 != 0) with hc578 | hc578
        ·skip
         refine JL.skip (.bool rfl rfl rfl hc578) rfl ?_
         refine JL.skip (.bool rfl rfl rfl hc578) rfl ?_
         refine JL.skip (.bool rfl rfl rfl hc578) rfl ?_
         refine JL.pick_t (b := (y2.2 != 0)) rfl hc578 (.some rfl rfl rfl hc576) rfl ?_
         exact hJ577 _ ⟨rfl, rfl, rfl, rfl, rfl, rfl, rfl, rfl, rfl, rfl, rfl, or_t hc578 rfl⟩
        ·skip
         refine JL.move (.some rfl rfl rfl hc578) rfl ?_
         refine JL.move (.some rfl rfl rfl hc578) rfl ?_
         refine JL.bin rfl rfl rfl (.some rfl rfl rfl hc578) rfl ?_
         refine JL.pick_f (b := (y2.2 != 0)) rfl hc578 (.some rfl rfl rfl hc576) rfl ?_
         exact hJ577 _ ⟨rfl, rfl, rfl, rfl, rfl, rfl, rfl, rfl, rfl, rfl, rfl, or_f hc578 rfl⟩
       ·rintro f ⟨hf1, hf4, hf5, hf6, hf7, hf25, hf26, hf48, hf49, hf50, hf51, hf55⟩
        refine (JL.norm (i := 1) hf1 (JL.norm (i := 4) hf4 (JL.norm (i := 5) hf5 (JL.norm (i := 6) hf6 (JL.norm (i := 7) hf7 (JL.norm (i := 25) hf25 (JL.norm (i := 26) hf26 (JL.norm (i := 48) hf48 (JL.norm (i := 49) hf49 (JL.norm (i := 50) hf50 (JL.norm (i := 51) hf51 (JL.norm (i := 55) hf55 ?_))))))))))))
        refine JL.pick_t (b := decide (0 ≤ y546.1)) rfl hc576 .none rfl ?_
        exact hJ575 _ ⟨rfl, rfl, rfl, rfl, rfl, rfl, rfl, and_t hc576 rfl⟩
      ·skip
       refine JL.skip (.bool rfl rfl rfl hc576) rfl ?_
       refine JL.skip (.bool rfl rfl rfl hc576) rfl ?_
       refine JL.skip (.bool rfl rfl rfl hc576) rfl ?_
       refine JL.skip (.no rfl rfl rfl) rfl ?_
       refine JL.skip (.no rfl rfl rfl) rfl ?_
       refine JL.skip (.no rfl rfl rfl) rfl ?_
       refine JL.skip (.bool rfl rfl rfl hc576) rfl ?_
       refine JL.pick_f (b := decide (0 ≤ y546.1)) rfl hc576 .none rfl ?_
       exact hJ575 _ ⟨rfl, rfl, rfl, rfl, rfl, rfl, rfl, and_f hc576 rfl⟩
     ·rintro f ⟨hf1, hf4, hf5, hf6, hf7, hf25, hf26, hf56⟩
      refine (JL.norm (i := 1) hf1 (JL.norm (i := 4) hf4 (JL.norm (i := 5) hf5 (JL.norm (i := 6) hf6 (JL.norm (i := 7) hf7 (JL.norm (i := 25) hf25 (JL.norm (i := 26) hf26 (JL.norm (i := 56) hf56 ?_))))))))
      refine JL.done hQ (JQ.go ?_)
      obtain ⟨r587, hlr587, hKr587⟩ := bind_some hF
      refine JC.join (fun (out_585 : List Int) H586 f bs gs => ∃ (vout_585 : Value) (xsout_585 : List Value), f 1 = .pointer (some ⟨b1, 0, none⟩) ∧ f 4 = .int .i64 y2.1 ∧ f 5 = .int .i64 y2.2 ∧ f 6 = vout_585 ∧ f 25 = .int .i64 (s.Flaws.length : Int) ∧ f 26 = .int .i64 x_510 ∧ bs = [(b1, .cells [.int .i64 s.Width, .int .i64 s.Length, (.slice a525 s.Faults.length c526), (.slice a528 s.Flaws.length c529), (.slice a531 s.Panels.length c532)].toArray 25)] ∧ gs = [⟨vout_585, 3, 1, out_585.length, xsout_585⟩] ∧ CH H586 1 RInt xsout_585 out_585 ∧ HSub H571 H586 ∧ out_585 = r587) ?_ ?_
      ·have hF := hlr587
       rcases ite_some hF with ⟨hc588, hF⟩ | ⟨hc588, hF⟩
       ·refine JC.cond_t (b := ((decide (0 ≤ y546.1)) && ((y2.2 != 0) || (decide (y546.1 < y2.1))))) rfl hc588 ?_
        refine JC.region (by rfl) ?_
        intro hQ
        refine JL.move .none rfl ?_
        refine JL.move .none rfl ?_
        refine JL.buildSlice (e := 3) (l := [.int .i64 x_510]) (by kernel_rfl) .none rfl ?_
        intro b589
        obtain ⟨l590, hl590, hF⟩ := bind_some hF
        refine JL.appO (R := RInt) 0 0 (l := out_511) (m := [x_510]) ap_48 rfl ⟨rfl, rfl⟩ rfl (CH.mono RInt.mono (HSub.trans hs566 (HSub.trans hs568 hs571)) hout_511) rfl rfl rfl (CH.cons (cs := [.int .i64 x_510]) rfl rfl CH.nil) rfl (one_cons rfl one_nil) hl590 .none rfl ?_
        intro v591 xs592 hch593
        refine JL.assign .none rfl ?_
        refine JL.done hQ ?_
        obtain rfl := Option.some.inj hF
        refine JQ.mask [false, true] [true] ?_
        exact JQ.join l590 ⟨v591, xs592, rfl, rfl, rfl, rfl, rfl, rfl, rfl, rfl, hch593, (HSub.refl _), rfl⟩
       ·refine JC.cond_f (b := ((decide (0 ≤ y546.1)) && ((y2.2 != 0) || (decide (y546.1 < y2.1))))) rfl hc588 ?_
        refine JC.skip ?_
        obtain rfl := Option.some.inj hF
        exact JQ.join out_511 ⟨vout_511, xsout_511, rfl, rfl, rfl, rfl, rfl, rfl, rfl, rfl, (CH.mono RInt.mono (HSub.trans hs566 (HSub.trans hs568 hs571)) hout_511), (HSub.refl _), rfl⟩
      ·rintro out_585 H586 f bs gs ⟨vout_585, xsout_585, hf1, hf4, hf5, hf6, hf25, hf26, rfl, rfl, hout_585, hs586, rfl⟩
       have hF := hKr587
       try dsimp only at hF
       refine (JQ.norm (i := 1) hf1 (JQ.norm (i := 4) hf4 (JQ.norm (i := 5) hf5 (JQ.norm (i := 6) hf6 (JQ.norm (i := 25) hf25 (JQ.norm (i := 26) hf26 ?_))))))
       refine JQ.normal_block (JQ.go (JC.region (by rfl) ?_))
       intro hQ
       refine JL.bin rfl rfl rfl .none rfl ?_
       refine JL.move .none rfl ?_
       refine JL.done hQ ?_
       obtain rfl := Option.some.inj hF
       exact JQ.next rfl ⟨vout_585, xsout_585, rfl, rfl, rfl, rfl, rfl, rfl, rfl, rfl, hout_585, (HSub.trans hs512 (HSub.trans hs566 (HSub.trans hs568 (HSub.trans hs571 hs586))))⟩
    ·refine JC.cond_f (b := decide (x_510 < (s.Flaws.length : Int))) rfl hc515 ?_
     refine JC.exit (JQ.exit_then (JQ.exit_then (JQ.exit_block ?_)))
     obtain rfl := Option.some.inj hF
     have ehr513 := hr513 _ rfl
     subst ehr513
     refine JQ.mask [false] [true] ?_
     exact JQ.join out_511 ⟨vout_511, xsout_511, rfl, rfl, rfl, hout_511, hs512, rfl⟩
   ·rintro out_343 H344 f bs gs ⟨vout_343, xsout_343, hf6, rfl, rfl, hout_343, hs344, rfl⟩
    have hF := hKr345
    try dsimp only at hF
    refine (JQ.norm (i := 6) hf6 ?_)
    refine JQ.go (JC.seq (JC.region (by rfl) ?_))
    intro hQ
    refine JL.move .none rfl ?_
    refine JL.assign .none rfl ?_
    refine JL.assign .none rfl ?_
    refine JL.done hQ (JQ.go (JC.ret (JQ.freezeG 0 (R := RInt) rfl RInt.mono hout_343 rfl ?_)))
    intro H594 hs594 hg595
    obtain rfl := Option.some.inj hF
    exact JQ.outH rfl (.tmp (.tmp .nil)) ⟨vout_343, rfl, hg595⟩
-- 49 math/bits.OnesCount16
def F_math_bits_OnesCount16 (n : Nat) (x_ : Int) : Option Int :=
 (sidx str_0 (bshr .u16 x_ 8)).bind fun y3 => (sidx str_0 (band .u16 x_ 255)).bind fun y4 => some (w64 (IntKind.u8.wrap (y3 + y4)))
theorem c_math_bits_OnesCount16 (n : Nat) (H : Hp) (x_ : Int) (y : Int) (hF : F_math_bits_OnesCount16 n x_ = some y) : SC Try.prog 49 [.int .u16 x_] (.int .i64 y) H := by
 rw [F_math_bits_OnesCount16] at hF
 refine SC.of (N := 11) Try.func49 rfl rfl rfl fun w => ?_
 refine JC.seq (JC.region (by rfl) ?_)
 intro hQ
 refine JL.assign .none rfl ?_
 refine JL.done hQ (JQ.go (JC.seq (JC.draw (by rfl) mo_ (by kernel_rfl) ?_)))
 intro hQ
 refine JL.move .none rfl ?_
 refine JL.shr rfl rfl (by decide) .none rfl ?_
 obtain ⟨y3, hy3, hF⟩ := bind_some hF
 refine JL.indexStr (s := str_0) un_9 rfl rfl hy3 .none rfl ?_
 refine JL.move .none rfl ?_
 refine JL.and rfl rfl .none rfl ?_
 obtain ⟨y4, hy4, hF⟩ := bind_some hF
 refine JL.indexStr (s := str_0) un_9 rfl rfl hy4 .none rfl ?_
 refine JL.bin rfl rfl rfl .none rfl ?_
 refine JL.conv un_5 un_3 rfl .none rfl ?_
 refine JL.assign .none rfl ?_
 refine JL.doneQ hQ ?_
 refine JQ.go (JC.ret ?_)
 obtain rfl := Option.some.inj hF
 exact JQ.outS rfl (.tmp .nil) rfl
end Go.Proofs.Ytflhjlgimihmgaa
end
