/-
  A part of the proof of LeLeast: the texts LeGenK7, LeGenK8.
-/
import Derived.Test.YtflhjlgimihmgaaJLeLeast5
section
set_option maxRecDepth 100000
set_option maxHeartbeats 40000000
namespace Go.Proofs.Ytflhjlgimihmgaa
open Go Go.RowKit Go.Dec
set_option linter.unusedVariables false
-- 72 (ferrule/ferruleref03.cloth).free
def F_ref03_cloth_free_s2 (n : Nat) (c : ref03_cloth) (i_783 : Int) : Int × Int → Option ((Int × Int) ⊕ Int)
 | (n_913, k_914) => (geti c.taken i_783).bind fun y918 => if decide (k_914 < (y918.length : Int)) = true then ((geti c.taken i_783).bind fun y924 => (geti y924 k_914).bind fun y929 => (if (!y929) = true then (some (w64 (n_913 + 1))) else (some n_913)).bind fun n_935 => some (Sum.inl (n_935, (w64 (k_914 + 1))))) else (some (Sum.inr n_913))
def F_ref03_cloth_free_s1 (n : Nat) (c : ref03_cloth) : Int × Int → Option ((Int × Int) ⊕ Int)
 | (n_782, i_783) => if decide (i_783 < c.rows) = true then ((loopO n (F_ref03_cloth_free_s2 n c i_783) (n_782, 0)).bind fun n_862 => some (Sum.inl (n_862, (w64 (i_783 + 1))))) else (some (Sum.inr n_782))
def F_ref03_cloth_free (n : Nat) (c : ref03_cloth) : Option Int :=
 (loopO n (F_ref03_cloth_free_s1 n c) (0, 0)).bind fun n_469 => some n_469
theorem c_ref03_cloth_free (n : Nat) (H : Hp) (c : ref03_cloth) (c_v0 : Value) (hc_0 : SL H 1 (RSl 1 RBool) c_v0 c.taken) (y : Int) (hF : F_ref03_cloth_free n c = some y) : SC Try.prog 72 [.agg [c_v0, .int .i64 c.rows].toArray] (.int .i64 y) H := by
 rw [F_ref03_cloth_free] at hF
 refine SC.of (N := 34) Try.func72 rfl rfl rfl fun w => ?_
 refine JC.seq (JC.region (by rfl) ?_)
 intro hQ
 refine JL.box (cs := [c_v0, .int .i64 c.rows]) rfl .none rfl ?_
 intro b1
 refine JL.assign .none rfl ?_
 refine JL.done hQ (JQ.go (JC.seq (JC.region (by rfl) ?_)))
 intro hQ
 refine JL.assign .none rfl ?_
 refine JL.done hQ (JQ.go (JC.seq (JC.seq (JC.region (by rfl) ?_))))
 intro hQ
 refine JL.assign .none rfl ?_
 refine JL.done hQ (JQ.go ?_)
 obtain ⟨r471, hlr471, hKr471⟩ := bind_some hF
 refine JC.join (fun (n_469 : Int) H470 f bs gs => f 3 = .int .i64 n_469 ∧ bs = [] ∧ gs = [] ∧ HSub H H470 ∧ n_469 = r471) ?_ ?_
 ·skip
  refine JC.block (JC.loop hlr471 (fun (x : Int × Int) H784 f bs gs => match x with | (n_782, i_783) => f 1 = .pointer (some ⟨b1, 0, none⟩) ∧ f 3 = .int .i64 n_782 ∧ f 4 = .int .i64 i_783 ∧ bs = [(b1, .cells [c_v0, .int .i64 c.rows].toArray 112)] ∧ gs = [] ∧ HSub H H784) ⟨rfl, rfl, rfl, rfl, rfl, (HSub.refl _)⟩ ?_)
  rintro ⟨n_782, i_783⟩ x786 H784 f bs gs ⟨hf1, hf3, hf4, rfl, rfl, hs784⟩ hF hr785
  rw [F_ref03_cloth_free_s1] at hF
  refine (JC.norm (i := 1) hf1 (JC.norm (i := 3) hf3 (JC.norm (i := 4) hf4 ?_)))
  refine JC.seq (JC.seq (JC.region (by rfl) ?_))
  intro hQ
  refine JL.move .none rfl ?_
  refine JL.fieldAddr fo_112_1 rfl .none rfl ?_
  refine JL.loadOwn 0 az_3 rfl rfl rfl .none rfl ?_
  refine JL.bin rfl rfl rfl .none rfl ?_
  refine JL.done hQ (JQ.go ?_)
  rcases ite_some hF with ⟨hc787, hF⟩ | ⟨hc787, hF⟩
  ·refine JC.cond_t (b := decide (i_783 < c.rows)) rfl hc787 ?_
   refine JC.skip (JQ.go (JC.seq (JC.block (JC.seq (JC.region (by rfl) ?_)))))
   intro hQ
   refine JL.assign .none rfl ?_
   refine JL.done hQ (JQ.go ?_)
   obtain ⟨r864, hlr864, hKr864⟩ := bind_some hF
   refine JC.join (fun (n_862 : Int) H863 f bs gs => f 1 = .pointer (some ⟨b1, 0, none⟩) ∧ f 3 = .int .i64 n_862 ∧ f 4 = .int .i64 i_783 ∧ bs = [(b1, .cells [c_v0, .int .i64 c.rows].toArray 112)] ∧ gs = [] ∧ HSub H784 H863 ∧ n_862 = r864) ?_ ?_
   ·skip
    refine JC.block (JC.loop hlr864 (fun (x : Int × Int) H915 f bs gs => match x with | (n_913, k_914) => f 1 = .pointer (some ⟨b1, 0, none⟩) ∧ f 3 = .int .i64 n_913 ∧ f 4 = .int .i64 i_783 ∧ f 5 = .int .i64 k_914 ∧ bs = [(b1, .cells [c_v0, .int .i64 c.rows].toArray 112)] ∧ gs = [] ∧ HSub H784 H915) ⟨rfl, rfl, rfl, rfl, rfl, rfl, (HSub.refl _)⟩ ?_)
    rintro ⟨n_913, k_914⟩ x917 H915 f bs gs ⟨hf1, hf3, hf4, hf5, rfl, rfl, hs915⟩ hF hr916
    rw [F_ref03_cloth_free_s2] at hF
    refine (JC.norm (i := 1) hf1 (JC.norm (i := 3) hf3 (JC.norm (i := 4) hf4 (JC.norm (i := 5) hf5 ?_))))
    refine JC.seq (JC.seq (JC.region (by rfl) ?_))
    intro hQ
    refine JL.move .none rfl ?_
    refine JL.fieldAddr fo_112_0 rfl .none rfl ?_
    refine JL.loadOwn 0 az_110 rfl rfl rfl .none rfl ?_
    refine JL.move .none rfl ?_
    obtain ⟨y918, hy918, hF⟩ := bind_some hF
    refine JL.indexSL (R := (RSl 1 RBool)) sl_110 (SL.mono (RSl.mono RBool.mono) (HSub.trans hs784 hs915) hc_0) rfl hy918 .none rfl ?_
    rintro b919 o920 cs921 hc922 - ⟨y918_v0, rfl, hy918_0⟩
    refine JL.loadH 0 az_113 rfl hc922 rfl .none rfl ?_
    refine JL.lenSL (R := RBool) ul_113 hy918_0 .none rfl ?_
    refine JL.bin rfl rfl rfl .none rfl ?_
    refine JL.done hQ (JQ.go ?_)
    rcases ite_some hF with ⟨hc923, hF⟩ | ⟨hc923, hF⟩
    ·refine JC.cond_t (b := decide (k_914 < (y918.length : Int))) rfl hc923 ?_
     refine JC.skip (JQ.go (JC.seq (JC.block (JC.seq (JC.region (by rfl) ?_)))))
     intro hQ
     refine JL.fieldAddr fo_112_0 rfl .none rfl ?_
     refine JL.loadOwn 0 az_110 rfl rfl rfl .none rfl ?_
     refine JL.move .none rfl ?_
     obtain ⟨y924, hy924, hF⟩ := bind_some hF
     refine JL.indexSL (R := (RSl 1 RBool)) sl_110 (SL.mono (RSl.mono RBool.mono) (HSub.trans hs784 hs915) hc_0) rfl hy924 .none rfl ?_
     rintro b925 o926 cs927 hc928 - ⟨y924_v0, rfl, hy924_0⟩
     refine JL.loadH 0 az_113 rfl hc928 rfl .none rfl ?_
     refine JL.move .none rfl ?_
     obtain ⟨y929, hy929, hF⟩ := bind_some hF
     refine JL.indexSL (R := RBool) sl_113 hy924_0 rfl hy929 .none rfl ?_
     rintro b930 o931 cs932 hc933 - rfl
     refine JL.loadH 0 az_4 rfl hc933 rfl .none rfl ?_
     refine JL.not rfl .none rfl ?_
     refine JL.done hQ (JQ.go (JC.fresh (fun f => f 1 = .pointer (some ⟨b1, 0, none⟩) ∧ f 3 = .int .i64 n_913 ∧ f 4 = .int .i64 i_783 ∧ f 5 = .int .i64 k_914 ∧ f 30 = .bool (!y929)) ⟨rfl, rfl, rfl, rfl, rfl⟩ ?_))
     rintro f ⟨hf1, hf3, hf4, hf5, hf30⟩
     refine (JC.norm (i := 1) hf1 (JC.norm (i := 3) hf3 (JC.norm (i := 4) hf4 (JC.norm (i := 5) hf5 (JC.norm (i := 30) hf30 ?_)))))
     obtain ⟨r937, hlr937, hKr937⟩ := bind_some hF
     refine JC.join (fun (n_935 : Int) H936 f bs gs => f 1 = .pointer (some ⟨b1, 0, none⟩) ∧ f 3 = .int .i64 n_935 ∧ f 4 = .int .i64 i_783 ∧ f 5 = .int .i64 k_914 ∧ bs = [(b1, .cells [c_v0, .int .i64 c.rows].toArray 112)] ∧ gs = [] ∧ HSub H915 H936 ∧ n_935 = r937) ?_ ?_
     ·have hF := hlr937
      rcases ite_some hF with ⟨hc938, hF⟩ | ⟨hc938, hF⟩
      ·refine JC.cond_t (b := (!y929)) rfl hc938 ?_
       refine JC.region (by rfl) ?_
       intro hQ
       refine JL.move .none rfl ?_
       refine JL.bin rfl rfl rfl .none rfl ?_
       refine JL.assign .none rfl ?_
       refine JL.done hQ ?_
       obtain rfl := Option.some.inj hF
       exact JQ.join (w64 (n_913 + 1)) ⟨rfl, rfl, rfl, rfl, rfl, rfl, (HSub.refl _), rfl⟩
      ·refine JC.cond_f (b := (!y929)) rfl hc938 ?_
       refine JC.skip ?_
       obtain rfl := Option.some.inj hF
       exact JQ.join n_913 ⟨rfl, rfl, rfl, rfl, rfl, rfl, (HSub.refl _), rfl⟩
     ·rintro n_935 H936 f bs gs ⟨hf1, hf3, hf4, hf5, rfl, rfl, hs936, rfl⟩
      have hF := hKr937
      try dsimp only at hF
      refine (JQ.norm (i := 1) hf1 (JQ.norm (i := 3) hf3 (JQ.norm (i := 4) hf4 (JQ.norm (i := 5) hf5 ?_))))
      refine JQ.normal_block (JQ.go (JC.region (by rfl) ?_))
      intro hQ
      refine JL.move .none rfl ?_
      refine JL.bin rfl rfl rfl .none rfl ?_
      refine JL.assign .none rfl ?_
      refine JL.done hQ ?_
      obtain rfl := Option.some.inj hF
      exact JQ.next rfl ⟨rfl, rfl, rfl, rfl, rfl, rfl, (HSub.trans hs915 hs936)⟩
    ·refine JC.cond_f (b := decide (k_914 < (y918.length : Int))) rfl hc923 ?_
     refine JC.exit (JQ.exit_then (JQ.exit_then (JQ.exit_block ?_)))
     obtain rfl := Option.some.inj hF
     have ehr916 := hr916 _ rfl
     subst ehr916
     exact JQ.join n_913 ⟨rfl, rfl, rfl, rfl, rfl, hs915, rfl⟩
   ·rintro n_862 H863 f bs gs ⟨hf1, hf3, hf4, rfl, rfl, hs863, rfl⟩
    have hF := hKr864
    try dsimp only at hF
    refine (JQ.norm (i := 1) hf1 (JQ.norm (i := 3) hf3 (JQ.norm (i := 4) hf4 ?_)))
    refine JQ.normal_block (JQ.go (JC.region (by rfl) ?_))
    intro hQ
    refine JL.move .none rfl ?_
    refine JL.bin rfl rfl rfl .none rfl ?_
    refine JL.assign .none rfl ?_
    refine JL.done hQ ?_
    obtain rfl := Option.some.inj hF
    exact JQ.next rfl ⟨rfl, rfl, rfl, rfl, rfl, (HSub.trans hs784 hs863)⟩
  ·refine JC.cond_f (b := decide (i_783 < c.rows)) rfl hc787 ?_
   refine JC.exit (JQ.exit_then (JQ.exit_then (JQ.exit_block ?_)))
   obtain rfl := Option.some.inj hF
   have ehr785 := hr785 _ rfl
   subst ehr785
   refine JQ.mask [false] [] ?_
   exact JQ.join n_782 ⟨rfl, rfl, rfl, hs784, rfl⟩
 ·rintro n_469 H470 f bs gs ⟨hf3, rfl, rfl, hs470, rfl⟩
  have hF := hKr471
  try dsimp only at hF
  refine (JQ.norm (i := 3) hf3 ?_)
  refine JQ.go (JC.seq (JC.region (by rfl) ?_))
  intro hQ
  refine JL.move .none rfl ?_
  refine JL.assign .none rfl ?_
  refine JL.done hQ (JQ.go (JC.ret ?_))
  obtain rfl := Option.some.inj hF
  exact JQ.outS rfl (.tmp .nil) rfl
-- 16 ferrule/ferruleref03.TurnedRows
def F_ref03_TurnedRows_s1 (n : Nat) (p : Panel) : Int × Int → Option ((Int × Int) ⊕ Int)
 | (w_52, i_53) => if decide (i_53 < (p.Rows.length : Int)) = true then ((geti p.Rows i_53).bind fun y58 => some (Sum.inl ((max w_52 y58.High), (w64 (i_53 + 1))))) else (some (Sum.inr w_52))
def F_ref03_TurnedRows_s2 (n : Nat) (p : Panel) (w_31 : Int) : Int × List Span → Option ((Int × List Span) ⊕ (List Span))
 | (i_484, out_485) => if decide (0 ≤ i_484) = true then ((geti p.Rows i_484).bind fun y500 => (geti p.Rows i_484).bind fun y505 => (lim (out_485 ++ [(Span.mk (w64 (w_31 - y500.High)) (w64 (w_31 - y505.Low)))])).bind fun l511 => some (Sum.inl ((w64 (i_484 - 1)), l511))) else (some (Sum.inr out_485))
def F_ref03_TurnedRows (n : Nat) (p : Panel) : Option (List Span) :=
 (loopO n (F_ref03_TurnedRows_s1 n p) (0, 0)).bind fun w_31 => (loopO n (F_ref03_TurnedRows_s2 n p w_31) ((w64 ((p.Rows.length : Int) - 1)), ([] : List Span))).bind fun out_343 => some out_343
theorem c_ref03_TurnedRows (n : Nat) (H : Hp) (p : Panel) (p_v0 : Value) (hp_0 : SL H 2 R_Span p_v0 p.Rows) (y : (List Span)) (hF : F_ref03_TurnedRows n p = some y) : HC Try.prog 16 [.agg [p_v0].toArray] H (fun H' ra_v0 => SL H' 2 R_Span ra_v0 y) := by
 rw [F_ref03_TurnedRows] at hF
 refine HC.of (N := 51) Try.func16 rfl rfl rfl fun w => ?_
 refine JC.seq (JC.region (by rfl) ?_)
 intro hQ
 refine JL.box (cs := [p_v0]) rfl .none rfl ?_
 intro b1
 refine JL.assign .none rfl ?_
 refine JL.done hQ (JQ.go (JC.seq (JC.region (by rfl) ?_)))
 intro hQ
 refine JL.assign .none rfl ?_
 refine JL.done hQ (JQ.go (JC.seq (JC.seq (JC.region (by rfl) ?_))))
 intro hQ
 refine JL.assign .none rfl ?_
 refine JL.done hQ (JQ.go ?_)
 obtain ⟨r33, hlr33, hKr33⟩ := bind_some hF
 refine JC.join (fun (w_31 : Int) H32 f bs gs => f 1 = .pointer (some ⟨b1, 0, none⟩) ∧ f 3 = .int .i64 w_31 ∧ bs = [(b1, .cells [p_v0].toArray 30)] ∧ gs = [] ∧ HSub H H32 ∧ w_31 = r33) ?_ ?_
 ·skip
  refine JC.block (JC.loop hlr33 (fun (x : Int × Int) H54 f bs gs => match x with | (w_52, i_53) => f 1 = .pointer (some ⟨b1, 0, none⟩) ∧ f 3 = .int .i64 w_52 ∧ f 4 = .int .i64 i_53 ∧ bs = [(b1, .cells [p_v0].toArray 30)] ∧ gs = [] ∧ HSub H H54) ⟨rfl, rfl, rfl, rfl, rfl, (HSub.refl _)⟩ ?_)
  rintro ⟨w_52, i_53⟩ x56 H54 f bs gs ⟨hf1, hf3, hf4, rfl, rfl, hs54⟩ hF hr55
  rw [F_ref03_TurnedRows_s1] at hF
  refine (JC.norm (i := 1) hf1 (JC.norm (i := 3) hf3 (JC.norm (i := 4) hf4 ?_)))
  refine JC.seq (JC.seq (JC.region (by rfl) ?_))
  intro hQ
  refine JL.move .none rfl ?_
  refine JL.fieldAddr fo_30_0 rfl .none rfl ?_
  refine JL.loadOwn 0 az_28 rfl rfl rfl .none rfl ?_
  refine JL.lenSL (R := R_Span) ul_28 (SL.mono R_Span_mono hs54 hp_0) .none rfl ?_
  refine JL.bin rfl rfl rfl .none rfl ?_
  refine JL.done hQ (JQ.go ?_)
  rcases ite_some hF with ⟨hc57, hF⟩ | ⟨hc57, hF⟩
  ·refine JC.cond_t (b := decide (i_53 < (p.Rows.length : Int))) rfl hc57 ?_
   refine JC.skip (JQ.go (JC.seq (JC.block (JC.region (by rfl) ?_))))
   intro hQ
   refine JL.move .none rfl ?_
   refine JL.fieldAddr fo_30_0 rfl .none rfl ?_
   refine JL.loadOwn 0 az_28 rfl rfl rfl .none rfl ?_
   refine JL.move .none rfl ?_
   obtain ⟨y58, hy58, hF⟩ := bind_some hF
   refine JL.indexSL (R := R_Span) sl_28 (SL.mono R_Span_mono hs54 hp_0) rfl hy58 .none rfl ?_
   rintro b59 o60 cs61 hc62 - rfl
   refine JL.fieldAddr fo_46_1 rfl .none rfl ?_
   refine JL.loadH 1 az_3 rfl hc62 rfl .none rfl ?_
   refine JL.max rfl rfl .none rfl ?_
   refine JL.assign .none rfl ?_
   refine JL.done hQ (JQ.normal_block (JQ.go (JC.fresh (fun f => f 1 = .pointer (some ⟨b1, 0, none⟩) ∧ f 3 = .int .i64 (max w_52 y58.High) ∧ f 4 = .int .i64 i_53) ⟨rfl, rfl, rfl⟩ ?_)))
   rintro f ⟨hf1, hf3, hf4⟩
   refine (JC.norm (i := 1) hf1 (JC.norm (i := 3) hf3 (JC.norm (i := 4) hf4 ?_)))
   refine JC.region (by rfl) ?_
   intro hQ
   refine JL.move .none rfl ?_
   refine JL.bin rfl rfl rfl .none rfl ?_
   refine JL.assign .none rfl ?_
   refine JL.done hQ ?_
   obtain rfl := Option.some.inj hF
   exact JQ.next rfl ⟨rfl, rfl, rfl, rfl, rfl, hs54⟩
  ·refine JC.cond_f (b := decide (i_53 < (p.Rows.length : Int))) rfl hc57 ?_
   refine JC.exit (JQ.exit_then (JQ.exit_then (JQ.exit_block ?_)))
   obtain rfl := Option.some.inj hF
   have ehr55 := hr55 _ rfl
   subst ehr55
   exact JQ.join w_52 ⟨rfl, rfl, rfl, rfl, hs54, rfl⟩
 ·rintro w_31 H32 f bs gs ⟨hf1, hf3, rfl, rfl, hs32, rfl⟩
  have hF := hKr33
  try dsimp only at hF
  refine (JQ.norm (i := 1) hf1 (JQ.norm (i := 3) hf3 ?_))
  refine JQ.go (JC.seq (JC.region (by rfl) ?_))
  intro hQ
  refine JL.assign .none rfl ?_
  refine JL.done hQ (JQ.go (JC.seq (JC.seq (JC.region (by rfl) ?_))))
  intro hQ
  refine JL.fieldAddr fo_30_0 rfl .none rfl ?_
  refine JL.loadOwn 0 az_28 rfl rfl rfl .none rfl ?_
  refine JL.lenSL (R := R_Span) ul_28 (SL.mono R_Span_mono hs32 hp_0) .none rfl ?_
  refine JL.bin rfl rfl rfl .none rfl ?_
  refine JL.assign .none rfl ?_
  refine JL.done hQ (JQ.go (JC.newNil (e := 46) (sz := 2) ?_))
  obtain ⟨r345, hlr345, hKr345⟩ := bind_some hF
  refine JC.join (fun (out_343 : List Span) H344 f bs gs => ∃ (vout_343 : Value) (xsout_343 : List Value), f 5 = vout_343 ∧ bs = [] ∧ gs = [⟨vout_343, 46, 2, out_343.length, xsout_343⟩] ∧ CH H344 2 R_Span xsout_343 out_343 ∧ HSub H32 H344 ∧ out_343 = r345) ?_ ?_
  ·skip
   refine JC.block (JC.loop hlr345 (fun (x : Int × List Span) H486 f bs gs => match x with | (i_484, out_485) => ∃ (vout_485 : Value) (xsout_485 : List Value), f 1 = .pointer (some ⟨b1, 0, none⟩) ∧ f 3 = .int .i64 w_31 ∧ f 5 = vout_485 ∧ f 6 = .int .i64 i_484 ∧ bs = [(b1, .cells [p_v0].toArray 30)] ∧ gs = [⟨vout_485, 46, 2, out_485.length, xsout_485⟩] ∧ CH H486 2 R_Span xsout_485 out_485 ∧ HSub H32 H486) ⟨(.slice none 0 0), [], rfl, rfl, rfl, rfl, rfl, rfl, CH.nil, (HSub.refl _)⟩ ?_)
   rintro ⟨i_484, out_485⟩ x488 H486 f bs gs ⟨vout_485, xsout_485, hf1, hf3, hf5, hf6, rfl, rfl, hout_485, hs486⟩ hF hr487
   rw [F_ref03_TurnedRows_s2] at hF
   refine (JC.norm (i := 1) hf1 (JC.norm (i := 3) hf3 (JC.norm (i := 5) hf5 (JC.norm (i := 6) hf6 ?_))))
   refine JC.seq (JC.seq (JC.region (by rfl) ?_))
   intro hQ
   refine JL.move .none rfl ?_
   refine JL.bin rfl rfl rfl .none rfl ?_
   refine JL.done hQ (JQ.go ?_)
   rcases ite_some hF with ⟨hc489, hF⟩ | ⟨hc489, hF⟩
   ·refine JC.cond_t (b := decide (0 ≤ i_484)) rfl hc489 ?_
    refine JC.skip (JQ.go (JC.seq (JC.block ?_)))
    obtain ⟨y500, hy500, hF⟩ := bind_some hF
    obtain ⟨y505, hy505, hF⟩ := bind_some hF
    obtain ⟨l511, hl511, hF⟩ := bind_some hF
    refine JC.mixed 21 21 #[false, false, false, false, false, false, false, false, false, false, false, false, false, false, false, false, false, false, false, false, false] [(b1, .cells [p_v0].toArray 30)] (by rfl) mo_ (by kernel_rfl) (by kernel_rfl) ?_
    intro hQ hE
    refine JA.take 0 (listed' := #[true, false, false, false, false, false, false, false, false, false, false, false, false, false, false, false, false, false, false, false, false]) hQ rfl (by kernel_rfl) (by kernel_rfl) (by kernel_rfl) (by kernel_rfl) (by kernel_rfl) hE (HSub.refl _) (.cons_cons _ (List.nil_sublist _)) ?_
    refine JL.move .none rfl ?_
    refine JA.cont ?_
    refine JA.take 1 (listed' := #[true, true, false, false, false, false, false, false, false, false, false, false, false, false, false, false, false, false, false, false, false]) hQ rfl (by kernel_rfl) (by kernel_rfl) (by kernel_rfl) (by kernel_rfl) (by kernel_rfl) hE (HSub.refl _) (.cons_cons _ (List.nil_sublist _)) ?_
    refine JL.move .none rfl ?_
    refine JA.cont ?_
    refine JA.take 2 (listed' := #[true, true, true, false, false, false, false, false, false, false, false, false, false, false, false, false, false, false, false, false, false]) hQ rfl (by kernel_rfl) (by kernel_rfl) (by kernel_rfl) (by kernel_rfl) (by kernel_rfl) hE (HSub.refl _) (.cons_cons _ (List.nil_sublist _)) ?_
    refine JL.fieldAddr fo_30_0 rfl .none rfl ?_
    refine JA.cont ?_
    refine JA.take 3 (listed' := #[true, true, true, true, false, false, false, false, false, false, false, false, false, false, false, false, false, false, false, false, false]) hQ rfl (by kernel_rfl) (by kernel_rfl) (by kernel_rfl) (by kernel_rfl) (by kernel_rfl) hE (HSub.refl _) (.cons_cons _ (List.nil_sublist _)) ?_
    refine JL.loadOwn 0 az_28 rfl rfl rfl .none rfl ?_
    refine JA.cont ?_
    refine JA.take 4 (listed' := #[true, true, true, true, true, false, false, false, false, false, false, false, false, false, false, false, false, false, false, false, false]) hQ rfl (by kernel_rfl) (by kernel_rfl) (by kernel_rfl) (by kernel_rfl) (by kernel_rfl) hE (HSub.refl _) (.cons_cons _ (List.nil_sublist _)) ?_
    refine JL.move .none rfl ?_
    refine JA.cont ?_
    refine JA.take 5 (listed' := #[true, true, true, true, true, true, false, false, false, false, false, false, false, false, false, false, false, false, false, false, false]) hQ rfl (by kernel_rfl) (by kernel_rfl) (by kernel_rfl) (by kernel_rfl) (by kernel_rfl) hE (HSub.refl _) (.cons_cons _ (List.nil_sublist _)) ?_
    refine JL.indexSL (R := R_Span) sl_28 (SL.mono R_Span_mono (HSub.trans hs32 hs486) hp_0) rfl hy500 .none rfl ?_
    rintro b539 o540 cs541 hc542 - rfl
    refine JA.cont ?_
    refine JA.take 6 (listed' := #[true, true, true, true, true, true, true, false, false, false, false, false, false, false, false, false, false, false, false, false, false]) hQ rfl (by kernel_rfl) (by kernel_rfl) (by kernel_rfl) (by kernel_rfl) (by kernel_rfl) hE (HSub.refl _) (.cons_cons _ (List.nil_sublist _)) ?_
    refine JL.fieldAddr fo_46_1 rfl .none rfl ?_
    refine JA.cont ?_
    refine JA.take 7 (listed' := #[true, true, true, true, true, true, true, true, false, false, false, false, false, false, false, false, false, false, false, false, false]) hQ rfl (by kernel_rfl) (by kernel_rfl) (by kernel_rfl) (by kernel_rfl) (by kernel_rfl) hE (HSub.refl _) (.cons_cons _ (List.nil_sublist _)) ?_
    refine JL.loadH 1 az_3 rfl hc542 rfl .none rfl ?_
    refine JA.cont ?_
    refine JA.take 8 (listed' := #[true, true, true, true, true, true, true, true, true, false, false, false, false, false, false, false, false, false, false, false, false]) hQ rfl (by kernel_rfl) (by kernel_rfl) (by kernel_rfl) (by kernel_rfl) (by kernel_rfl) hE (HSub.refl _) (.cons_cons _ (List.nil_sublist _)) ?_
    refine JL.bin rfl rfl rfl .none rfl ?_
    refine JA.cont ?_
    refine JA.take 9 (listed' := #[true, true, true, true, true, true, true, true, true, true, false, false, false, false, false, false, false, false, false, false, false]) hQ rfl (by kernel_rfl) (by kernel_rfl) (by kernel_rfl) (by kernel_rfl) (by kernel_rfl) hE (HSub.refl _) (.cons_cons _ (List.nil_sublist _)) ?_
    refine JL.move .none rfl ?_
    refine JA.cont ?_
    refine JA.take 10 (listed' := #[true, true, true, true, true, true, true, true, true, true, true, false, false, false, false, false, false, false, false, false, false]) hQ rfl (by kernel_rfl) (by kernel_rfl) (by kernel_rfl) (by kernel_rfl) (by kernel_rfl) hE (HSub.refl _) (.cons_cons _ (List.nil_sublist _)) ?_
    refine JL.fieldAddr fo_30_0 rfl .none rfl ?_
    refine JA.cont ?_
    refine JA.take 11 (listed' := #[true, true, true, true, true, true, true, true, true, true, true, true, false, false, false, false, false, false, false, false, false]) hQ rfl (by kernel_rfl) (by kernel_rfl) (by kernel_rfl) (by kernel_rfl) (by kernel_rfl) hE (HSub.refl _) (.cons_cons _ (List.nil_sublist _)) ?_
    refine JL.loadOwn 0 az_28 rfl rfl rfl .none rfl ?_
    refine JA.cont ?_
    refine JA.take 12 (listed' := #[true, true, true, true, true, true, true, true, true, true, true, true, true, false, false, false, false, false, false, false, false]) hQ rfl (by kernel_rfl) (by kernel_rfl) (by kernel_rfl) (by kernel_rfl) (by kernel_rfl) hE (HSub.refl _) (.cons_cons _ (List.nil_sublist _)) ?_
    refine JL.move .none rfl ?_
    refine JA.cont ?_
    refine JA.take 13 (listed' := #[true, true, true, true, true, true, true, true, true, true, true, true, true, true, false, false, false, false, false, false, false]) hQ rfl (by kernel_rfl) (by kernel_rfl) (by kernel_rfl) (by kernel_rfl) (by kernel_rfl) hE (HSub.refl _) (.cons_cons _ (List.nil_sublist _)) ?_
    refine JL.indexSL (R := R_Span) sl_28 (SL.mono R_Span_mono (HSub.trans hs32 hs486) hp_0) rfl hy505 .none rfl ?_
    rintro b547 o548 cs549 hc550 - rfl
    refine JA.cont ?_
    refine JA.take 14 (listed' := #[true, true, true, true, true, true, true, true, true, true, true, true, true, true, true, false, false, false, false, false, false]) hQ rfl (by kernel_rfl) (by kernel_rfl) (by kernel_rfl) (by kernel_rfl) (by kernel_rfl) hE (HSub.refl _) (.cons_cons _ (List.nil_sublist _)) ?_
    refine JL.fieldAddr fo_46_0 rfl .none rfl ?_
    refine JA.cont ?_
    refine JA.take 15 (listed' := #[true, true, true, true, true, true, true, true, true, true, true, true, true, true, true, true, false, false, false, false, false]) hQ rfl (by kernel_rfl) (by kernel_rfl) (by kernel_rfl) (by kernel_rfl) (by kernel_rfl) hE (HSub.refl _) (.cons_cons _ (List.nil_sublist _)) ?_
    refine JL.loadH 0 az_3 rfl hc550 rfl .none rfl ?_
    refine JA.cont ?_
    refine JA.take 16 (listed' := #[true, true, true, true, true, true, true, true, true, true, true, true, true, true, true, true, true, false, false, false, false]) hQ rfl (by kernel_rfl) (by kernel_rfl) (by kernel_rfl) (by kernel_rfl) (by kernel_rfl) hE (HSub.refl _) (.cons_cons _ (List.nil_sublist _)) ?_
    refine JL.bin rfl rfl rfl .none rfl ?_
    refine JA.cont ?_
    refine JA.take 17 (listed' := #[true, true, true, true, true, true, true, true, true, true, true, true, true, true, true, true, true, true, false, false, false]) hQ rfl (by kernel_rfl) (by kernel_rfl) (by kernel_rfl) (by kernel_rfl) (by kernel_rfl) hE (HSub.refl _) (.cons_cons _ (List.nil_sublist _)) ?_
    refine JL.build (l := [.int .i64 (w64 (w_31 - y500.High)), .int .i64 (w64 (w_31 - y505.Low))]) (by kernel_rfl) .none rfl ?_
    refine JA.cont ?_
    refine JA.many [18] (by kernel_rfl) (by simp) (all_one ⟨_, #[true, true, true, true, true, true, true, true, true, true, true, true, true, true, true, true, true, true, true, false, false], rfl, (by kernel_rfl), ?_⟩)
    refine JL.buildSlice (e := 46) (l := [.int .i64 (w64 (w_31 - y500.High)), .int .i64 (w64 (w_31 - y505.Low))]) (by kernel_rfl) .none rfl ?_
    intro b551
    refine JA.after hE (HSub.refl _) (.cons _ (.cons_cons _ (List.nil_sublist _))) ?_
    refine JA.many [19] (by kernel_rfl) (by simp) (all_one ⟨_, #[true, true, true, true, true, true, true, true, true, true, true, true, true, true, true, true, true, true, true, true, false], rfl, (by kernel_rfl), ?_⟩)
    refine JL.appO (R := R_Span) 0 0 (l := out_485) (m := [(Span.mk (w64 (w_31 - y500.High)) (w64 (w_31 - y505.Low)))]) ap_28 rfl ⟨rfl, rfl⟩ rfl hout_485 rfl rfl rfl (CH.cons (cs := [.int .i64 (w64 (w_31 - y500.High)), .int .i64 (w64 (w_31 - y505.Low))]) rfl rfl CH.nil) rfl (one_cons rfl (one_cons rfl one_nil)) hl511 .none rfl ?_
    intro v552 xs553 hch554
    refine JA.after hE (HSub.refl _) (.cons _ (.cons_cons _ (List.nil_sublist _))) ?_
    refine JA.take 20 (listed' := #[true, true, true, true, true, true, true, true, true, true, true, true, true, true, true, true, true, true, true, true, true]) hQ rfl (by kernel_rfl) (by kernel_rfl) (by kernel_rfl) (by kernel_rfl) (by kernel_rfl) hE (HSub.refl _) (.cons _ (.cons_cons _ (List.nil_sublist _))) ?_
    refine JL.assign .none rfl ?_
    refine JA.cont ?_
    refine JA.done hQ (by kernel_rfl) ?_
    refine JQ.normal_block (JQ.go (JC.fresh (fun f => f 1 = .pointer (some ⟨b1, 0, none⟩) ∧ f 3 = .int .i64 w_31 ∧ f 5 = v552 ∧ f 6 = .int .i64 i_484) ⟨rfl, rfl, rfl, rfl⟩ ?_))
    rintro f ⟨hf1, hf3, hf5, hf6⟩
    refine (JC.norm (i := 1) hf1 (JC.norm (i := 3) hf3 (JC.norm (i := 5) hf5 (JC.norm (i := 6) hf6 ?_))))
    refine JC.region (by rfl) ?_
    intro hQ
    refine JL.move .none rfl ?_
    refine JL.bin rfl rfl rfl .none rfl ?_
    refine JL.assign .none rfl ?_
    refine JL.done hQ ?_
    obtain rfl := Option.some.inj hF
    refine JQ.mask [false, true] [true] ?_
    exact JQ.next rfl ⟨v552, xs553, rfl, rfl, rfl, rfl, rfl, rfl, hch554, hs486⟩
   ·refine JC.cond_f (b := decide (0 ≤ i_484)) rfl hc489 ?_
    refine JC.exit (JQ.exit_then (JQ.exit_then (JQ.exit_block ?_)))
    obtain rfl := Option.some.inj hF
    have ehr487 := hr487 _ rfl
    subst ehr487
    refine JQ.mask [false] [true] ?_
    exact JQ.join out_485 ⟨vout_485, xsout_485, rfl, rfl, rfl, hout_485, hs486, rfl⟩
  ·rintro out_343 H344 f bs gs ⟨vout_343, xsout_343, hf5, rfl, rfl, hout_343, hs344, rfl⟩
   have hF := hKr345
   try dsimp only at hF
   refine (JQ.norm (i := 5) hf5 ?_)
   refine JQ.go (JC.seq (JC.region (by rfl) ?_))
   intro hQ
   refine JL.move .none rfl ?_
   refine JL.assign .none rfl ?_
   refine JL.done hQ (JQ.go (JC.ret (JQ.freezeG 0 (R := R_Span) rfl R_Span_mono hout_343 rfl ?_)))
   intro H555 hs555 hg556
   obtain rfl := Option.some.inj hF
   exact JQ.outH rfl (.tmp .nil) hg556
-- 50 ferrule/ferruleref03.CellsOf
def F_ref03_CellsOf_s2 (n : Nat) (at_ : Place) (rows_6 : List Span) (k_630 : Int) : Int × List Cell → Option ((Int × List Cell) ⊕ (List Cell))
 | (c_716, out_717) => (geti rows_6 k_630).bind fun y721 => if decide (c_716 ≤ y721.High) = true then ((lim (out_717 ++ [(Cell.mk (w64 (at_.Row + k_630)) (w64 (at_.Col + c_716)))])).bind fun l728 => some (Sum.inl ((w64 (c_716 + 1)), l728))) else (some (Sum.inr out_717))
def F_ref03_CellsOf_s1 (n : Nat) (at_ : Place) (rows_6 : List Span) : Int × List Cell → Option ((Int × List Cell) ⊕ (List Cell))
 | (k_630, out_631) => if decide (k_630 < (rows_6.length : Int)) = true then ((geti rows_6 k_630).bind fun y636 => (loopO n (F_ref03_CellsOf_s2 n at_ rows_6 k_630) (y636.Low, out_631)).bind fun out_685 => some (Sum.inl ((w64 (k_630 + 1)), out_685))) else (some (Sum.inr out_631))
def F_ref03_CellsOf (n : Nat) (p : Panel) (at_ : Place) : Option (List Cell) :=
 (if (at_.Turned == 1) = true then ((F_ref03_TurnedRows n p).bind fun y10 => some y10) else (some p.Rows)).bind fun rows_6 => (loopO n (F_ref03_CellsOf_s1 n at_ rows_6) (0, ([] : List Cell))).bind fun out_427 => some out_427
theorem c_ref03_CellsOf (n : Nat) (H : Hp) (p : Panel) (p_v0 : Value) (hp_0 : SL H 2 R_Span p_v0 p.Rows) (at_ : Place) (y : (List Cell)) (hF : F_ref03_CellsOf n p at_ = some y) : HC Try.prog 50 [.agg [p_v0].toArray, .agg [.int .i64 at_.Row, .int .i64 at_.Col, .int .i64 at_.Turned].toArray] H (fun H' ra_v0 => SL H' 2 R_Cell ra_v0 y) := by
 rw [F_ref03_CellsOf] at hF
 refine HC.of (N := 49) Try.func50 rfl rfl rfl fun w => ?_
 refine JC.seq (JC.region (by rfl) ?_)
 intro hQ
 refine JL.box (cs := [p_v0]) rfl .none rfl ?_
 intro b1
 refine JL.box (cs := [.int .i64 at_.Row, .int .i64 at_.Col, .int .i64 at_.Turned]) rfl .none rfl ?_
 intro b2
 refine JL.assign .none rfl ?_
 refine JL.done hQ (JQ.go (JC.seq (JC.region (by rfl) ?_)))
 intro hQ
 refine JL.fieldAddr fo_30_0 rfl .none rfl ?_
 refine JL.loadOwn 1 az_28 rfl rfl rfl .none rfl ?_
 refine JL.assign .none rfl ?_
 refine JL.done hQ (JQ.go (JC.seq (JC.seq (JC.region (by rfl) ?_))))
 intro hQ
 refine JL.fieldAddr fo_62_2 rfl .none rfl ?_
 refine JL.loadOwn 0 az_3 rfl rfl rfl .none rfl ?_
 refine JL.bin rfl rfl rfl .none rfl ?_
 refine JL.done hQ (JQ.go ?_)
 obtain ⟨r8, hlr8, hKr8⟩ := bind_some hF
 refine JC.join (fun (rows_6 : List Span) H7 f bs gs => ∃ (vrows_6 : Value), f 3 = .pointer (some ⟨b2, 0, none⟩) ∧ f 5 = vrows_6 ∧ bs = [(b2, .cells [.int .i64 at_.Row, .int .i64 at_.Col, .int .i64 at_.Turned].toArray 62)] ∧ gs = [] ∧ SL H7 2 R_Span vrows_6 rows_6 ∧ HSub H H7 ∧ rows_6 = r8) ?_ ?_
 ·have hF := hlr8
  rcases ite_some hF with ⟨hc9, hF⟩ | ⟨hc9, hF⟩
  ·refine JC.cond_t (b := (at_.Turned == 1)) rfl hc9 ?_
   refine JC.region (by rfl) ?_
   intro hQ
   refine JL.loadOwn 1 az_30 rfl rfl rfl .none rfl ?_
   obtain ⟨y10, hy10, hF⟩ := bind_some hF
   refine JL.callH (c_ref03_TurnedRows n H p p_v0 hp_0 y10 hy10) rfl en_16 .none rfl ?_
   intro H11 y10a_v0 hs11 hy10a_0
   refine JL.assign .none rfl ?_
   refine JL.done hQ ?_
   obtain rfl := Option.some.inj hF
   refine JQ.mask [true, false] [] ?_
   exact JQ.join y10 ⟨y10a_v0, rfl, rfl, rfl, rfl, hy10a_0, hs11, rfl⟩
  ·refine JC.cond_f (b := (at_.Turned == 1)) rfl hc9 ?_
   refine JC.skip ?_
   obtain rfl := Option.some.inj hF
   refine JQ.mask [true, false] [] ?_
   exact JQ.join p.Rows ⟨p_v0, rfl, rfl, rfl, rfl, hp_0, (HSub.refl _), rfl⟩
 ·rintro rows_6 H7 f bs gs ⟨vrows_6, hf3, hf5, rfl, rfl, hrows_6, hs7, rfl⟩
  have hF := hKr8
  try dsimp only at hF
  refine (JQ.norm (i := 3) hf3 (JQ.norm (i := 5) hf5 ?_))
  refine JQ.go (JC.seq (JC.region (by rfl) ?_))
  intro hQ
  refine JL.assign .none rfl ?_
  refine JL.done hQ (JQ.go (JC.seq (JC.seq (JC.region (by rfl) ?_))))
  intro hQ
  refine JL.assign .none rfl ?_
  refine JL.done hQ (JQ.go (JC.newNil (e := 27) (sz := 2) ?_))
  obtain ⟨r429, hlr429, hKr429⟩ := bind_some hF
  refine JC.join (fun (out_427 : List Cell) H428 f bs gs => ∃ (vout_427 : Value) (xsout_427 : List Value), f 6 = vout_427 ∧ bs = [] ∧ gs = [⟨vout_427, 27, 2, out_427.length, xsout_427⟩] ∧ CH H428 2 R_Cell xsout_427 out_427 ∧ HSub H7 H428 ∧ out_427 = r429) ?_ ?_
  ·skip
   refine JC.block (JC.loop hlr429 (fun (x : Int × List Cell) H632 f bs gs => match x with | (k_630, out_631) => ∃ (vout_631 : Value) (xsout_631 : List Value), f 3 = .pointer (some ⟨b2, 0, none⟩) ∧ f 5 = vrows_6 ∧ f 6 = vout_631 ∧ f 7 = .int .i64 k_630 ∧ bs = [(b2, .cells [.int .i64 at_.Row, .int .i64 at_.Col, .int .i64 at_.Turned].toArray 62)] ∧ gs = [⟨vout_631, 27, 2, out_631.length, xsout_631⟩] ∧ CH H632 2 R_Cell xsout_631 out_631 ∧ HSub H7 H632) ⟨(.slice none 0 0), [], rfl, rfl, rfl, rfl, rfl, rfl, CH.nil, (HSub.refl _)⟩ ?_)
   rintro ⟨k_630, out_631⟩ x634 H632 f bs gs ⟨vout_631, xsout_631, hf3, hf5, hf6, hf7, rfl, rfl, hout_631, hs632⟩ hF hr633
   rw [F_ref03_CellsOf_s1] at hF
   refine (JC.norm (i := 3) hf3 (JC.norm (i := 5) hf5 (JC.norm (i := 6) hf6 (JC.norm (i := 7) hf7 ?_))))
   refine JC.seq (JC.seq (JC.region (by rfl) ?_))
   intro hQ
   refine JL.move .none rfl ?_
   refine JL.move .none rfl ?_
   refine JL.lenSL (R := R_Span) ul_28 (SL.mono R_Span_mono hs632 hrows_6) .none rfl ?_
   refine JL.bin rfl rfl rfl .none rfl ?_
   refine JL.done hQ (JQ.go ?_)
   rcases ite_some hF with ⟨hc635, hF⟩ | ⟨hc635, hF⟩
   ·refine JC.cond_t (b := decide (k_630 < (rows_6.length : Int))) rfl hc635 ?_
    refine JC.skip (JQ.go (JC.seq (JC.block (JC.seq (JC.region (by rfl) ?_)))))
    intro hQ
    refine JL.move .none rfl ?_
    refine JL.move .none rfl ?_
    obtain ⟨y636, hy636, hF⟩ := bind_some hF
    refine JL.indexSL (R := R_Span) sl_28 (SL.mono R_Span_mono hs632 hrows_6) rfl hy636 .none rfl ?_
    rintro b637 o638 cs639 hc640 - rfl
    refine JL.fieldAddr fo_46_0 rfl .none rfl ?_
    refine JL.loadH 0 az_3 rfl hc640 rfl .none rfl ?_
    refine JL.assign .none rfl ?_
    refine JL.done hQ (JQ.go (JC.fresh (fun f => f 3 = .pointer (some ⟨b2, 0, none⟩) ∧ f 5 = vrows_6 ∧ f 6 = vout_631 ∧ f 7 = .int .i64 k_630 ∧ f 8 = .int .i64 y636.Low) ⟨rfl, rfl, rfl, rfl, rfl⟩ ?_))
    rintro f ⟨hf3, hf5, hf6, hf7, hf8⟩
    refine (JC.norm (i := 3) hf3 (JC.norm (i := 5) hf5 (JC.norm (i := 6) hf6 (JC.norm (i := 7) hf7 (JC.norm (i := 8) hf8 ?_)))))
    obtain ⟨r687, hlr687, hKr687⟩ := bind_some hF
    refine JC.join (fun (out_685 : List Cell) H686 f bs gs => ∃ (vout_685 : Value) (xsout_685 : List Value), f 3 = .pointer (some ⟨b2, 0, none⟩) ∧ f 5 = vrows_6 ∧ f 6 = vout_685 ∧ f 7 = .int .i64 k_630 ∧ bs = [(b2, .cells [.int .i64 at_.Row, .int .i64 at_.Col, .int .i64 at_.Turned].toArray 62)] ∧ gs = [⟨vout_685, 27, 2, out_685.length, xsout_685⟩] ∧ CH H686 2 R_Cell xsout_685 out_685 ∧ HSub H632 H686 ∧ out_685 = r687) ?_ ?_
    ·skip
     refine JC.block (JC.loop hlr687 (fun (x : Int × List Cell) H718 f bs gs => match x with | (c_716, out_717) => ∃ (vout_717 : Value) (xsout_717 : List Value), f 3 = .pointer (some ⟨b2, 0, none⟩) ∧ f 5 = vrows_6 ∧ f 6 = vout_717 ∧ f 7 = .int .i64 k_630 ∧ f 8 = .int .i64 c_716 ∧ bs = [(b2, .cells [.int .i64 at_.Row, .int .i64 at_.Col, .int .i64 at_.Turned].toArray 62)] ∧ gs = [⟨vout_717, 27, 2, out_717.length, xsout_717⟩] ∧ CH H718 2 R_Cell xsout_717 out_717 ∧ HSub H632 H718) ⟨vout_631, xsout_631, rfl, rfl, rfl, rfl, rfl, rfl, rfl, hout_631, (HSub.refl _)⟩ ?_)
     rintro ⟨c_716, out_717⟩ x720 H718 f bs gs ⟨vout_717, xsout_717, hf3, hf5, hf6, hf7, hf8, rfl, rfl, hout_717, hs718⟩ hF hr719
     rw [F_ref03_CellsOf_s2] at hF
     refine (JC.norm (i := 3) hf3 (JC.norm (i := 5) hf5 (JC.norm (i := 6) hf6 (JC.norm (i := 7) hf7 (JC.norm (i := 8) hf8 ?_)))))
     refine JC.seq (JC.seq (JC.region (by rfl) ?_))
     intro hQ
     refine JL.move .none rfl ?_
     refine JL.move .none rfl ?_
     refine JL.move .none rfl ?_
     obtain ⟨y721, hy721, hF⟩ := bind_some hF
     refine JL.indexSL (R := R_Span) sl_28 (SL.mono R_Span_mono (HSub.trans hs632 hs718) hrows_6) rfl hy721 .none rfl ?_
     rintro b722 o723 cs724 hc725 - rfl
     refine JL.fieldAddr fo_46_1 rfl .none rfl ?_
     refine JL.loadH 1 az_3 rfl hc725 rfl .none rfl ?_
     refine JL.bin rfl rfl rfl .none rfl ?_
     refine JL.done hQ (JQ.go ?_)
     rcases ite_some hF with ⟨hc726, hF⟩ | ⟨hc726, hF⟩
     ·refine JC.cond_t (b := decide (c_716 ≤ y721.High)) rfl hc726 ?_
      refine JC.skip (JQ.go (JC.seq (JC.block (JC.region (by rfl) ?_))))
      intro hQ
      refine JL.move .none rfl ?_
      refine JL.fieldAddr fo_62_0 rfl .none rfl ?_
      refine JL.loadOwn 0 az_3 rfl rfl rfl .none rfl ?_
      refine JL.move .none rfl ?_
      refine JL.bin rfl rfl rfl .none rfl ?_
      refine JL.fieldAddr fo_62_1 rfl .none rfl ?_
      refine JL.loadOwn 0 az_3 rfl rfl rfl .none rfl ?_
      refine JL.move .none rfl ?_
      refine JL.bin rfl rfl rfl .none rfl ?_
      refine JL.build (l := [.int .i64 (w64 (at_.Row + k_630)), .int .i64 (w64 (at_.Col + c_716))]) (by kernel_rfl) .none rfl ?_
      refine JL.buildSlice (e := 27) (l := [.int .i64 (w64 (at_.Row + k_630)), .int .i64 (w64 (at_.Col + c_716))]) (by kernel_rfl) .none rfl ?_
      intro b727
      obtain ⟨l728, hl728, hF⟩ := bind_some hF
      refine JL.appO (R := R_Cell) 0 0 (l := out_717) (m := [(Cell.mk (w64 (at_.Row + k_630)) (w64 (at_.Col + c_716)))]) ap_22 rfl ⟨rfl, rfl⟩ rfl hout_717 rfl rfl rfl (CH.cons (cs := [.int .i64 (w64 (at_.Row + k_630)), .int .i64 (w64 (at_.Col + c_716))]) rfl rfl CH.nil) rfl (one_cons rfl (one_cons rfl one_nil)) hl728 .none rfl ?_
      intro v729 xs730 hch731
      refine JL.assign .none rfl ?_
      refine JL.done hQ (JQ.normal_block (JQ.go (JC.fresh (fun f => f 3 = .pointer (some ⟨b2, 0, none⟩) ∧ f 5 = vrows_6 ∧ f 6 = v729 ∧ f 7 = .int .i64 k_630 ∧ f 8 = .int .i64 c_716) ⟨rfl, rfl, rfl, rfl, rfl⟩ ?_)))
      rintro f ⟨hf3, hf5, hf6, hf7, hf8⟩
      refine (JC.norm (i := 3) hf3 (JC.norm (i := 5) hf5 (JC.norm (i := 6) hf6 (JC.norm (i := 7) hf7 (JC.norm (i := 8) hf8 ?_)))))
      refine JC.region (by rfl) ?_
      intro hQ
      refine JL.move .none rfl ?_
      refine JL.bin rfl rfl rfl .none rfl ?_
      refine JL.assign .none rfl ?_
      refine JL.done hQ ?_
      obtain rfl := Option.some.inj hF
      refine JQ.mask [false, true] [true] ?_
      exact JQ.next rfl ⟨v729, xs730, rfl, rfl, rfl, rfl, rfl, rfl, rfl, hch731, hs718⟩
     ·refine JC.cond_f (b := decide (c_716 ≤ y721.High)) rfl hc726 ?_
      refine JC.exit (JQ.exit_then (JQ.exit_then (JQ.exit_block ?_)))
      obtain rfl := Option.some.inj hF
      have ehr719 := hr719 _ rfl
      subst ehr719
      exact JQ.join out_717 ⟨vout_717, xsout_717, rfl, rfl, rfl, rfl, rfl, rfl, hout_717, hs718, rfl⟩
    ·rintro out_685 H686 f bs gs ⟨vout_685, xsout_685, hf3, hf5, hf6, hf7, rfl, rfl, hout_685, hs686, rfl⟩
     have hF := hKr687
     try dsimp only at hF
     refine (JQ.norm (i := 3) hf3 (JQ.norm (i := 5) hf5 (JQ.norm (i := 6) hf6 (JQ.norm (i := 7) hf7 ?_))))
     refine JQ.normal_block (JQ.go (JC.region (by rfl) ?_))
     intro hQ
     refine JL.move .none rfl ?_
     refine JL.bin rfl rfl rfl .none rfl ?_
     refine JL.assign .none rfl ?_
     refine JL.done hQ ?_
     obtain rfl := Option.some.inj hF
     exact JQ.next rfl ⟨vout_685, xsout_685, rfl, rfl, rfl, rfl, rfl, rfl, hout_685, (HSub.trans hs632 hs686)⟩
   ·refine JC.cond_f (b := decide (k_630 < (rows_6.length : Int))) rfl hc635 ?_
    refine JC.exit (JQ.exit_then (JQ.exit_then (JQ.exit_block ?_)))
    obtain rfl := Option.some.inj hF
    have ehr633 := hr633 _ rfl
    subst ehr633
    refine JQ.mask [false] [true] ?_
    exact JQ.join out_631 ⟨vout_631, xsout_631, rfl, rfl, rfl, hout_631, hs632, rfl⟩
  ·rintro out_427 H428 f bs gs ⟨vout_427, xsout_427, hf6, rfl, rfl, hout_427, hs428, rfl⟩
   have hF := hKr429
   try dsimp only at hF
   refine (JQ.norm (i := 6) hf6 ?_)
   refine JQ.go (JC.seq (JC.region (by rfl) ?_))
   intro hQ
   refine JL.move .none rfl ?_
   refine JL.assign .none rfl ?_
   refine JL.done hQ (JQ.go (JC.ret (JQ.freezeG 0 (R := R_Cell) rfl R_Cell_mono hout_427 rfl ?_)))
   intro H732 hs732 hg733
   obtain rfl := Option.some.inj hF
   exact JQ.outH rfl (.tmp .nil) hg733
-- 23 ferrule/ferruleref03.Area
def F_ref03_Area_s1 (n : Nat) (s : Lap) : Int × Int → Option ((Int × Int) ⊕ Int)
 | (n_62, i_63) => if decide (i_63 < (s.Panels.length : Int)) = true then ((geti s.Panels i_63).bind fun y68 => (F_ref03_CellsOf n y68 (Place.mk 0 0 0)).bind fun y73 => some (Sum.inl ((w64 (n_62 + (y73.length : Int))), (w64 (i_63 + 1))))) else (some (Sum.inr n_62))
def F_ref03_Area (n : Nat) (s : Lap) : Option Int :=
 (loopO n (F_ref03_Area_s1 n s) (0, 0)).bind fun n_37 => some n_37
theorem c_ref03_Area (n : Nat) (H : Hp) (s : Lap) (s_v2 : Value) (hs_2 : SL H 2 R_Cell s_v2 s.Faults) (s_v3 : Value) (hs_3 : SL H 2 R_Cell s_v3 s.Flaws) (s_v4 : Value) (hs_4 : SL H 1 R_Panel s_v4 s.Panels) (y : Int) (hF : F_ref03_Area n s = some y) : SC Try.prog 23 [.agg [.int .i64 s.Width, .int .i64 s.Length, s_v2, s_v3, s_v4].toArray] (.int .i64 y) H := by
 rw [F_ref03_Area] at hF
 refine SC.of (N := 23) Try.func23 rfl rfl rfl fun w => ?_
 refine JC.seq (JC.region (by rfl) ?_)
 intro hQ
 refine JL.box (cs := [.int .i64 s.Width, .int .i64 s.Length, s_v2, s_v3, s_v4]) rfl .none rfl ?_
 intro b1
 refine JL.assign .none rfl ?_
 refine JL.done hQ (JQ.go (JC.seq (JC.region (by rfl) ?_)))
 intro hQ
 refine JL.assign .none rfl ?_
 refine JL.done hQ (JQ.go (JC.seq (JC.seq (JC.region (by rfl) ?_))))
 intro hQ
 refine JL.assign .none rfl ?_
 refine JL.done hQ (JQ.go ?_)
 obtain ⟨r39, hlr39, hKr39⟩ := bind_some hF
 refine JC.join (fun (n_37 : Int) H38 f bs gs => f 3 = .int .i64 n_37 ∧ bs = [] ∧ gs = [] ∧ HSub H H38 ∧ n_37 = r39) ?_ ?_
 ·skip
  refine JC.block (JC.loop hlr39 (fun (x : Int × Int) H64 f bs gs => match x with | (n_62, i_63) => f 1 = .pointer (some ⟨b1, 0, none⟩) ∧ f 3 = .int .i64 n_62 ∧ f 4 = .int .i64 i_63 ∧ bs = [(b1, .cells [.int .i64 s.Width, .int .i64 s.Length, s_v2, s_v3, s_v4].toArray 25)] ∧ gs = [] ∧ HSub H H64) ⟨rfl, rfl, rfl, rfl, rfl, (HSub.refl _)⟩ ?_)
  rintro ⟨n_62, i_63⟩ x66 H64 f bs gs ⟨hf1, hf3, hf4, rfl, rfl, hs64⟩ hF hr65
  rw [F_ref03_Area_s1] at hF
  refine (JC.norm (i := 1) hf1 (JC.norm (i := 3) hf3 (JC.norm (i := 4) hf4 ?_)))
  refine JC.seq (JC.seq (JC.region (by rfl) ?_))
  intro hQ
  refine JL.move .none rfl ?_
  refine JL.fieldAddr fo_25_4 rfl .none rfl ?_
  refine JL.loadOwn 0 az_23 rfl rfl rfl .none rfl ?_
  refine JL.lenSL (R := R_Panel) ul_23 (SL.mono R_Panel_mono hs64 hs_4) .none rfl ?_
  refine JL.bin rfl rfl rfl .none rfl ?_
  refine JL.done hQ (JQ.go ?_)
  rcases ite_some hF with ⟨hc67, hF⟩ | ⟨hc67, hF⟩
  ·refine JC.cond_t (b := decide (i_63 < (s.Panels.length : Int))) rfl hc67 ?_
   refine JC.skip (JQ.go (JC.seq (JC.block (JC.region (by rfl) ?_))))
   intro hQ
   refine JL.move .none rfl ?_
   refine JL.fieldAddr fo_25_4 rfl .none rfl ?_
   refine JL.loadOwn 0 az_23 rfl rfl rfl .none rfl ?_
   refine JL.move .none rfl ?_
   obtain ⟨y68, hy68, hF⟩ := bind_some hF
   refine JL.indexSL (R := R_Panel) sl_23 (SL.mono R_Panel_mono hs64 hs_4) rfl hy68 .none rfl ?_
   rintro b69 o70 cs71 hc72 - ⟨y68_v0, rfl, hy68_0⟩
   refine JL.loadH 0 az_30 rfl hc72 rfl .none rfl ?_
   refine JL.build (l := [.int .i64 0, .int .i64 0, .int .i64 0]) (by kernel_rfl) .none rfl ?_
   obtain ⟨y73, hy73, hF⟩ := bind_some hF
   refine JL.callH (c_ref03_CellsOf n H64 y68 y68_v0 hy68_0 (Place.mk 0 0 0) y73 hy73) rfl en_50 .none rfl ?_
   intro H74 y73a_v0 hs74 hy73a_0
   refine JL.lenSL (R := R_Cell) ul_22 hy73a_0 .none rfl ?_
   refine JL.bin rfl rfl rfl .none rfl ?_
   refine JL.assign .none rfl ?_
   refine JL.done hQ (JQ.normal_block (JQ.go (JC.fresh (fun f => f 1 = .pointer (some ⟨b1, 0, none⟩) ∧ f 3 = .int .i64 (w64 (n_62 + (y73.length : Int))) ∧ f 4 = .int .i64 i_63) ⟨rfl, rfl, rfl⟩ ?_)))
   rintro f ⟨hf1, hf3, hf4⟩
   refine (JC.norm (i := 1) hf1 (JC.norm (i := 3) hf3 (JC.norm (i := 4) hf4 ?_)))
   refine JC.region (by rfl) ?_
   intro hQ
   refine JL.move .none rfl ?_
   refine JL.bin rfl rfl rfl .none rfl ?_
   refine JL.assign .none rfl ?_
   refine JL.done hQ ?_
   obtain rfl := Option.some.inj hF
   exact JQ.next rfl ⟨rfl, rfl, rfl, rfl, rfl, (HSub.trans hs64 hs74)⟩
  ·refine JC.cond_f (b := decide (i_63 < (s.Panels.length : Int))) rfl hc67 ?_
   refine JC.exit (JQ.exit_then (JQ.exit_then (JQ.exit_block ?_)))
   obtain rfl := Option.some.inj hF
   have ehr65 := hr65 _ rfl
   subst ehr65
   refine JQ.mask [false] [] ?_
   exact JQ.join n_62 ⟨rfl, rfl, rfl, hs64, rfl⟩
 ·rintro n_37 H38 f bs gs ⟨hf3, rfl, rfl, hs38, rfl⟩
  have hF := hKr39
  try dsimp only at hF
  refine (JQ.norm (i := 3) hf3 ?_)
  refine JQ.go (JC.seq (JC.region (by rfl) ?_))
  intro hQ
  refine JL.move .none rfl ?_
  refine JL.assign .none rfl ?_
  refine JL.done hQ (JQ.go (JC.ret ?_))
  obtain rfl := Option.some.inj hF
  exact JQ.outS rfl (.tmp .nil) rfl
end Go.Proofs.Ytflhjlgimihmgaa
end
section
set_option maxRecDepth 100000
set_option maxHeartbeats 40000000
namespace Go.Proofs.Ytflhjlgimihmgaa
open Go Go.RowKit Go.Dec
set_option linter.unusedVariables false
-- 78 (ferrule/ferruleref03.cloth).fits
def F_ref03_cloth_fits_s2 (n : Nat) (c : ref03_cloth) (rows : List Span) (row : Int) (col : Int) (k_1426 : Int) : Int → Option (Int ⊕ ((Int ⊕ (Bool ⊕ Unit)) ⊕ Unit))
 | n_1665 => (geti rows k_1426).bind fun y1669 => if decide (n_1665 ≤ y1669.High) = true then ((if decide (c.rows ≤ (w64 (row + k_1426))) = true then (some true) else ((geti c.taken (w64 (row + k_1426))).bind fun y1683 => some (decide ((y1683.length : Int) ≤ (w64 (col + n_1665))))) : Option Bool).bind fun p1680 => (if p1680 = true then (some true) else ((geti c.taken (w64 (row + k_1426))).bind fun y1701 => (geti y1701 (w64 (col + n_1665))).bind fun y1706 => some y1706) : Option Bool).bind fun p1698 => if p1698 = true then (some (Sum.inr (Sum.inl (Sum.inr (Sum.inl false))))) else (some (Sum.inl (w64 (n_1665 + 1))))) else (some (Sum.inr (Sum.inr ())))
def F_ref03_cloth_fits_s1 (n : Nat) (c : ref03_cloth) (rows : List Span) (row : Int) (col : Int) : Int → Option (Int ⊕ (Bool ⊕ Unit))
 | k_1426 => if decide (k_1426 < (rows.length : Int)) = true then ((geti rows k_1426).bind fun y1431 => (loopO n (F_ref03_cloth_fits_s2 n c rows row col k_1426) y1431.Low).bind fun r1574 => match r1574 with | .inl o => some o | .inr _ => some (Sum.inl (w64 (k_1426 + 1)))) else (some (Sum.inr (Sum.inr ())))
def F_ref03_cloth_fits (n : Nat) (c : ref03_cloth) (rows : List Span) (row : Int) (col : Int) : Option Bool :=
 (loopO n (F_ref03_cloth_fits_s1 n c rows row col) 0).bind fun r857 => match r857 with | .inl o => some o | .inr _ => some true
theorem c_ref03_cloth_fits (n : Nat) (H : Hp) (c : ref03_cloth) (c_v0 : Value) (hc_0 : SL H 1 (RSl 1 RBool) c_v0 c.taken) (rows : List Span) (rows_v0 : Value) (hrows_0 : SL H 2 R_Span rows_v0 rows) (row : Int) (col : Int) (y : Bool) (hF : F_ref03_cloth_fits n c rows row col = some y) : SC Try.prog 78 [.agg [c_v0, .int .i64 c.rows].toArray, rows_v0, .int .i64 row, .int .i64 col] (.bool y) H := by
 rw [F_ref03_cloth_fits] at hF
 refine SC.of (N := 65) Try.func78 rfl rfl rfl fun w => ?_
 refine JC.seq (JC.region (by rfl) ?_)
 intro hQ
 refine JL.box (cs := [c_v0, .int .i64 c.rows]) rfl .none rfl ?_
 intro b1
 refine JL.assign .none rfl ?_
 refine JL.done hQ (JQ.go (JC.seq (JC.seq (JC.region (by rfl) ?_))))
 intro hQ
 refine JL.assign .none rfl ?_
 refine JL.done hQ (JQ.go ?_)
 obtain ⟨r857, hlr857, hKr857⟩ := bind_some hF
 refine JC.join (fun (_ : Unit) H856 f bs gs => bs = [] ∧ gs = [] ∧ HSub H H856 ∧ Sum.inr () = r857) ?_ ?_
 ·skip
  refine JC.block (JC.loop hlr857 (fun (k_1426 : Int) H1427 f bs gs => f 1 = rows_v0 ∧ f 2 = .int .i64 row ∧ f 3 = .int .i64 col ∧ f 4 = .pointer (some ⟨b1, 0, none⟩) ∧ f 9 = .int .i64 k_1426 ∧ bs = [(b1, .cells [c_v0, .int .i64 c.rows].toArray 112)] ∧ gs = [] ∧ HSub H H1427) ⟨rfl, rfl, rfl, rfl, rfl, rfl, rfl, (HSub.refl _)⟩ ?_)
  rintro k_1426 x1429 H1427 f bs gs ⟨hf1, hf2, hf3, hf4, hf9, rfl, rfl, hs1427⟩ hF hr1428
  rw [F_ref03_cloth_fits_s1] at hF
  refine (JC.norm (i := 1) hf1 (JC.norm (i := 2) hf2 (JC.norm (i := 3) hf3 (JC.norm (i := 4) hf4 (JC.norm (i := 9) hf9 ?_)))))
  refine JC.seq (JC.seq (JC.region (by rfl) ?_))
  intro hQ
  refine JL.move .none rfl ?_
  refine JL.move .none rfl ?_
  refine JL.lenSL (R := R_Span) ul_28 (SL.mono R_Span_mono hs1427 hrows_0) .none rfl ?_
  refine JL.bin rfl rfl rfl .none rfl ?_
  refine JL.done hQ (JQ.go ?_)
  rcases ite_some hF with ⟨hc1430, hF⟩ | ⟨hc1430, hF⟩
  ·refine JC.cond_t (b := decide (k_1426 < (rows.length : Int))) rfl hc1430 ?_
   refine JC.skip (JQ.go (JC.seq (JC.block (JC.seq (JC.region (by rfl) ?_)))))
   intro hQ
   refine JL.move .none rfl ?_
   refine JL.move .none rfl ?_
   obtain ⟨y1431, hy1431, hF⟩ := bind_some hF
   refine JL.indexSL (R := R_Span) sl_28 (SL.mono R_Span_mono hs1427 hrows_0) rfl hy1431 .none rfl ?_
   rintro b1432 o1433 cs1434 hc1435 - rfl
   refine JL.fieldAddr fo_46_0 rfl .none rfl ?_
   refine JL.loadH 0 az_3 rfl hc1435 rfl .none rfl ?_
   refine JL.assign .none rfl ?_
   refine JL.done hQ (JQ.go (JC.fresh (fun f => f 1 = rows_v0 ∧ f 2 = .int .i64 row ∧ f 3 = .int .i64 col ∧ f 4 = .pointer (some ⟨b1, 0, none⟩) ∧ f 9 = .int .i64 k_1426 ∧ f 10 = .int .i64 y1431.Low) ⟨rfl, rfl, rfl, rfl, rfl, rfl⟩ ?_))
   rintro f ⟨hf1, hf2, hf3, hf4, hf9, hf10⟩
   refine (JC.norm (i := 1) hf1 (JC.norm (i := 2) hf2 (JC.norm (i := 3) hf3 (JC.norm (i := 4) hf4 (JC.norm (i := 9) hf9 (JC.norm (i := 10) hf10 ?_))))))
   obtain ⟨r1574, hlr1574, hKr1574⟩ := bind_some hF
   refine JC.join (fun (_ : Unit) H1573 f bs gs => f 1 = rows_v0 ∧ f 2 = .int .i64 row ∧ f 3 = .int .i64 col ∧ f 4 = .pointer (some ⟨b1, 0, none⟩) ∧ f 9 = .int .i64 k_1426 ∧ bs = [(b1, .cells [c_v0, .int .i64 c.rows].toArray 112)] ∧ gs = [] ∧ HSub H1427 H1573 ∧ Sum.inr () = r1574) ?_ ?_
   ·skip
    refine JC.block (JC.loop hlr1574 (fun (n_1665 : Int) H1666 f bs gs => f 1 = rows_v0 ∧ f 2 = .int .i64 row ∧ f 3 = .int .i64 col ∧ f 4 = .pointer (some ⟨b1, 0, none⟩) ∧ f 9 = .int .i64 k_1426 ∧ f 10 = .int .i64 n_1665 ∧ bs = [(b1, .cells [c_v0, .int .i64 c.rows].toArray 112)] ∧ gs = [] ∧ HSub H1427 H1666) ⟨rfl, rfl, rfl, rfl, rfl, rfl, rfl, rfl, (HSub.refl _)⟩ ?_)
    rintro n_1665 x1668 H1666 f bs gs ⟨hf1, hf2, hf3, hf4, hf9, hf10, rfl, rfl, hs1666⟩ hF hr1667
    rw [F_ref03_cloth_fits_s2] at hF
    refine (JC.norm (i := 1) hf1 (JC.norm (i := 2) hf2 (JC.norm (i := 3) hf3 (JC.norm (i := 4) hf4 (JC.norm (i := 9) hf9 (JC.norm (i := 10) hf10 ?_))))))
    refine JC.seq (JC.seq (JC.region (by rfl) ?_))
    intro hQ
    refine JL.move .none rfl ?_
    refine JL.move .none rfl ?_
    refine JL.move .none rfl ?_
    obtain ⟨y1669, hy1669, hF⟩ := bind_some hF
    refine JL.indexSL (R := R_Span) sl_28 (SL.mono R_Span_mono (HSub.trans hs1427 hs1666) hrows_0) rfl hy1669 .none rfl ?_
    rintro b1670 o1671 cs1672 hc1673 - rfl
    refine JL.fieldAddr fo_46_1 rfl .none rfl ?_
    refine JL.loadH 1 az_3 rfl hc1673 rfl .none rfl ?_
    refine JL.bin rfl rfl rfl .none rfl ?_
    refine JL.done hQ (JQ.go ?_)
    rcases ite_some hF with ⟨hc1674, hF⟩ | ⟨hc1674, hF⟩
    ·refine JC.cond_t (b := decide (n_1665 ≤ y1669.High)) rfl hc1674 ?_
     refine JC.skip (JQ.go (JC.seq (JC.block (JC.seq (JC.region (by rfl) ?_)))))
     intro hQ
     refine JL.move .none rfl ?_
     refine JL.move .none rfl ?_
     refine JL.bin rfl rfl rfl .none rfl ?_
     refine JL.fieldAddr fo_112_1 rfl .none rfl ?_
     refine JL.loadOwn 0 az_3 rfl rfl rfl .none rfl ?_
     refine JL.bin rfl rfl rfl .none rfl ?_
     refine JL.move .none rfl ?_
     obtain ⟨p1680, hp1680, hF⟩ := bind_some hF
     refine JL.cut 13 (fun f => f 1 = rows_v0 ∧ f 2 = .int .i64 row ∧ f 3 = .int .i64 col ∧ f 4 = .pointer (some ⟨b1, 0, none⟩) ∧ f 9 = .int .i64 k_1426 ∧ f 10 = .int .i64 n_1665 ∧ f 50 = .bool p1680) ?_ ?_
     ·intro hJ1681
      rcases ite_some hp1680 with ⟨hc1682, hF⟩ | ⟨hc1682, hF⟩
      ·skip
       refine JL.skip (.bool rfl rfl rfl hc1682) rfl ?_
       refine JL.skip (.bool rfl rfl rfl hc1682) rfl ?_
       refine JL.skip (.bool rfl rfl rfl hc1682) rfl ?_
       refine JL.skip (.bool rfl rfl rfl hc1682) rfl ?_
       refine JL.skip (.bool rfl rfl rfl hc1682) rfl ?_
       refine JL.skip (.bool rfl rfl rfl hc1682) rfl ?_
       refine JL.skip (.bool rfl rfl rfl hc1682) rfl ?_
       refine JL.skip (.bool rfl rfl rfl hc1682) rfl ?_
       refine JL.skip (.bool rfl rfl rfl hc1682) rfl ?_
       refine JL.skip (.bool rfl rfl rfl hc1682) rfl ?_
       refine JL.skip (.bool rfl rfl rfl hc1682) rfl ?_
       refine JL.skip (.bool rfl rfl rfl hc1682) rfl ?_
       refine JL.pick_t (b := decide (c.rows ≤ (w64 (row + k_1426)))) rfl hc1682 .none rfl ?_
       obtain rfl := Option.some.inj hF
       exact hJ1681 _ ⟨rfl, rfl, rfl, rfl, rfl, rfl, rfl⟩
      ·skip
       refine JL.move (.some rfl rfl rfl hc1682) rfl ?_
       refine JL.move (.some rfl rfl rfl hc1682) rfl ?_
       refine JL.bin rfl rfl rfl (.some rfl rfl rfl hc1682) rfl ?_
       refine JL.fieldAddr fo_112_0 rfl (.some rfl rfl rfl hc1682) rfl ?_
       refine JL.loadOwn 0 az_110 rfl rfl rfl (.some rfl rfl rfl hc1682) rfl ?_
       refine JL.move (.some rfl rfl rfl hc1682) rfl ?_
       refine JL.move (.some rfl rfl rfl hc1682) rfl ?_
       refine JL.bin rfl rfl rfl (.some rfl rfl rfl hc1682) rfl ?_
       obtain ⟨y1683, hy1683, hF⟩ := bind_some hF
       refine JL.indexSL (R := (RSl 1 RBool)) sl_110 (SL.mono (RSl.mono RBool.mono) (HSub.trans hs1427 hs1666) hc_0) rfl hy1683 (.some rfl rfl rfl hc1682) rfl ?_
       rintro b1684 o1685 cs1686 hc1687 - ⟨y1683_v0, rfl, hy1683_0⟩
       refine JL.loadH 0 az_113 rfl hc1687 rfl (.some rfl rfl rfl hc1682) rfl ?_
       refine JL.lenSL (R := RBool) ul_113 hy1683_0 (.some rfl rfl rfl hc1682) rfl ?_
       refine JL.bin rfl rfl rfl (.some rfl rfl rfl hc1682) rfl ?_
       refine JL.pick_f (b := decide (c.rows ≤ (w64 (row + k_1426)))) rfl hc1682 .none rfl ?_
       obtain rfl := Option.some.inj hF
       exact hJ1681 _ ⟨rfl, rfl, rfl, rfl, rfl, rfl, rfl⟩
     ·rintro f ⟨hf1, hf2, hf3, hf4, hf9, hf10, hf50⟩
      refine (JL.norm (i := 1) hf1 (JL.norm (i := 2) hf2 (JL.norm (i := 3) hf3 (JL.norm (i := 4) hf4 (JL.norm (i := 9) hf9 (JL.norm (i := 10) hf10 (JL.norm (i := 50) hf50 ?_)))))))
      refine JL.move .none rfl ?_
      obtain ⟨p1698, hp1698, hF⟩ := bind_some hF
      refine JL.cut 13 (fun f => f 1 = rows_v0 ∧ f 2 = .int .i64 row ∧ f 3 = .int .i64 col ∧ f 4 = .pointer (some ⟨b1, 0, none⟩) ∧ f 9 = .int .i64 k_1426 ∧ f 10 = .int .i64 n_1665 ∧ f 64 = .bool p1698) ?_ ?_
      ·intro hJ1699
       rcases ite_some hp1698 with ⟨hc1700, hF⟩ | ⟨hc1700, hF⟩
       ·skip
        refine JL.skip (.bool rfl rfl rfl hc1700) rfl ?_
        refine JL.skip (.bool rfl rfl rfl hc1700) rfl ?_
        refine JL.skip (.bool rfl rfl rfl hc1700) rfl ?_
        refine JL.skip (.bool rfl rfl rfl hc1700) rfl ?_
        refine JL.skip (.bool rfl rfl rfl hc1700) rfl ?_
        refine JL.skip (.bool rfl rfl rfl hc1700) rfl ?_
        refine JL.skip (.bool rfl rfl rfl hc1700) rfl ?_
        refine JL.skip (.bool rfl rfl rfl hc1700) rfl ?_
        refine JL.skip (.bool rfl rfl rfl hc1700) rfl ?_
        refine JL.skip (.bool rfl rfl rfl hc1700) rfl ?_
        refine JL.skip (.bool rfl rfl rfl hc1700) rfl ?_
        refine JL.skip (.bool rfl rfl rfl hc1700) rfl ?_
        refine JL.pick_t (b := p1680) rfl hc1700 .none rfl ?_
        obtain rfl := Option.some.inj hF
        exact hJ1699 _ ⟨rfl, rfl, rfl, rfl, rfl, rfl, rfl⟩
       ·skip
        refine JL.fieldAddr fo_112_0 rfl (.some rfl rfl rfl hc1700) rfl ?_
        refine JL.loadOwn 0 az_110 rfl rfl rfl (.some rfl rfl rfl hc1700) rfl ?_
        refine JL.move (.some rfl rfl rfl hc1700) rfl ?_
        refine JL.move (.some rfl rfl rfl hc1700) rfl ?_
        refine JL.bin rfl rfl rfl (.some rfl rfl rfl hc1700) rfl ?_
        obtain ⟨y1701, hy1701, hF⟩ := bind_some hF
        refine JL.indexSL (R := (RSl 1 RBool)) sl_110 (SL.mono (RSl.mono RBool.mono) (HSub.trans hs1427 hs1666) hc_0) rfl hy1701 (.some rfl rfl rfl hc1700) rfl ?_
        rintro b1702 o1703 cs1704 hc1705 - ⟨y1701_v0, rfl, hy1701_0⟩
        refine JL.loadH 0 az_113 rfl hc1705 rfl (.some rfl rfl rfl hc1700) rfl ?_
        refine JL.move (.some rfl rfl rfl hc1700) rfl ?_
        refine JL.move (.some rfl rfl rfl hc1700) rfl ?_
        refine JL.bin rfl rfl rfl (.some rfl rfl rfl hc1700) rfl ?_
        obtain ⟨y1706, hy1706, hF⟩ := bind_some hF
        refine JL.indexSL (R := RBool) sl_113 hy1701_0 rfl hy1706 (.some rfl rfl rfl hc1700) rfl ?_
        rintro b1707 o1708 cs1709 hc1710 - rfl
        refine JL.loadH 0 az_4 rfl hc1710 rfl (.some rfl rfl rfl hc1700) rfl ?_
        refine JL.pick_f (b := p1680) rfl hc1700 .none rfl ?_
        obtain rfl := Option.some.inj hF
        exact hJ1699 _ ⟨rfl, rfl, rfl, rfl, rfl, rfl, rfl⟩
      ·rintro f ⟨hf1, hf2, hf3, hf4, hf9, hf10, hf64⟩
       refine (JL.norm (i := 1) hf1 (JL.norm (i := 2) hf2 (JL.norm (i := 3) hf3 (JL.norm (i := 4) hf4 (JL.norm (i := 9) hf9 (JL.norm (i := 10) hf10 (JL.norm (i := 64) hf64 ?_)))))))
       refine JL.done hQ (JQ.go ?_)
       rcases ite_some hF with ⟨hc1711, hF⟩ | ⟨hc1711, hF⟩
       ·refine JC.cond_t (b := p1698) rfl hc1711 ?_
        refine JC.seq (JC.region (by rfl) ?_)
        intro hQ
        refine JL.assign .none rfl ?_
        refine JL.done hQ (JQ.go (JC.ret (JQ.ret_block (JQ.ret_then (JQ.ret_then (JQ.ret_block (JQ.ret_join (JQ.ret_block (JQ.ret_then (JQ.ret_then (JQ.ret_block (JQ.ret_join (JQ.ret_then ?_)))))))))))))
        obtain rfl := Option.some.inj hF
        have ehr1667 := hr1667 _ rfl
        subst ehr1667
        have hF := hKr1574
        try dsimp only at hF
        obtain rfl := Option.some.inj hF
        have ehr1428 := hr1428 _ rfl
        subst ehr1428
        have hF := hKr857
        try dsimp only at hF
        obtain rfl := Option.some.inj hF
        exact JQ.outS rfl (.tmp .nil) rfl
       ·refine JC.cond_f (b := p1698) rfl hc1711 ?_
        refine JC.skip (JQ.normal_block (JQ.go (JC.region (by rfl) ?_)))
        intro hQ
        refine JL.move .none rfl ?_
        refine JL.bin rfl rfl rfl .none rfl ?_
        refine JL.assign .none rfl ?_
        refine JL.done hQ ?_
        obtain rfl := Option.some.inj hF
        exact JQ.next rfl ⟨rfl, rfl, rfl, rfl, rfl, rfl, rfl, rfl, hs1666⟩
    ·refine JC.cond_f (b := decide (n_1665 ≤ y1669.High)) rfl hc1674 ?_
     refine JC.exit (JQ.exit_then (JQ.exit_then (JQ.exit_block ?_)))
     obtain rfl := Option.some.inj hF
     have ehr1667 := hr1667 _ rfl
     subst ehr1667
     exact JQ.join () ⟨rfl, rfl, rfl, rfl, rfl, rfl, rfl, hs1666, rfl⟩
   ·rintro _ H1573 f bs gs ⟨hf1, hf2, hf3, hf4, hf9, rfl, rfl, hs1573, rfl⟩
    have hF := hKr1574
    try dsimp only at hF
    refine (JQ.norm (i := 1) hf1 (JQ.norm (i := 2) hf2 (JQ.norm (i := 3) hf3 (JQ.norm (i := 4) hf4 (JQ.norm (i := 9) hf9 ?_)))))
    refine JQ.normal_block (JQ.go (JC.region (by rfl) ?_))
    intro hQ
    refine JL.move .none rfl ?_
    refine JL.bin rfl rfl rfl .none rfl ?_
    refine JL.assign .none rfl ?_
    refine JL.done hQ ?_
    obtain rfl := Option.some.inj hF
    exact JQ.next rfl ⟨rfl, rfl, rfl, rfl, rfl, rfl, rfl, (HSub.trans hs1427 hs1573)⟩
  ·refine JC.cond_f (b := decide (k_1426 < (rows.length : Int))) rfl hc1430 ?_
   refine JC.exit (JQ.exit_then (JQ.exit_then (JQ.exit_block ?_)))
   obtain rfl := Option.some.inj hF
   have ehr1428 := hr1428 _ rfl
   subst ehr1428
   refine JQ.mask [false] [] ?_
   exact JQ.join () ⟨rfl, rfl, hs1427, rfl⟩
 ·rintro _ H856 f bs gs ⟨rfl, rfl, hs856, rfl⟩
  have hF := hKr857
  try dsimp only at hF
  refine JQ.go (JC.seq (JC.region (by rfl) ?_))
  intro hQ
  refine JL.assign .none rfl ?_
  refine JL.done hQ (JQ.go (JC.ret ?_))
  obtain rfl := Option.some.inj hF
  exact JQ.outS rfl (.tmp .nil) rfl
-- 79 (ferrule/ferruleref03.cloth).cover
def F_ref03_cloth_cover_s2 (n : Nat) (rows : List Span) (row : Int) (col : Int) (taken : Bool) (k_627 : Int) : Int × Mx → Option ((Int × Mx) ⊕ Mx)
 | (n_733, mx_734) => (geti rows k_627).bind fun y738 => if decide (n_733 ≤ y738.High) = true then ((geti mx_734 (w64 (row + k_627))).bind fun y744 => (geti y744 (w64 (col + n_733))).bind fun e752 => some (Sum.inl ((w64 (n_733 + 1)), (setx mx_734 (w64 (row + k_627)) (setx y744 (w64 (col + n_733)) taken))))) else (some (Sum.inr mx_734))
def F_ref03_cloth_cover_s1 (n : Nat) (rows : List Span) (row : Int) (col : Int) (taken : Bool) : Int × Mx → Option ((Int × Mx) ⊕ Mx)
 | (k_627, mx_628) => if decide (k_627 < (rows.length : Int)) = true then ((geti rows k_627).bind fun y633 => (loopO n (F_ref03_cloth_cover_s2 n rows row col taken k_627) (y633.Low, mx_628)).bind fun mx_694 => some (Sum.inl ((w64 (k_627 + 1)), mx_694))) else (some (Sum.inr mx_628))
def F_ref03_cloth_cover (n : Nat) (c_m : Mx) (c_r : Int) (rows : List Span) (row : Int) (col : Int) (taken : Bool) : Option (Mx) :=
 (loopO n (F_ref03_cloth_cover_s1 n rows row col taken) (0, c_m)).bind fun mx_376 => some mx_376
theorem c_ref03_cloth_cover (n : Nat) (H : Hp) (c_m : Mx) (c_w : Nat) (c_wb : c_w ≤ 9223372036854775807) (c_bl : List Nat) (c_ok : Mok c_w c_bl c_m) (c_v : Value) (c_s : SL H 1 (RBk c_w) c_v c_bl) (c_r : Int) (bT : List (Nat × Obj)) (gT : List GS) (rows : List Span) (rows_v0 : Value) (hrows_0 : SL H 2 R_Span rows_v0 rows) (row : Int) (col : Int) (taken : Bool) (y : Mx) (hF : F_ref03_cloth_cover n c_m c_r rows row col taken = some y) : ∀ (B : Bs) (w : World) (hs : St B H ((mxB 4 c_bl c_m ++ bT)) gT w), Calls Try.prog 79 [.agg [c_v, .int .i64 c_r].toArray, rows_v0, .int .i64 row, .int .i64 col, .bool taken].toArray w (RetW B (fun v H' bs' gs' => v = resw [] ∧ HSub H H' ∧ bs' = mxB 4 c_bl y ++ bT ∧ gs' = gT ∧ Mok c_w c_bl y)) := by
 intro B w hs
 rw [F_ref03_cloth_cover] at hF
 refine calls_of (N := 44) Try.func79 rfl rfl rfl hs ?_
 clear hs
 refine JC.seq (JC.region (by rfl) ?_)
 intro hQ
 refine JL.box (cs := [c_v, .int .i64 c_r]) rfl .none rfl ?_
 intro b1
 refine JL.done hQ (JQ.go (JC.seq (JC.region (by rfl) ?_)))
 intro hQ
 refine JL.assign .none rfl ?_
 refine JL.done hQ (JQ.go ?_)
 obtain ⟨r378, hlr378, hKr378⟩ := bind_some hF
 refine JC.join (fun (mx_376 : Mx) H377 f bs gs => bs = ((mxB 4 c_bl mx_376 ++ bT)) ∧ gT = gs ∧ Mok c_w c_bl mx_376 ∧ HSub H H377 ∧ mx_376 = r378) ?_ ?_
 ·skip
  refine JC.block (JC.loop hlr378 (fun (x : Int × Mx) H629 f bs gs => match x with | (k_627, mx_628) => f 1 = rows_v0 ∧ f 2 = .int .i64 row ∧ f 3 = .int .i64 col ∧ f 4 = .bool taken ∧ f 5 = .pointer (some ⟨b1, 0, none⟩) ∧ f 10 = .int .i64 k_627 ∧ bs = ((b1, .cells [c_v, .int .i64 c_r].toArray 112) :: (mxB 4 c_bl mx_628 ++ bT)) ∧ gT = gs ∧ Mok c_w c_bl mx_628 ∧ HSub H H629) ⟨rfl, rfl, rfl, rfl, rfl, rfl, rfl, rfl, c_ok, (HSub.refl _)⟩ ?_)
  rintro ⟨k_627, mx_628⟩ x631 H629 f bs gs ⟨hf1, hf2, hf3, hf4, hf5, hf10, rfl, rfl, hmx_628, hs629⟩ hF hr630
  rw [F_ref03_cloth_cover_s1] at hF
  refine (JC.norm (i := 1) hf1 (JC.norm (i := 2) hf2 (JC.norm (i := 3) hf3 (JC.norm (i := 4) hf4 (JC.norm (i := 5) hf5 (JC.norm (i := 10) hf10 ?_))))))
  refine JC.seq (JC.seq (JC.region (by rfl) ?_))
  intro hQ
  refine JL.move .none rfl ?_
  refine JL.move .none rfl ?_
  refine JL.lenSL (R := R_Span) ul_28 (SL.mono R_Span_mono hs629 hrows_0) .none rfl ?_
  refine JL.bin rfl rfl rfl .none rfl ?_
  refine JL.done hQ (JQ.go ?_)
  rcases ite_some hF with ⟨hc632, hF⟩ | ⟨hc632, hF⟩
  ·refine JC.cond_t (b := decide (k_627 < (rows.length : Int))) rfl hc632 ?_
   refine JC.skip (JQ.go (JC.seq (JC.block (JC.seq (JC.region (by rfl) ?_)))))
   intro hQ
   refine JL.move .none rfl ?_
   refine JL.move .none rfl ?_
   obtain ⟨y633, hy633, hF⟩ := bind_some hF
   refine JL.indexSL (R := R_Span) sl_28 (SL.mono R_Span_mono hs629 hrows_0) rfl hy633 .none rfl ?_
   rintro b634 o635 cs636 hc637 - rfl
   refine JL.fieldAddr fo_46_0 rfl .none rfl ?_
   refine JL.loadH 0 az_3 rfl hc637 rfl .none rfl ?_
   refine JL.assign .none rfl ?_
   refine JL.done hQ (JQ.go (JC.fresh (fun f => f 1 = rows_v0 ∧ f 2 = .int .i64 row ∧ f 3 = .int .i64 col ∧ f 4 = .bool taken ∧ f 5 = .pointer (some ⟨b1, 0, none⟩) ∧ f 10 = .int .i64 k_627 ∧ f 11 = .int .i64 y633.Low) ⟨rfl, rfl, rfl, rfl, rfl, rfl, rfl⟩ ?_))
   rintro f ⟨hf1, hf2, hf3, hf4, hf5, hf10, hf11⟩
   refine (JC.norm (i := 1) hf1 (JC.norm (i := 2) hf2 (JC.norm (i := 3) hf3 (JC.norm (i := 4) hf4 (JC.norm (i := 5) hf5 (JC.norm (i := 10) hf10 (JC.norm (i := 11) hf11 ?_)))))))
   obtain ⟨r696, hlr696, hKr696⟩ := bind_some hF
   refine JC.join (fun (mx_694 : Mx) H695 f bs gs => f 1 = rows_v0 ∧ f 2 = .int .i64 row ∧ f 3 = .int .i64 col ∧ f 4 = .bool taken ∧ f 5 = .pointer (some ⟨b1, 0, none⟩) ∧ f 10 = .int .i64 k_627 ∧ bs = ((b1, .cells [c_v, .int .i64 c_r].toArray 112) :: (mxB 4 c_bl mx_694 ++ bT)) ∧ gT = gs ∧ Mok c_w c_bl mx_694 ∧ HSub H629 H695 ∧ mx_694 = r696) ?_ ?_
   ·skip
    refine JC.block (JC.loop hlr696 (fun (x : Int × Mx) H735 f bs gs => match x with | (n_733, mx_734) => f 1 = rows_v0 ∧ f 2 = .int .i64 row ∧ f 3 = .int .i64 col ∧ f 4 = .bool taken ∧ f 5 = .pointer (some ⟨b1, 0, none⟩) ∧ f 10 = .int .i64 k_627 ∧ f 11 = .int .i64 n_733 ∧ bs = ((b1, .cells [c_v, .int .i64 c_r].toArray 112) :: (mxB 4 c_bl mx_734 ++ bT)) ∧ gT = gs ∧ Mok c_w c_bl mx_734 ∧ HSub H629 H735) ⟨rfl, rfl, rfl, rfl, rfl, rfl, rfl, rfl, rfl, hmx_628, (HSub.refl _)⟩ ?_)
    rintro ⟨n_733, mx_734⟩ x737 H735 f bs gs ⟨hf1, hf2, hf3, hf4, hf5, hf10, hf11, rfl, rfl, hmx_734, hs735⟩ hF hr736
    rw [F_ref03_cloth_cover_s2] at hF
    refine (JC.norm (i := 1) hf1 (JC.norm (i := 2) hf2 (JC.norm (i := 3) hf3 (JC.norm (i := 4) hf4 (JC.norm (i := 5) hf5 (JC.norm (i := 10) hf10 (JC.norm (i := 11) hf11 ?_)))))))
    refine JC.seq (JC.seq (JC.region (by rfl) ?_))
    intro hQ
    refine JL.move .none rfl ?_
    refine JL.move .none rfl ?_
    refine JL.move .none rfl ?_
    obtain ⟨y738, hy738, hF⟩ := bind_some hF
    refine JL.indexSL (R := R_Span) sl_28 (SL.mono R_Span_mono (HSub.trans hs629 hs735) hrows_0) rfl hy738 .none rfl ?_
    rintro b739 o740 cs741 hc742 - rfl
    refine JL.fieldAddr fo_46_1 rfl .none rfl ?_
    refine JL.loadH 1 az_3 rfl hc742 rfl .none rfl ?_
    refine JL.bin rfl rfl rfl .none rfl ?_
    refine JL.done hQ (JQ.go ?_)
    rcases ite_some hF with ⟨hc743, hF⟩ | ⟨hc743, hF⟩
    ·refine JC.cond_t (b := decide (n_733 ≤ y738.High)) rfl hc743 ?_
     refine JC.skip (JQ.go (JC.seq (JC.block (JC.region (by rfl) ?_))))
     intro hQ
     refine JL.fieldAddr fo_112_0 rfl .none rfl ?_
     refine JL.loadOwn 0 az_110 rfl rfl rfl .none rfl ?_
     refine JL.move .none rfl ?_
     refine JL.move .none rfl ?_
     refine JL.bin rfl rfl rfl .none rfl ?_
     obtain ⟨y744, hy744, hF⟩ := bind_some hF
     obtain ⟨⟨b745, hb746⟩, hl747⟩ := hmx_734.at hy744
     refine JL.indexSL (R := RBk c_w) sl_110 (SL.mono RBk.mono (HSub.trans hs629 hs735) c_s) rfl hb746 .none rfl ?_
     rintro b748 o749 cs750 hc751 - rfl
     refine JL.loadH 0 az_113 rfl hc751 rfl .none rfl ?_
     refine JL.move .none rfl ?_
     refine JL.move .none rfl ?_
     refine JL.bin rfl rfl rfl .none rfl ?_
     refine JL.move .none rfl ?_
     obtain ⟨e752, he752, hF⟩ := bind_some hF
     refine JL.mxEl sl_113 rfl rfl hl747 he752 .none rfl ?_
     refine JL.storeMx [(b1, .cells ([c_v, .int .i64 c_r] : List Value).toArray 112)] bT az_4 rfl rfl hmx_734 hb746 hy744 he752 .none ?_
     refine JL.done hQ (JQ.normal_block (JQ.go (JC.fresh (fun f => f 1 = rows_v0 ∧ f 2 = .int .i64 row ∧ f 3 = .int .i64 col ∧ f 4 = .bool taken ∧ f 5 = .pointer (some ⟨b1, 0, none⟩) ∧ f 10 = .int .i64 k_627 ∧ f 11 = .int .i64 n_733) ⟨rfl, rfl, rfl, rfl, rfl, rfl, rfl⟩ ?_)))
     rintro f ⟨hf1, hf2, hf3, hf4, hf5, hf10, hf11⟩
     refine (JC.norm (i := 1) hf1 (JC.norm (i := 2) hf2 (JC.norm (i := 3) hf3 (JC.norm (i := 4) hf4 (JC.norm (i := 5) hf5 (JC.norm (i := 10) hf10 (JC.norm (i := 11) hf11 ?_)))))))
     refine JC.region (by rfl) ?_
     intro hQ
     refine JL.move .none rfl ?_
     refine JL.bin rfl rfl rfl .none rfl ?_
     refine JL.assign .none rfl ?_
     refine JL.done hQ ?_
     obtain rfl := Option.some.inj hF
     exact JQ.next rfl ⟨rfl, rfl, rfl, rfl, rfl, rfl, rfl, rfl, rfl, (Mok.set hmx_734 hy744 (setx_len _ _ _)), hs735⟩
    ·refine JC.cond_f (b := decide (n_733 ≤ y738.High)) rfl hc743 ?_
     refine JC.exit (JQ.exit_then (JQ.exit_then (JQ.exit_block ?_)))
     obtain rfl := Option.some.inj hF
     have ehr736 := hr736 _ rfl
     subst ehr736
     exact JQ.join mx_734 ⟨rfl, rfl, rfl, rfl, rfl, rfl, rfl, rfl, hmx_734, hs735, rfl⟩
   ·rintro mx_694 H695 f bs gs ⟨hf1, hf2, hf3, hf4, hf5, hf10, rfl, rfl, hmx_694, hs695, rfl⟩
    have hF := hKr696
    try dsimp only at hF
    refine (JQ.norm (i := 1) hf1 (JQ.norm (i := 2) hf2 (JQ.norm (i := 3) hf3 (JQ.norm (i := 4) hf4 (JQ.norm (i := 5) hf5 (JQ.norm (i := 10) hf10 ?_))))))
    refine JQ.normal_block (JQ.go (JC.region (by rfl) ?_))
    intro hQ
    refine JL.move .none rfl ?_
    refine JL.bin rfl rfl rfl .none rfl ?_
    refine JL.assign .none rfl ?_
    refine JL.done hQ ?_
    obtain rfl := Option.some.inj hF
    exact JQ.next rfl ⟨rfl, rfl, rfl, rfl, rfl, rfl, rfl, rfl, hmx_694, (HSub.trans hs629 hs695)⟩
  ·refine JC.cond_f (b := decide (k_627 < (rows.length : Int))) rfl hc632 ?_
   refine JC.exit (JQ.exit_then (JQ.exit_then (JQ.exit_block ?_)))
   obtain rfl := Option.some.inj hF
   have ehr630 := hr630 _ rfl
   subst ehr630
   refine JQ.mask [false] [] ?_
   exact JQ.join mx_628 ⟨rfl, rfl, hmx_628, hs629, rfl⟩
 ·rintro mx_376 H377 f bs gs ⟨rfl, rfl, hmx_376, hs377, rfl⟩
  have hF := hKr378
  try dsimp only at hF
  obtain rfl := Option.some.inj hF
  exact JQ.fellW rfl .nil ⟨rfl, hs377, rfl, rfl, hmx_376⟩
-- 73 (ferrule/ferruleref03.cloth).can
def F_ref03_cloth_can_s3 (n : Nat) (rec : Mx → Int → (List Panel) → Option (Bool × Mx)) (c_r : Int) (panels : List Panel) (rows_8452 : List Span) (row_9843 : Int) : Int × Mx → Option ((Int × Mx) ⊕ (((Int × Mx) ⊕ (((Int × Mx) ⊕ ((Bool × Mx) ⊕ Mx)) ⊕ Mx)) ⊕ Mx))
 | (col_10074, mx_10075) => (geti mx_10075 0).bind fun y10079 => if decide (col_10074 < (y10079.length : Int)) = true then ((F_ref03_cloth_fits n (ref03_cloth.mk mx_10075 c_r) rows_8452 row_9843 col_10074).bind fun y10088 => if (!y10088) = true then (some (Sum.inl ((w64 (col_10074 + 1)), mx_10075))) else ((F_ref03_cloth_cover n mx_10075 c_r rows_8452 row_9843 col_10074 true).bind fun y10092 => (slc panels 1 panels.length).bind fun y10098 => (rec y10092 c_r y10098).bind fun y10101 => (F_ref03_cloth_cover n y10101.2 c_r rows_8452 row_9843 col_10074 false).bind fun y10116 => if y10101.1 = true then (some (Sum.inr (Sum.inl (Sum.inr (Sum.inl (Sum.inr (Sum.inl (true, y10116)))))))) else (some (Sum.inl ((w64 (col_10074 + 1)), y10116))))) else (some (Sum.inr (Sum.inr mx_10075)))
def F_ref03_cloth_can_s2 (n : Nat) (rec : Mx → Int → (List Panel) → Option (Bool × Mx)) (c_r : Int) (panels : List Panel) (rows_8452 : List Span) : Int × Mx → Option ((Int × Mx) ⊕ (((Int × Mx) ⊕ ((Bool × Mx) ⊕ Mx)) ⊕ Mx))
 | (row_9843, mx_9844) => if decide ((w64 (row_9843 + (rows_8452.length : Int))) ≤ c_r) = true then ((loopO n (F_ref03_cloth_can_s3 n rec c_r panels rows_8452 row_9843) (0, mx_9844)).bind fun r9985 => match r9985 with | .inl o => some o | .inr mx_9983 => some (Sum.inl ((w64 (row_9843 + 1)), mx_9983))) else (some (Sum.inr (Sum.inr mx_9844)))
def F_ref03_cloth_can_s1 (n : Nat) (rec : Mx → Int → (List Panel) → Option (Bool × Mx)) (c_r : Int) (panels : List Panel) : Int × Mx → Option ((Int × Mx) ⊕ ((Bool × Mx) ⊕ Mx))
 | (turned_8433, mx_8434) => if decide (turned_8433 < 2) = true then ((geti panels 0).bind fun y8439 => (if (turned_8433 == 1) = true then ((geti panels 0).bind fun y8456 => (F_ref03_TurnedRows n y8456).bind fun y8461 => some y8461) else (some y8439.Rows)).bind fun rows_8452 => (loopO n (F_ref03_cloth_can_s2 n rec c_r panels rows_8452) (0, mx_8434)).bind fun r9292 => match r9292 with | .inl o => some o | .inr mx_9290 => some (Sum.inl ((w64 (turned_8433 + 1)), mx_9290))) else (some (Sum.inr (Sum.inr mx_8434)))
def F_ref03_cloth_can : Nat → Mx → Int → (List Panel) → Option (Bool × Mx)
 | 0, _, _, _ => none
 | n + 1, c_m, c_r, panels => (fun rec => if ((panels.length : Int) == 0) = true then (some (true, c_m)) else ((loopO n (F_ref03_cloth_can_s1 n rec c_r panels) (0, c_m)).bind fun r5062 => match r5062 with | .inl o => some o | .inr mx_5060 => some (false, mx_5060))) (F_ref03_cloth_can n)
theorem c_ref03_cloth_can (n : Nat) : ∀ (H : Hp) (c_m : Mx) (c_w : Nat) (c_wb : c_w ≤ 9223372036854775807) (c_bl : List Nat) (c_ok : Mok c_w c_bl c_m) (c_v : Value) (c_s : SL H 1 (RBk c_w) c_v c_bl) (c_r : Int) (bT : List (Nat × Obj)) (gT : List GS) (panels : List Panel) (panels_v0 : Value) (hpanels_0 : SL H 1 R_Panel panels_v0 panels) (y : Bool × Mx) (hF : F_ref03_cloth_can n c_m c_r panels = some y), ∀ (B : Bs) (w : World) (hs : St B H ((mxB 4 c_bl c_m ++ bT)) gT w), Calls Try.prog 73 [.agg [c_v, .int .i64 c_r].toArray, panels_v0].toArray w (RetW B (fun v H' bs' gs' => v = .bool y.1 ∧ HSub H H' ∧ bs' = mxB 4 c_bl y.2 ++ bT ∧ gs' = gT ∧ Mok c_w c_bl y.2)) := by
 induction n with
 | zero => intro H c_m c_w c_wb c_bl c_ok c_v c_s c_r bT gT panels panels_v0 hpanels_0 y hF; simp [F_ref03_cloth_can] at hF
 | succ n ih =>
 intro H c_m c_w c_wb c_bl c_ok c_v c_s c_r bT gT panels panels_v0 hpanels_0 y hF B w hs
 rw [F_ref03_cloth_can] at hF
 dsimp only at hF
 refine calls_of (N := 66) Try.func73 rfl rfl rfl hs ?_
 clear hs
 refine JC.seq (JC.region (by rfl) ?_)
 intro hQ
 refine JL.box (cs := [c_v, .int .i64 c_r]) rfl .none rfl ?_
 intro b1
 refine JL.assign .none rfl ?_
 refine JL.done hQ (JQ.go (JC.seq (JC.seq (JC.region (by rfl) ?_))))
 intro hQ
 refine JL.move .none rfl ?_
 refine JL.lenSL (R := R_Panel) ul_23 hpanels_0 .none rfl ?_
 refine JL.bin rfl rfl rfl .none rfl ?_
 refine JL.done hQ (JQ.go ?_)
 rcases ite_some hF with ⟨hc2, hF⟩ | ⟨hc2, hF⟩
 ·refine JC.cond_t (b := ((panels.length : Int) == 0)) rfl hc2 ?_
  refine JC.seq (JC.region (by rfl) ?_)
  intro hQ
  refine JL.assign .none rfl ?_
  refine JL.done hQ (JQ.go (JC.ret (JQ.ret_then (JQ.mask [false] [] ?_))))
  obtain rfl := Option.some.inj hF
  exact JQ.outW rfl (.tmp .nil) ⟨rfl, (HSub.refl _), rfl, rfl, c_ok⟩
 ·refine JC.cond_f (b := ((panels.length : Int) == 0)) rfl hc2 ?_
  refine JC.skip (JQ.go (JC.seq (JC.seq (JC.region (by rfl) ?_))))
  intro hQ
  refine JL.assign .none rfl ?_
  refine JL.done hQ (JQ.go ?_)
  obtain ⟨r5062, hlr5062, hKr5062⟩ := bind_some hF
  refine JC.join (fun (mx_5060 : Mx) H5061 f bs gs => bs = ((mxB 4 c_bl mx_5060 ++ bT)) ∧ gT = gs ∧ Mok c_w c_bl mx_5060 ∧ HSub H H5061 ∧ Sum.inr mx_5060 = r5062) ?_ ?_
  ·skip
   refine JC.block (JC.loop hlr5062 (fun (x : Int × Mx) H8435 f bs gs => match x with | (turned_8433, mx_8434) => f 1 = panels_v0 ∧ f 2 = .pointer (some ⟨b1, 0, none⟩) ∧ f 5 = .int .i64 turned_8433 ∧ bs = ((b1, .cells [c_v, .int .i64 c_r].toArray 112) :: (mxB 4 c_bl mx_8434 ++ bT)) ∧ gT = gs ∧ Mok c_w c_bl mx_8434 ∧ HSub H H8435) ⟨rfl, rfl, rfl, rfl, rfl, c_ok, (HSub.refl _)⟩ ?_)
   rintro ⟨turned_8433, mx_8434⟩ x8437 H8435 f bs gs ⟨hf1, hf2, hf5, rfl, rfl, hmx_8434, hs8435⟩ hF hr8436
   rw [F_ref03_cloth_can_s1] at hF
   refine (JC.norm (i := 1) hf1 (JC.norm (i := 2) hf2 (JC.norm (i := 5) hf5 ?_)))
   refine JC.seq (JC.seq (JC.region (by rfl) ?_))
   intro hQ
   refine JL.move .none rfl ?_
   refine JL.bin rfl rfl rfl .none rfl ?_
   refine JL.done hQ (JQ.go ?_)
   rcases ite_some hF with ⟨hc8438, hF⟩ | ⟨hc8438, hF⟩
   ·refine JC.cond_t (b := decide (turned_8433 < 2)) rfl hc8438 ?_
    refine JC.skip (JQ.go (JC.seq (JC.block (JC.seq (JC.region (by rfl) ?_)))))
    intro hQ
    refine JL.move .none rfl ?_
    obtain ⟨y8439, hy8439, hF⟩ := bind_some hF
    refine JL.indexSL (R := R_Panel) sl_23 (SL.mono R_Panel_mono hs8435 hpanels_0) rfl hy8439 .none rfl ?_
    rintro b8440 o8441 cs8442 hc8443 - ⟨y8439_v0, rfl, hy8439_0⟩
    refine JL.fieldAddr fo_30_0 rfl .none rfl ?_
    refine JL.loadH 0 az_28 rfl hc8443 rfl .none rfl ?_
    refine JL.assign .none rfl ?_
    refine JL.done hQ (JQ.go (JC.seq (JC.seq (JC.region (by rfl) ?_))))
    intro hQ
    refine JL.move .none rfl ?_
    refine JL.bin rfl rfl rfl .none rfl ?_
    refine JL.done hQ (JQ.go ?_)
    obtain ⟨r8454, hlr8454, hKr8454⟩ := bind_some hF
    refine JC.join (fun (rows_8452 : List Span) H8453 f bs gs => ∃ (vrows_8452 : Value), f 1 = panels_v0 ∧ f 2 = .pointer (some ⟨b1, 0, none⟩) ∧ f 5 = .int .i64 turned_8433 ∧ f 6 = vrows_8452 ∧ bs = ((b1, .cells [c_v, .int .i64 c_r].toArray 112) :: (mxB 4 c_bl mx_8434 ++ bT)) ∧ gT = gs ∧ SL H8453 2 R_Span vrows_8452 rows_8452 ∧ HSub H8435 H8453 ∧ rows_8452 = r8454) ?_ ?_
    ·have hF := hlr8454
     rcases ite_some hF with ⟨hc8455, hF⟩ | ⟨hc8455, hF⟩
     ·refine JC.cond_t (b := (turned_8433 == 1)) rfl hc8455 ?_
      refine JC.region (by rfl) ?_
      intro hQ
      refine JL.move .none rfl ?_
      obtain ⟨y8456, hy8456, hF⟩ := bind_some hF
      refine JL.indexSL (R := R_Panel) sl_23 (SL.mono R_Panel_mono hs8435 hpanels_0) rfl hy8456 .none rfl ?_
      rintro b8457 o8458 cs8459 hc8460 - ⟨y8456_v0, rfl, hy8456_0⟩
      refine JL.loadH 0 az_30 rfl hc8460 rfl .none rfl ?_
      obtain ⟨y8461, hy8461, hF⟩ := bind_some hF
      refine JL.callH (c_ref03_TurnedRows n H8435 y8456 y8456_v0 hy8456_0 y8461 hy8461) rfl en_16 .none rfl ?_
      intro H8462 y8461a_v0 hs8462 hy8461a_0
      refine JL.assign .none rfl ?_
      refine JL.done hQ ?_
      obtain rfl := Option.some.inj hF
      exact JQ.join y8461 ⟨y8461a_v0, rfl, rfl, rfl, rfl, rfl, rfl, hy8461a_0, hs8462, rfl⟩
     ·refine JC.cond_f (b := (turned_8433 == 1)) rfl hc8455 ?_
      refine JC.skip ?_
      obtain rfl := Option.some.inj hF
      exact JQ.join y8439.Rows ⟨y8439_v0, rfl, rfl, rfl, rfl, rfl, rfl, hy8439_0, (HSub.refl _), rfl⟩
    ·rintro rows_8452 H8453 f bs gs ⟨vrows_8452, hf1, hf2, hf5, hf6, rfl, rfl, hrows_8452, hs8453, rfl⟩
     have hF := hKr8454
     try dsimp only at hF
     refine (JQ.norm (i := 1) hf1 (JQ.norm (i := 2) hf2 (JQ.norm (i := 5) hf5 (JQ.norm (i := 6) hf6 ?_))))
     refine JQ.go (JC.seq (JC.region (by rfl) ?_))
     intro hQ
     refine JL.assign .none rfl ?_
     refine JL.done hQ (JQ.go ?_)
     obtain ⟨r9292, hlr9292, hKr9292⟩ := bind_some hF
     refine JC.join (fun (mx_9290 : Mx) H9291 f bs gs => f 1 = panels_v0 ∧ f 2 = .pointer (some ⟨b1, 0, none⟩) ∧ f 5 = .int .i64 turned_8433 ∧ bs = ((b1, .cells [c_v, .int .i64 c_r].toArray 112) :: (mxB 4 c_bl mx_9290 ++ bT)) ∧ gT = gs ∧ Mok c_w c_bl mx_9290 ∧ HSub H8453 H9291 ∧ Sum.inr mx_9290 = r9292) ?_ ?_
     ·skip
      refine JC.block (JC.loop hlr9292 (fun (x : Int × Mx) H9845 f bs gs => match x with | (row_9843, mx_9844) => f 1 = panels_v0 ∧ f 2 = .pointer (some ⟨b1, 0, none⟩) ∧ f 5 = .int .i64 turned_8433 ∧ f 6 = vrows_8452 ∧ f 7 = .int .i64 row_9843 ∧ bs = ((b1, .cells [c_v, .int .i64 c_r].toArray 112) :: (mxB 4 c_bl mx_9844 ++ bT)) ∧ gT = gs ∧ Mok c_w c_bl mx_9844 ∧ HSub H8453 H9845) ⟨rfl, rfl, rfl, rfl, rfl, rfl, rfl, hmx_8434, (HSub.refl _)⟩ ?_)
      rintro ⟨row_9843, mx_9844⟩ x9847 H9845 f bs gs ⟨hf1, hf2, hf5, hf6, hf7, rfl, rfl, hmx_9844, hs9845⟩ hF hr9846
      rw [F_ref03_cloth_can_s2] at hF
      refine (JC.norm (i := 1) hf1 (JC.norm (i := 2) hf2 (JC.norm (i := 5) hf5 (JC.norm (i := 6) hf6 (JC.norm (i := 7) hf7 ?_)))))
      refine JC.seq (JC.seq (JC.region (by rfl) ?_))
      intro hQ
      refine JL.move .none rfl ?_
      refine JL.move .none rfl ?_
      refine JL.lenSL (R := R_Span) ul_28 (SL.mono R_Span_mono hs9845 hrows_8452) .none rfl ?_
      refine JL.bin rfl rfl rfl .none rfl ?_
      refine JL.fieldAddr fo_112_1 rfl .none rfl ?_
      refine JL.loadOwn 0 az_3 rfl rfl rfl .none rfl ?_
      refine JL.bin rfl rfl rfl .none rfl ?_
      refine JL.done hQ (JQ.go ?_)
      rcases ite_some hF with ⟨hc9848, hF⟩ | ⟨hc9848, hF⟩
      ·refine JC.cond_t (b := decide ((w64 (row_9843 + (rows_8452.length : Int))) ≤ c_r)) rfl hc9848 ?_
       refine JC.skip (JQ.go (JC.seq (JC.block (JC.seq (JC.region (by rfl) ?_)))))
       intro hQ
       refine JL.assign .none rfl ?_
       refine JL.done hQ (JQ.go ?_)
       obtain ⟨r9985, hlr9985, hKr9985⟩ := bind_some hF
       refine JC.join (fun (mx_9983 : Mx) H9984 f bs gs => f 1 = panels_v0 ∧ f 2 = .pointer (some ⟨b1, 0, none⟩) ∧ f 5 = .int .i64 turned_8433 ∧ f 6 = vrows_8452 ∧ f 7 = .int .i64 row_9843 ∧ bs = ((b1, .cells [c_v, .int .i64 c_r].toArray 112) :: (mxB 4 c_bl mx_9983 ++ bT)) ∧ gT = gs ∧ Mok c_w c_bl mx_9983 ∧ HSub H9845 H9984 ∧ Sum.inr mx_9983 = r9985) ?_ ?_
       ·skip
        refine JC.block (JC.loop hlr9985 (fun (x : Int × Mx) H10076 f bs gs => match x with | (col_10074, mx_10075) => f 1 = panels_v0 ∧ f 2 = .pointer (some ⟨b1, 0, none⟩) ∧ f 5 = .int .i64 turned_8433 ∧ f 6 = vrows_8452 ∧ f 7 = .int .i64 row_9843 ∧ f 8 = .int .i64 col_10074 ∧ bs = ((b1, .cells [c_v, .int .i64 c_r].toArray 112) :: (mxB 4 c_bl mx_10075 ++ bT)) ∧ gT = gs ∧ Mok c_w c_bl mx_10075 ∧ HSub H9845 H10076) ⟨rfl, rfl, rfl, rfl, rfl, rfl, rfl, rfl, hmx_9844, (HSub.refl _)⟩ ?_)
        rintro ⟨col_10074, mx_10075⟩ x10078 H10076 f bs gs ⟨hf1, hf2, hf5, hf6, hf7, hf8, rfl, rfl, hmx_10075, hs10076⟩ hF hr10077
        rw [F_ref03_cloth_can_s3] at hF
        refine (JC.norm (i := 1) hf1 (JC.norm (i := 2) hf2 (JC.norm (i := 5) hf5 (JC.norm (i := 6) hf6 (JC.norm (i := 7) hf7 (JC.norm (i := 8) hf8 ?_))))))
        refine JC.seq (JC.seq (JC.region (by rfl) ?_))
        intro hQ
        refine JL.move .none rfl ?_
        refine JL.fieldAddr fo_112_0 rfl .none rfl ?_
        refine JL.loadOwn 0 az_110 rfl rfl rfl .none rfl ?_
        obtain ⟨y10079, hy10079, hF⟩ := bind_some hF
        obtain ⟨⟨b10080, hb10081⟩, hl10082⟩ := hmx_10075.at hy10079
        refine JL.indexSL (R := RBk c_w) sl_110 (SL.mono RBk.mono (HSub.trans hs8435 (HSub.trans hs8453 (HSub.trans hs9845 hs10076))) c_s) rfl hb10081 .none rfl ?_
        rintro b10083 o10084 cs10085 hc10086 - rfl
        refine JL.loadH 0 az_113 rfl hc10086 rfl .none rfl ?_
        refine JL.lenMx (r := y10079) ul_113 rfl hl10082 .none rfl ?_
        refine JL.bin rfl rfl rfl .none rfl ?_
        refine JL.done hQ (JQ.go ?_)
        rcases ite_some hF with ⟨hc10087, hF⟩ | ⟨hc10087, hF⟩
        ·refine JC.cond_t (b := decide (col_10074 < (y10079.length : Int))) rfl hc10087 ?_
         refine JC.skip (JQ.go (JC.seq (JC.block (JC.seq (JC.seq (JC.region (by rfl) ?_))))))
         intro hQ
         refine JL.loadOwn 0 az_112 rfl rfl rfl .none rfl ?_
         refine JL.move .none rfl ?_
         refine JL.move .none rfl ?_
         refine JL.move .none rfl ?_
         obtain ⟨y10088, hy10088, hF⟩ := bind_some hF
         refine JL.callLMx [(b1, .cells ([c_v, .int .i64 c_r] : List Value).toArray 112)] bT hmx_10075 c_wb (SL.mono RBk.mono (HSub.trans hs8435 (HSub.trans hs8453 (HSub.trans hs9845 hs10076))) c_s) (fun H10089 hs10089 hsl10090 => c_ref03_cloth_fits n H10089 (ref03_cloth.mk mx_10075 c_r) c_v hsl10090 rows_8452 vrows_8452 (SL.mono R_Span_mono (HSub.trans hs9845 (HSub.trans hs10076 hs10089)) hrows_8452) row_9843 col_10074 y10088 hy10088) rfl en_78 .none rfl ?_
         refine JL.not rfl .none rfl ?_
         refine JL.done hQ (JQ.go (JC.fresh (fun f => f 1 = panels_v0 ∧ f 2 = .pointer (some ⟨b1, 0, none⟩) ∧ f 5 = .int .i64 turned_8433 ∧ f 6 = vrows_8452 ∧ f 7 = .int .i64 row_9843 ∧ f 8 = .int .i64 col_10074 ∧ f 50 = .bool (!y10088)) ⟨rfl, rfl, rfl, rfl, rfl, rfl, rfl⟩ ?_))
         rintro f ⟨hf1, hf2, hf5, hf6, hf7, hf8, hf50⟩
         refine (JC.norm (i := 1) hf1 (JC.norm (i := 2) hf2 (JC.norm (i := 5) hf5 (JC.norm (i := 6) hf6 (JC.norm (i := 7) hf7 (JC.norm (i := 8) hf8 (JC.norm (i := 50) hf50 ?_)))))))
         rcases ite_some hF with ⟨hc10091, hF⟩ | ⟨hc10091, hF⟩
         ·refine JC.cond_t (b := (!y10088)) rfl hc10091 ?_
          refine JC.exit (JQ.exit_then (JQ.exit_block (JQ.go (JC.region (by rfl) ?_))))
          intro hQ
          refine JL.move .none rfl ?_
          refine JL.bin rfl rfl rfl .none rfl ?_
          refine JL.assign .none rfl ?_
          refine JL.done hQ ?_
          obtain rfl := Option.some.inj hF
          exact JQ.next rfl ⟨rfl, rfl, rfl, rfl, rfl, rfl, rfl, rfl, hmx_10075, hs10076⟩
         ·refine JC.cond_f (b := (!y10088)) rfl hc10091 ?_
          refine JC.skip (JQ.go (JC.seq (JC.region (by rfl) ?_)))
          intro hQ
          refine JL.loadOwn 0 az_112 rfl rfl rfl .none rfl ?_
          refine JL.move .none rfl ?_
          refine JL.move .none rfl ?_
          refine JL.move .none rfl ?_
          obtain ⟨y10092, hy10092, hF⟩ := bind_some hF
          refine JL.callW (fun w hs => c_ref03_cloth_cover n H10076 mx_10075 c_w c_wb c_bl hmx_10075 c_v (SL.mono RBk.mono (HSub.trans hs8435 (HSub.trans hs8453 (HSub.trans hs9845 hs10076))) c_s) c_r _ _ rows_8452 vrows_8452 (SL.mono R_Span_mono (HSub.trans hs9845 hs10076) hrows_8452) row_9843 col_10074 true y10092 hy10092 _ w (hs.perm (mx_front ([(b1, .cells ([c_v, .int .i64 c_r] : List Value).toArray 112)] : List (Nat × Obj)) _ bT))) rfl en_79 .none rfl ?_
          rintro _ H10093 _ _ ⟨rfl, hs10093, rfl, rfl, hok10094⟩
          refine JL.permB (mx_front ([(b1, .cells ([c_v, .int .i64 c_r] : List Value).toArray 112)] : List (Nat × Obj)) _ bT).symm ?_
          refine JL.done hQ (JQ.go (JC.seq ?_))
          obtain ⟨y10098, hy10098, hF⟩ := bind_some hF
          obtain ⟨y10101, hy10101, hF⟩ := bind_some hF
          refine JC.mixed 5 5 #[false, false, false, false, false] [(b1, .cells [c_v, .int .i64 c_r].toArray 112)] (by rfl) mo_ (by kernel_rfl) (by kernel_rfl) ?_
          intro hQ hE
          refine JA.take 0 (listed' := #[true, false, false, false, false]) hQ rfl (by kernel_rfl) (by kernel_rfl) (by kernel_rfl) (by kernel_rfl) (by kernel_rfl) hE (HSub.refl _) (.cons_cons _ (List.nil_sublist _)) ?_
          refine JL.loadOwn 0 az_112 rfl rfl rfl .none rfl ?_
          refine JA.cont ?_
          refine JA.take 1 (listed' := #[true, true, false, false, false]) hQ rfl (by kernel_rfl) (by kernel_rfl) (by kernel_rfl) (by kernel_rfl) (by kernel_rfl) hE (HSub.refl _) (.cons_cons _ (List.nil_sublist _)) ?_
          refine JL.move .none rfl ?_
          refine JA.cont ?_
          refine JA.take 2 (listed' := #[true, true, true, false, false]) hQ rfl (by kernel_rfl) (by kernel_rfl) (by kernel_rfl) (by kernel_rfl) (by kernel_rfl) hE (HSub.refl _) (.cons_cons _ (List.nil_sublist _)) ?_
          refine JL.sliceLo (R := R_Panel) sl_23 (SL.mono R_Panel_mono (HSub.trans hs8435 (HSub.trans hs8453 (HSub.trans hs9845 (HSub.trans hs10076 hs10093)))) hpanels_0) rfl hy10098 .none rfl ?_
          intro v10112 hv10113
          refine JA.cont ?_
          refine JA.many [3] (by kernel_rfl) (by simp) (all_one ⟨_, #[true, true, true, true, false], rfl, (by kernel_rfl), ?_⟩)
          refine JL.callW (fun w hs => ih H10093 y10092 c_w c_wb c_bl hok10094 c_v (SL.mono RBk.mono (HSub.trans hs8435 (HSub.trans hs8453 (HSub.trans hs9845 (HSub.trans hs10076 hs10093)))) c_s) c_r _ _ y10098 v10112 hv10113 y10101 hy10101 _ w (hs.perm (mx_front ([(b1, .cells ([c_v, .int .i64 c_r] : List Value).toArray 112)] : List (Nat × Obj)) _ bT))) rfl en_73 .none rfl ?_
          rintro _ H10114 _ _ ⟨rfl, hs10114, rfl, rfl, hok10115⟩
          refine JL.permB (mx_front ([(b1, .cells ([c_v, .int .i64 c_r] : List Value).toArray 112)] : List (Nat × Obj)) _ bT).symm ?_
          refine JA.after hE hs10114 (.cons_cons _ (List.nil_sublist _)) ?_
          refine JA.take 4 (listed' := #[true, true, true, true, true]) hQ rfl (by kernel_rfl) (by kernel_rfl) (by kernel_rfl) (by kernel_rfl) (by kernel_rfl) hE hs10114 (.cons_cons _ (List.nil_sublist _)) ?_
          refine JL.assign .none rfl ?_
          refine JA.cont ?_
          refine JA.done hQ (by kernel_rfl) ?_
          refine JQ.go (JC.fresh (fun f => f 1 = panels_v0 ∧ f 2 = .pointer (some ⟨b1, 0, none⟩) ∧ f 5 = .int .i64 turned_8433 ∧ f 6 = vrows_8452 ∧ f 7 = .int .i64 row_9843 ∧ f 8 = .int .i64 col_10074 ∧ f 9 = .bool y10101.1) ⟨rfl, rfl, rfl, rfl, rfl, rfl, rfl⟩ ?_)
          rintro f ⟨hf1, hf2, hf5, hf6, hf7, hf8, hf9⟩
          refine (JC.norm (i := 1) hf1 (JC.norm (i := 2) hf2 (JC.norm (i := 5) hf5 (JC.norm (i := 6) hf6 (JC.norm (i := 7) hf7 (JC.norm (i := 8) hf8 (JC.norm (i := 9) hf9 ?_)))))))
          refine JC.seq (JC.region (by rfl) ?_)
          intro hQ
          refine JL.loadOwn 0 az_112 rfl rfl rfl .none rfl ?_
          refine JL.move .none rfl ?_
          refine JL.move .none rfl ?_
          refine JL.move .none rfl ?_
          obtain ⟨y10116, hy10116, hF⟩ := bind_some hF
          refine JL.callW (fun w hs => c_ref03_cloth_cover n H10114 y10101.2 c_w c_wb c_bl hok10115 c_v (SL.mono RBk.mono (HSub.trans hs8435 (HSub.trans hs8453 (HSub.trans hs9845 (HSub.trans hs10076 (HSub.trans hs10093 hs10114))))) c_s) c_r _ _ rows_8452 vrows_8452 (SL.mono R_Span_mono (HSub.trans hs9845 (HSub.trans hs10076 (HSub.trans hs10093 hs10114))) hrows_8452) row_9843 col_10074 false y10116 hy10116 _ w (hs.perm (mx_front ([(b1, .cells ([c_v, .int .i64 c_r] : List Value).toArray 112)] : List (Nat × Obj)) _ bT))) rfl en_79 .none rfl ?_
          rintro _ H10117 _ _ ⟨rfl, hs10117, rfl, rfl, hok10118⟩
          refine JL.permB (mx_front ([(b1, .cells ([c_v, .int .i64 c_r] : List Value).toArray 112)] : List (Nat × Obj)) _ bT).symm ?_
          refine JL.done hQ (JQ.go (JC.seq (JC.region (by rfl) ?_)))
          intro hQ
          refine JL.move .none rfl ?_
          refine JL.done hQ (JQ.go ?_)
          rcases ite_some hF with ⟨hc10119, hF⟩ | ⟨hc10119, hF⟩
          ·refine JC.cond_t (b := y10101.1) rfl hc10119 ?_
           refine JC.seq (JC.region (by rfl) ?_)
           intro hQ
           refine JL.assign .none rfl ?_
           refine JL.done hQ (JQ.go (JC.fresh (fun f => f 4 = .bool true) rfl ?_))
           rintro f hf4
           refine (JC.norm (i := 4) hf4 ?_)
           refine JC.ret (JQ.ret_block (JQ.ret_then (JQ.ret_then (JQ.ret_block (JQ.ret_join (JQ.ret_block (JQ.ret_then (JQ.ret_then (JQ.ret_block (JQ.ret_join (JQ.ret_block (JQ.ret_then (JQ.ret_then (JQ.ret_block (JQ.ret_join (JQ.ret_then ?_))))))))))))))))
           obtain rfl := Option.some.inj hF
           have ehr10077 := hr10077 _ rfl
           subst ehr10077
           have hF := hKr9985
           try dsimp only at hF
           obtain rfl := Option.some.inj hF
           have ehr9846 := hr9846 _ rfl
           subst ehr9846
           have hF := hKr9292
           try dsimp only at hF
           obtain rfl := Option.some.inj hF
           have ehr8436 := hr8436 _ rfl
           subst ehr8436
           have hF := hKr5062
           try dsimp only at hF
           refine JQ.mask [false] [] ?_
           obtain rfl := Option.some.inj hF
           exact JQ.outW rfl (.tmp .nil) ⟨rfl, (HSub.trans hs8435 (HSub.trans hs8453 (HSub.trans hs9845 (HSub.trans hs10076 (HSub.trans hs10093 (HSub.trans hs10114 hs10117)))))), rfl, rfl, hok10118⟩
          ·refine JC.cond_f (b := y10101.1) rfl hc10119 ?_
           refine JC.skip (JQ.normal_block (JQ.go (JC.region (by rfl) ?_)))
           intro hQ
           refine JL.move .none rfl ?_
           refine JL.bin rfl rfl rfl .none rfl ?_
           refine JL.assign .none rfl ?_
           refine JL.done hQ ?_
           obtain rfl := Option.some.inj hF
           exact JQ.next rfl ⟨rfl, rfl, rfl, rfl, rfl, rfl, rfl, rfl, hok10118, (HSub.trans hs10076 (HSub.trans hs10093 (HSub.trans hs10114 hs10117)))⟩
        ·refine JC.cond_f (b := decide (col_10074 < (y10079.length : Int))) rfl hc10087 ?_
         refine JC.exit (JQ.exit_then (JQ.exit_then (JQ.exit_block ?_)))
         obtain rfl := Option.some.inj hF
         have ehr10077 := hr10077 _ rfl
         subst ehr10077
         exact JQ.join mx_10075 ⟨rfl, rfl, rfl, rfl, rfl, rfl, rfl, hmx_10075, hs10076, rfl⟩
       ·rintro mx_9983 H9984 f bs gs ⟨hf1, hf2, hf5, hf6, hf7, rfl, rfl, hmx_9983, hs9984, rfl⟩
        have hF := hKr9985
        try dsimp only at hF
        refine (JQ.norm (i := 1) hf1 (JQ.norm (i := 2) hf2 (JQ.norm (i := 5) hf5 (JQ.norm (i := 6) hf6 (JQ.norm (i := 7) hf7 ?_)))))
        refine JQ.normal_block (JQ.go (JC.region (by rfl) ?_))
        intro hQ
        refine JL.move .none rfl ?_
        refine JL.bin rfl rfl rfl .none rfl ?_
        refine JL.assign .none rfl ?_
        refine JL.done hQ ?_
        obtain rfl := Option.some.inj hF
        exact JQ.next rfl ⟨rfl, rfl, rfl, rfl, rfl, rfl, rfl, hmx_9983, (HSub.trans hs9845 hs9984)⟩
      ·refine JC.cond_f (b := decide ((w64 (row_9843 + (rows_8452.length : Int))) ≤ c_r)) rfl hc9848 ?_
       refine JC.exit (JQ.exit_then (JQ.exit_then (JQ.exit_block ?_)))
       obtain rfl := Option.some.inj hF
       have ehr9846 := hr9846 _ rfl
       subst ehr9846
       exact JQ.join mx_9844 ⟨rfl, rfl, rfl, rfl, rfl, hmx_9844, hs9845, rfl⟩
     ·rintro mx_9290 H9291 f bs gs ⟨hf1, hf2, hf5, rfl, rfl, hmx_9290, hs9291, rfl⟩
      have hF := hKr9292
      try dsimp only at hF
      refine (JQ.norm (i := 1) hf1 (JQ.norm (i := 2) hf2 (JQ.norm (i := 5) hf5 ?_)))
      refine JQ.normal_block (JQ.go (JC.region (by rfl) ?_))
      intro hQ
      refine JL.move .none rfl ?_
      refine JL.bin rfl rfl rfl .none rfl ?_
      refine JL.assign .none rfl ?_
      refine JL.done hQ ?_
      obtain rfl := Option.some.inj hF
      exact JQ.next rfl ⟨rfl, rfl, rfl, rfl, rfl, hmx_9290, (HSub.trans hs8435 (HSub.trans hs8453 hs9291))⟩
   ·refine JC.cond_f (b := decide (turned_8433 < 2)) rfl hc8438 ?_
    refine JC.exit (JQ.exit_then (JQ.exit_then (JQ.exit_block ?_)))
    obtain rfl := Option.some.inj hF
    have ehr8436 := hr8436 _ rfl
    subst ehr8436
    refine JQ.mask [false] [] ?_
    exact JQ.join mx_8434 ⟨rfl, rfl, hmx_8434, hs8435, rfl⟩
  ·rintro mx_5060 H5061 f bs gs ⟨rfl, rfl, hmx_5060, hs5061, rfl⟩
   have hF := hKr5062
   try dsimp only at hF
   refine JQ.go (JC.seq (JC.region (by rfl) ?_))
   intro hQ
   refine JL.assign .none rfl ?_
   refine JL.done hQ (JQ.go (JC.ret ?_))
   obtain rfl := Option.some.inj hF
   exact JQ.outW rfl (.tmp .nil) ⟨rfl, hs5061, rfl, rfl, hmx_5060⟩
end Go.Proofs.Ytflhjlgimihmgaa
end
