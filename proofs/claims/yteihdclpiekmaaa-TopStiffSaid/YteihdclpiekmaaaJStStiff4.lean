/-
  A part of the proof of StStiff: the texts StGenK4, StGenK5.
-/
import Derived.Test.YteihdclpiekmaaaJStStiff3
section
set_option maxRecDepth 100000
set_option maxHeartbeats 40000000
namespace Go.Proofs.Yteihdclpiekmaaa
open Go Go.RowKit Go.Dec
set_option linter.unusedVariables false
-- 160 ferrule/cloth.isDome
def F_cloth_isDome (n : Nat) (d : Dome) : Option Bool :=
 (F_cloth_within n (d.Bolts.length : Int) 1 4).bind fun y2 => (if y2 = true then ((F_cloth_within n (d.Gores.length : Int) 3 16).bind fun y7 => some y7) else (some false) : Option Bool).bind fun p4 => (if p4 = true then ((F_cloth_all_int_ n d.Gores (fun a0_ => F_cloth_isDome_1 n a0_ d)).bind fun y17 => some y17) else (some false) : Option Bool).bind fun p14 => (if p14 = true then ((F_cloth_within n d.Loss 0 20).bind fun y22 => some y22) else (some false) : Option Bool).bind fun p19 => (if p19 = true then ((F_cloth_within n (d.Rounds.length : Int) 1 12).bind fun y27 => some y27) else (some false) : Option Bool).bind fun p24 => (if p24 = true then ((F_cloth_all_api_Span_ n d.Rounds (fun a0_ => F_cloth_isDome_2 n a0_)).bind fun y32 => some y32) else (some false) : Option Bool).bind fun p29 => (if (p29 && ((d.Widths.length : Int) == (d.Rounds.length : Int))) = true then ((F_cloth_all_int_ n d.Widths (fun a0_ => F_cloth_isDome_3 n a0_ d)).bind fun y39 => some y39) else (some false) : Option Bool).bind fun p36 => (if p36 = true then ((F_cloth_within n d.Slope 0 500).bind fun y44 => some y44) else (some false) : Option Bool).bind fun p41 => some p41
theorem c_cloth_isDome (n : Nat) (H : Hp) (d : Dome) (d_v0 : Value) (hd_0 : SL H 4 R_Bolt d_v0 d.Bolts) (d_v1 : Value) (hd_1 : SL H 1 RInt d_v1 d.Gores) (d_v3 : Value) (hd_3 : SL H 2 R_Span d_v3 d.Rounds) (d_v4 : Value) (hd_4 : SL H 1 RInt d_v4 d.Widths) (y : Bool) (hF : F_cloth_isDome n d = some y) : SC Try.prog 160 [.agg [d_v0, d_v1, .int .i64 d.Loss, d_v3, d_v4, .int .i64 d.Slope].toArray] (.bool y) H := by
 rw [F_cloth_isDome] at hF
 refine SC.of (N := 61) Try.func160 rfl rfl rfl fun w => ?_
 refine JC.seq (JC.region (by rfl) ?_)
 intro hQ
 refine JL.box (cs := [d_v0, d_v1, .int .i64 d.Loss, d_v3, d_v4, .int .i64 d.Slope]) rfl .none rfl ?_
 intro b1
 refine JL.assign .none rfl ?_
 refine JL.done hQ (JQ.go (JC.seq (JC.region (by rfl) ?_)))
 intro hQ
 refine JL.makeFunc .none rfl ?_
 refine JL.assign .none rfl ?_
 refine JL.done hQ (JQ.go (JC.seq (JC.region (by rfl) ?_)))
 intro hQ
 refine JL.assign .none rfl ?_
 refine JL.done hQ (JQ.go (JC.seq (JC.region (by rfl) ?_)))
 intro hQ
 refine JL.makeFunc .none rfl ?_
 refine JL.assign .none rfl ?_
 refine JL.done hQ (JQ.go (JC.seq (JC.region (by rfl) ?_)))
 intro hQ
 refine JL.fieldAddr fo_26_0 rfl .none rfl ?_
 refine JL.loadOwn 0 az_22 rfl rfl rfl .none rfl ?_
 refine JL.lenSL (R := R_Bolt) ul_22 hd_0 .none rfl ?_
 obtain ⟨y2, hy2, hF⟩ := bind_some hF
 refine JL.callS (c_cloth_within n H (d.Bolts.length : Int) 1 4 y2 hy2) rfl en_109 .none rfl ?_
 refine JL.move .none rfl ?_
 obtain ⟨p4, hp4, hF⟩ := bind_some hF
 refine JL.cut 5 (fun f => f 1 = .pointer (some ⟨b1, 0, none⟩) ∧ f 3 = .func (.func 190) #[] [.pointer (some ⟨b1, 0, none⟩)].toArray ∧ f 4 = .func (.func 191) #[] [].toArray ∧ f 5 = .func (.func 193) #[] [.pointer (some ⟨b1, 0, none⟩)].toArray ∧ f 17 = .bool p4) ?_ ?_
 ·intro hJ5
  rcases ite_some hp4 with ⟨hc6, hF⟩ | ⟨hc6, hF⟩
  ·skip
   refine JL.fieldAddr fo_26_1 rfl (.some rfl rfl rfl hc6) rfl ?_
   refine JL.loadOwn 0 az_23 rfl rfl rfl (.some rfl rfl rfl hc6) rfl ?_
   refine JL.lenSL (R := RInt) ul_23 hd_1 (.some rfl rfl rfl hc6) rfl ?_
   obtain ⟨y7, hy7, hF⟩ := bind_some hF
   refine JL.callS (c_cloth_within n H (d.Gores.length : Int) 3 16 y7 hy7) rfl en_109 (.some rfl rfl rfl hc6) rfl ?_
   refine JL.pick_t (b := y2) rfl hc6 .none rfl ?_
   obtain rfl := Option.some.inj hF
   exact hJ5 _ ⟨rfl, rfl, rfl, rfl, rfl⟩
  ·skip
   refine JL.skip (.bool rfl rfl rfl hc6) rfl ?_
   refine JL.skip (.bool rfl rfl rfl hc6) rfl ?_
   refine JL.skip (.bool rfl rfl rfl hc6) rfl ?_
   refine JL.skip (.bool rfl rfl rfl hc6) rfl ?_
   refine JL.pick_f (b := y2) rfl hc6 .none rfl ?_
   obtain rfl := Option.some.inj hF
   exact hJ5 _ ⟨rfl, rfl, rfl, rfl, rfl⟩
 ·rintro f ⟨hf1, hf3, hf4, hf5, hf17⟩
  refine (JL.norm (i := 1) hf1 (JL.norm (i := 3) hf3 (JL.norm (i := 4) hf4 (JL.norm (i := 5) hf5 (JL.norm (i := 17) hf17 ?_)))))
  refine JL.move .none rfl ?_
  refine JL.freezeC 0 (l := [d_v0, d_v1, .int .i64 d.Loss, d_v3, d_v4, .int .i64 d.Slope]) rfl ?_
  intro H11 hs11 hc12
  obtain ⟨p14, hp14, hF⟩ := bind_some hF
  refine JL.cut 5 (fun f => f 1 = .pointer (some ⟨b1, 0, none⟩) ∧ f 4 = .func (.func 191) #[] [].toArray ∧ f 5 = .func (.func 193) #[] [.pointer (some ⟨b1, 0, none⟩)].toArray ∧ f 23 = .bool p14) ?_ ?_
  ·intro hJ15
   rcases ite_some hp14 with ⟨hc16, hF⟩ | ⟨hc16, hF⟩
   ·skip
    refine JL.fieldAddr fo_26_1 rfl (.some rfl rfl rfl hc16) rfl ?_
    refine JL.loadH 1 az_23 rfl hc12 rfl (.some rfl rfl rfl hc16) rfl ?_
    refine JL.move (.some rfl rfl rfl hc16) rfl ?_
    obtain ⟨y17, hy17, hF⟩ := bind_some hF
    refine JL.callS (c_cloth_all_int_ n H11 d.Gores d_v1 (SL.mono RInt.mono hs11 hd_1) (fun a0_ => F_cloth_isDome_1 n a0_ d) 190 [.pointer (some ⟨b1, 0, none⟩)] en_190 (fun H' hs' a0_ y' hy' => c_cloth_isDome_1 n H' a0_ d d_v0 (SL.mono R_Bolt_mono hs' (SL.mono R_Bolt_mono hs11 hd_0)) d_v1 (SL.mono RInt.mono hs' (SL.mono RInt.mono hs11 hd_1)) d_v3 (SL.mono R_Span_mono hs' (SL.mono R_Span_mono hs11 hd_3)) d_v4 (SL.mono RInt.mono hs' (SL.mono RInt.mono hs11 hd_4)) b1 (Cells.mono hs' hc12) y' hy') y17 hy17) rfl en_194 (.some rfl rfl rfl hc16) rfl ?_
    refine JL.pick_t (b := p4) rfl hc16 .none rfl ?_
    obtain rfl := Option.some.inj hF
    exact hJ15 _ ⟨rfl, rfl, rfl, rfl⟩
   ·skip
    refine JL.skip (.bool rfl rfl rfl hc16) rfl ?_
    refine JL.skip (.bool rfl rfl rfl hc16) rfl ?_
    refine JL.skip (.bool rfl rfl rfl hc16) rfl ?_
    refine JL.skip (.bool rfl rfl rfl hc16) rfl ?_
    refine JL.pick_f (b := p4) rfl hc16 .none rfl ?_
    obtain rfl := Option.some.inj hF
    exact hJ15 _ ⟨rfl, rfl, rfl, rfl⟩
  ·rintro f ⟨hf1, hf4, hf5, hf23⟩
   refine (JL.norm (i := 1) hf1 (JL.norm (i := 4) hf4 (JL.norm (i := 5) hf5 (JL.norm (i := 23) hf23 ?_))))
   refine JL.move .none rfl ?_
   obtain ⟨p19, hp19, hF⟩ := bind_some hF
   refine JL.cut 4 (fun f => f 1 = .pointer (some ⟨b1, 0, none⟩) ∧ f 4 = .func (.func 191) #[] [].toArray ∧ f 5 = .func (.func 193) #[] [.pointer (some ⟨b1, 0, none⟩)].toArray ∧ f 28 = .bool p19) ?_ ?_
   ·intro hJ20
    rcases ite_some hp19 with ⟨hc21, hF⟩ | ⟨hc21, hF⟩
    ·skip
     refine JL.fieldAddr fo_26_2 rfl (.some rfl rfl rfl hc21) rfl ?_
     refine JL.loadH 2 az_3 rfl hc12 rfl (.some rfl rfl rfl hc21) rfl ?_
     obtain ⟨y22, hy22, hF⟩ := bind_some hF
     refine JL.callS (c_cloth_within n H11 d.Loss 0 20 y22 hy22) rfl en_109 (.some rfl rfl rfl hc21) rfl ?_
     refine JL.pick_t (b := p14) rfl hc21 .none rfl ?_
     obtain rfl := Option.some.inj hF
     exact hJ20 _ ⟨rfl, rfl, rfl, rfl⟩
    ·skip
     refine JL.skip (.bool rfl rfl rfl hc21) rfl ?_
     refine JL.skip (.bool rfl rfl rfl hc21) rfl ?_
     refine JL.skip (.bool rfl rfl rfl hc21) rfl ?_
     refine JL.pick_f (b := p14) rfl hc21 .none rfl ?_
     obtain rfl := Option.some.inj hF
     exact hJ20 _ ⟨rfl, rfl, rfl, rfl⟩
   ·rintro f ⟨hf1, hf4, hf5, hf28⟩
    refine (JL.norm (i := 1) hf1 (JL.norm (i := 4) hf4 (JL.norm (i := 5) hf5 (JL.norm (i := 28) hf28 ?_))))
    refine JL.move .none rfl ?_
    obtain ⟨p24, hp24, hF⟩ := bind_some hF
    refine JL.cut 5 (fun f => f 1 = .pointer (some ⟨b1, 0, none⟩) ∧ f 4 = .func (.func 191) #[] [].toArray ∧ f 5 = .func (.func 193) #[] [.pointer (some ⟨b1, 0, none⟩)].toArray ∧ f 34 = .bool p24) ?_ ?_
    ·intro hJ25
     rcases ite_some hp24 with ⟨hc26, hF⟩ | ⟨hc26, hF⟩
     ·skip
      refine JL.fieldAddr fo_26_3 rfl (.some rfl rfl rfl hc26) rfl ?_
      refine JL.loadH 3 az_24 rfl hc12 rfl (.some rfl rfl rfl hc26) rfl ?_
      refine JL.lenSL (R := R_Span) ul_24 (SL.mono R_Span_mono hs11 hd_3) (.some rfl rfl rfl hc26) rfl ?_
      obtain ⟨y27, hy27, hF⟩ := bind_some hF
      refine JL.callS (c_cloth_within n H11 (d.Rounds.length : Int) 1 12 y27 hy27) rfl en_109 (.some rfl rfl rfl hc26) rfl ?_
      refine JL.pick_t (b := p19) rfl hc26 .none rfl ?_
      obtain rfl := Option.some.inj hF
      exact hJ25 _ ⟨rfl, rfl, rfl, rfl⟩
     ·skip
      refine JL.skip (.bool rfl rfl rfl hc26) rfl ?_
      refine JL.skip (.bool rfl rfl rfl hc26) rfl ?_
      refine JL.skip (.bool rfl rfl rfl hc26) rfl ?_
      refine JL.skip (.bool rfl rfl rfl hc26) rfl ?_
      refine JL.pick_f (b := p19) rfl hc26 .none rfl ?_
      obtain rfl := Option.some.inj hF
      exact hJ25 _ ⟨rfl, rfl, rfl, rfl⟩
    ·rintro f ⟨hf1, hf4, hf5, hf34⟩
     refine (JL.norm (i := 1) hf1 (JL.norm (i := 4) hf4 (JL.norm (i := 5) hf5 (JL.norm (i := 34) hf34 ?_))))
     refine JL.move .none rfl ?_
     obtain ⟨p29, hp29, hF⟩ := bind_some hF
     refine JL.cut 5 (fun f => f 1 = .pointer (some ⟨b1, 0, none⟩) ∧ f 5 = .func (.func 193) #[] [.pointer (some ⟨b1, 0, none⟩)].toArray ∧ f 40 = .bool p29) ?_ ?_
     ·intro hJ30
      rcases ite_some hp29 with ⟨hc31, hF⟩ | ⟨hc31, hF⟩
      ·skip
       refine JL.fieldAddr fo_26_3 rfl (.some rfl rfl rfl hc31) rfl ?_
       refine JL.loadH 3 az_24 rfl hc12 rfl (.some rfl rfl rfl hc31) rfl ?_
       refine JL.move (.some rfl rfl rfl hc31) rfl ?_
       obtain ⟨y32, hy32, hF⟩ := bind_some hF
       refine JL.callS (c_cloth_all_api_Span_ n H11 d.Rounds d_v3 (SL.mono R_Span_mono hs11 hd_3) (fun a0_ => F_cloth_isDome_2 n a0_) 191 [] en_191 (fun H' hs' a0_ y' hy' => c_cloth_isDome_2 n H' a0_ y' hy') y32 hy32) rfl en_195 (.some rfl rfl rfl hc31) rfl ?_
       refine JL.pick_t (b := p24) rfl hc31 .none rfl ?_
       obtain rfl := Option.some.inj hF
       exact hJ30 _ ⟨rfl, rfl, rfl⟩
      ·skip
       refine JL.skip (.bool rfl rfl rfl hc31) rfl ?_
       refine JL.skip (.bool rfl rfl rfl hc31) rfl ?_
       refine JL.skip (.bool rfl rfl rfl hc31) rfl ?_
       refine JL.skip (.bool rfl rfl rfl hc31) rfl ?_
       refine JL.pick_f (b := p24) rfl hc31 .none rfl ?_
       obtain rfl := Option.some.inj hF
       exact hJ30 _ ⟨rfl, rfl, rfl⟩
     ·rintro f ⟨hf1, hf5, hf40⟩
      refine (JL.norm (i := 1) hf1 (JL.norm (i := 5) hf5 (JL.norm (i := 40) hf40 ?_)))
      refine JL.move .none rfl ?_
      refine JL.cut 8 (fun f => f 1 = .pointer (some ⟨b1, 0, none⟩) ∧ f 5 = .func (.func 193) #[] [.pointer (some ⟨b1, 0, none⟩)].toArray ∧ f 49 = .bool (p29 && ((d.Widths.length : Int) == (d.Rounds.length : Int)))) ?_ ?_
      ·intro hJ33
       rcases bcases p29 with hc34 | hc34
       ·skip
        refine JL.fieldAddr fo_26_4 rfl (.some rfl rfl rfl hc34) rfl ?_
        refine JL.loadH 4 az_23 rfl hc12 rfl (.some rfl rfl rfl hc34) rfl ?_
        refine JL.lenSL (R := RInt) ul_23 (SL.mono RInt.mono hs11 hd_4) (.some rfl rfl rfl hc34) rfl ?_
        refine JL.fieldAddr fo_26_3 rfl (.some rfl rfl rfl hc34) rfl ?_
        refine JL.loadH 3 az_24 rfl hc12 rfl (.some rfl rfl rfl hc34) rfl ?_
        refine JL.lenSL (R := R_Span) ul_24 (SL.mono R_Span_mono hs11 hd_3) (.some rfl rfl rfl hc34) rfl ?_
        refine JL.bin rfl rfl rfl (.some rfl rfl rfl hc34) rfl ?_
        refine JL.pick_t (b := p29) rfl hc34 .none rfl ?_
        exact hJ33 _ ⟨rfl, rfl, and_t hc34 rfl⟩
       ·skip
        refine JL.skip (.bool rfl rfl rfl hc34) rfl ?_
        refine JL.skip (.bool rfl rfl rfl hc34) rfl ?_
        refine JL.skip (.bool rfl rfl rfl hc34) rfl ?_
        refine JL.skip (.bool rfl rfl rfl hc34) rfl ?_
        refine JL.skip (.bool rfl rfl rfl hc34) rfl ?_
        refine JL.skip (.bool rfl rfl rfl hc34) rfl ?_
        refine JL.skip (.bool rfl rfl rfl hc34) rfl ?_
        refine JL.pick_f (b := p29) rfl hc34 .none rfl ?_
        exact hJ33 _ ⟨rfl, rfl, and_f hc34 rfl⟩
      ·rintro f ⟨hf1, hf5, hf49⟩
       refine (JL.norm (i := 1) hf1 (JL.norm (i := 5) hf5 (JL.norm (i := 49) hf49 ?_)))
       refine JL.move .none rfl ?_
       obtain ⟨p36, hp36, hF⟩ := bind_some hF
       refine JL.cut 5 (fun f => f 1 = .pointer (some ⟨b1, 0, none⟩) ∧ f 55 = .bool p36) ?_ ?_
       ·intro hJ37
        rcases ite_some hp36 with ⟨hc38, hF⟩ | ⟨hc38, hF⟩
        ·skip
         refine JL.fieldAddr fo_26_4 rfl (.some rfl rfl rfl hc38) rfl ?_
         refine JL.loadH 4 az_23 rfl hc12 rfl (.some rfl rfl rfl hc38) rfl ?_
         refine JL.move (.some rfl rfl rfl hc38) rfl ?_
         obtain ⟨y39, hy39, hF⟩ := bind_some hF
         refine JL.callS (c_cloth_all_int_ n H11 d.Widths d_v4 (SL.mono RInt.mono hs11 hd_4) (fun a0_ => F_cloth_isDome_3 n a0_ d) 193 [.pointer (some ⟨b1, 0, none⟩)] en_193 (fun H' hs' a0_ y' hy' => c_cloth_isDome_3 n H' a0_ d d_v0 (SL.mono R_Bolt_mono hs' (SL.mono R_Bolt_mono hs11 hd_0)) d_v1 (SL.mono RInt.mono hs' (SL.mono RInt.mono hs11 hd_1)) d_v3 (SL.mono R_Span_mono hs' (SL.mono R_Span_mono hs11 hd_3)) d_v4 (SL.mono RInt.mono hs' (SL.mono RInt.mono hs11 hd_4)) b1 (Cells.mono hs' hc12) y' hy') y39 hy39) rfl en_194 (.some rfl rfl rfl hc38) rfl ?_
         refine JL.pick_t (b := (p29 && ((d.Widths.length : Int) == (d.Rounds.length : Int)))) rfl hc38 .none rfl ?_
         obtain rfl := Option.some.inj hF
         exact hJ37 _ ⟨rfl, rfl⟩
        ·skip
         refine JL.skip (.bool rfl rfl rfl hc38) rfl ?_
         refine JL.skip (.bool rfl rfl rfl hc38) rfl ?_
         refine JL.skip (.bool rfl rfl rfl hc38) rfl ?_
         refine JL.skip (.bool rfl rfl rfl hc38) rfl ?_
         refine JL.pick_f (b := (p29 && ((d.Widths.length : Int) == (d.Rounds.length : Int)))) rfl hc38 .none rfl ?_
         obtain rfl := Option.some.inj hF
         exact hJ37 _ ⟨rfl, rfl⟩
       ·rintro f ⟨hf1, hf55⟩
        refine (JL.norm (i := 1) hf1 (JL.norm (i := 55) hf55 ?_))
        refine JL.move .none rfl ?_
        obtain ⟨p41, hp41, hF⟩ := bind_some hF
        refine JL.cut 4 (fun f => f 60 = .bool p41) ?_ ?_
        ·intro hJ42
         rcases ite_some hp41 with ⟨hc43, hF⟩ | ⟨hc43, hF⟩
         ·skip
          refine JL.fieldAddr fo_26_5 rfl (.some rfl rfl rfl hc43) rfl ?_
          refine JL.loadH 5 az_3 rfl hc12 rfl (.some rfl rfl rfl hc43) rfl ?_
          obtain ⟨y44, hy44, hF⟩ := bind_some hF
          refine JL.callS (c_cloth_within n H11 d.Slope 0 500 y44 hy44) rfl en_109 (.some rfl rfl rfl hc43) rfl ?_
          refine JL.pick_t (b := p36) rfl hc43 .none rfl ?_
          obtain rfl := Option.some.inj hF
          exact hJ42 _ (rfl)
         ·skip
          refine JL.skip (.bool rfl rfl rfl hc43) rfl ?_
          refine JL.skip (.bool rfl rfl rfl hc43) rfl ?_
          refine JL.skip (.bool rfl rfl rfl hc43) rfl ?_
          refine JL.pick_f (b := p36) rfl hc43 .none rfl ?_
          obtain rfl := Option.some.inj hF
          exact hJ42 _ (rfl)
        ·rintro f hf60
         refine (JL.norm (i := 60) hf60 ?_)
         refine JL.assign .none rfl ?_
         refine JL.done hQ (JQ.go (JC.ret ?_))
         obtain rfl := Option.some.inj hF
         exact JQ.outS rfl (.tmp .nil) rfl
-- 197 ferrule/cloth.all[ferrule/api.Bolt]$1
def F_cloth_all_api_Bolt__1 (n : Nat) (x_ : Bolt) (c_0 : Bolt → Option Bool) : Option Bool :=
 (c_0 x_).bind fun y2 => some (!y2)
theorem c_cloth_all_api_Bolt__1 (n : Nat) (H : Hp) (x_ : Bolt) (x__v2 : Value) (hx__2 : SL H 3 R_Strip x__v2 x_.Strips) (c_0 : Bolt → Option Bool) (c_0_v0 : Value) (hc_0_0 : FN_219 H c_0_v0 c_0) (c_0_b : Nat) (c_0_c : Cells H c_0_b 0 [c_0_v0]) (y : Bool) (hF : F_cloth_all_api_Bolt__1 n x_ c_0 = some y) : SC Try.prog 197 [.agg [.int .i64 x_.Stretch.Low, .int .i64 x_.Stretch.High, x__v2, .int .i64 x_.Wrong].toArray, .pointer (some ⟨c_0_b, 0, none⟩)] (.bool y) H := by
 rw [F_cloth_all_api_Bolt__1] at hF
 refine SC.of (N := 8) Try.func197 rfl rfl rfl fun w => ?_
 refine JC.seq (JC.region (by rfl) ?_)
 intro hQ
 refine JL.box (cs := [.int .i64 x_.Stretch.Low, .int .i64 x_.Stretch.High, x__v2, .int .i64 x_.Wrong]) rfl .none rfl ?_
 intro b1
 refine JL.assign .none rfl ?_
 refine JL.done hQ (JQ.go (JC.seq (JC.region (by rfl) ?_)))
 intro hQ
 refine JL.loadH 0 az_219 rfl c_0_c rfl .none rfl ?_
 refine JL.loadOwn 0 az_179 rfl rfl rfl .none rfl ?_
 obtain ⟨y2, hy2, hF⟩ := bind_some hF
 obtain ⟨fk3, fc4, hv5, fe6, fh7⟩ := hc_0_0
 refine JL.callV hv5 (fh7 H (HSub.refl _) x_ x__v2 hx__2 y2 hy2) rfl fe6 .none rfl ?_
 refine JL.not rfl .none rfl ?_
 refine JL.assign .none rfl ?_
 refine JL.done hQ (JQ.go (JC.ret ?_))
 obtain rfl := Option.some.inj hF
 exact JQ.outS rfl (.tmp .nil) rfl
-- 227 slices.IndexFunc[[]ferrule/api.Bolt,ferrule/api.Bolt]
def F_slices_IndexFunc___api_Bolt_api_Bolt__s1 (n : Nat) (s : List Bolt) (f_ : Bolt → Option Bool) : Int → Option (Int ⊕ (Int ⊕ Unit))
 | x_55 => if decide (x_55 < (s.length : Int)) = true then ((geti s x_55).bind fun y60 => (f_ y60).bind fun y65 => if y65 = true then (some (Sum.inr (Sum.inl x_55))) else (some (Sum.inl (w64 (x_55 + 1))))) else (some (Sum.inr (Sum.inr ())))
def F_slices_IndexFunc___api_Bolt_api_Bolt_ (n : Nat) (s : List Bolt) (f_ : Bolt → Option Bool) : Option Int :=
 (loopO n (F_slices_IndexFunc___api_Bolt_api_Bolt__s1 n s f_) 0).bind fun r34 => match r34 with | .inl o => some o | .inr _ => some (-1)
theorem c_slices_IndexFunc___api_Bolt_api_Bolt_ (n : Nat) (H : Hp) (s : List Bolt) (s_v0 : Value) (hs_0 : SL H 4 R_Bolt s_v0 s) (f_ : Bolt → Option Bool) (f__k : Nat) (f__c : List Value) (f__e : Ent Try.prog f__k) (f__h : ∀ H', HSub H H' → ∀ (a0_ : Bolt) (a0__v2 : Value) (ha0__2 : SL H' 3 R_Strip a0__v2 a0_.Strips) (y : Bool), f_ a0_ = some y → SC Try.prog f__k ([.agg [.int .i64 a0_.Stretch.Low, .int .i64 a0_.Stretch.High, a0__v2, .int .i64 a0_.Wrong].toArray] ++ f__c) (.bool y) H') (y : Int) (hF : F_slices_IndexFunc___api_Bolt_api_Bolt_ n s f_ = some y) : SC Try.prog 227 [s_v0, .func (.func f__k) #[] f__c.toArray] (.int .i64 y) H := by
 rw [F_slices_IndexFunc___api_Bolt_api_Bolt_] at hF
 refine SC.of (N := 19) Try.func227 rfl rfl rfl fun w => ?_
 refine JC.seq (JC.region (by rfl) ?_)
 intro hQ
 refine JL.assign .none rfl ?_
 refine JL.done hQ (JQ.go (JC.seq (JC.seq (JC.region (by rfl) ?_))))
 intro hQ
 refine JL.move .none rfl ?_
 refine JL.lenSL (R := R_Bolt) ul_22 hs_0 .none rfl ?_
 refine JL.move .none rfl ?_
 refine JL.done hQ (JQ.go ?_)
 obtain ⟨r34, hlr34, hKr34⟩ := bind_some hF
 refine JC.join (fun (_ : Unit) H33 f bs gs => bs = [] ∧ gs = [] ∧ HSub H H33 ∧ Sum.inr () = r34) ?_ ?_
 ·skip
  refine JC.block (JC.loop hlr34 (fun (x_55 : Int) H56 f bs gs => f 0 = s_v0 ∧ f 1 = .func (.func f__k) #[] f__c.toArray ∧ f 7 = .int .i64 (s.length : Int) ∧ f 8 = .int .i64 x_55 ∧ bs = [] ∧ gs = [] ∧ HSub H H56) ⟨rfl, rfl, rfl, rfl, rfl, rfl, (HSub.refl _)⟩ ?_)
  rintro x_55 x58 H56 f bs gs ⟨hf0, hf1, hf7, hf8, rfl, rfl, hs56⟩ hF hr57
  rw [F_slices_IndexFunc___api_Bolt_api_Bolt__s1] at hF
  refine (JC.norm (i := 0) hf0 (JC.norm (i := 1) hf1 (JC.norm (i := 7) hf7 (JC.norm (i := 8) hf8 ?_))))
  refine JC.seq (JC.region (by rfl) ?_)
  intro hQ
  refine JL.bin rfl rfl rfl .none rfl ?_
  refine JL.done hQ (JQ.go (JC.seq ?_))
  rcases ite_some hF with ⟨hc59, hF⟩ | ⟨hc59, hF⟩
  ·refine JC.cond_t (b := decide (x_55 < (s.length : Int))) rfl hc59 ?_
   refine JC.skip (JQ.go (JC.seq (JC.block (JC.seq (JC.region (by rfl) ?_)))))
   intro hQ
   refine JL.move .none rfl ?_
   refine JL.assign .none rfl ?_
   refine JL.done hQ (JQ.go (JC.seq (JC.region (by rfl) ?_)))
   intro hQ
   refine JL.move .none rfl ?_
   refine JL.move .none rfl ?_
   refine JL.move .none rfl ?_
   obtain ⟨y60, hy60, hF⟩ := bind_some hF
   refine JL.indexSL (R := R_Bolt) sl_22 (SL.mono R_Bolt_mono hs56 hs_0) rfl hy60 .none rfl ?_
   rintro b61 o62 cs63 hc64 - ⟨y60_v2, rfl, hy60_2⟩
   refine JL.loadH 0 az_179 rfl hc64 rfl .none rfl ?_
   obtain ⟨y65, hy65, hF⟩ := bind_some hF
   refine JL.callV rfl (f__h H56 hs56 y60 y60_v2 hy60_2 y65 hy65) rfl f__e .none rfl ?_
   refine JL.done hQ (JQ.go ?_)
   rcases ite_some hF with ⟨hc66, hF⟩ | ⟨hc66, hF⟩
   ·refine JC.cond_t (b := y65) rfl hc66 ?_
    refine JC.seq (JC.region (by rfl) ?_)
    intro hQ
    refine JL.move .none rfl ?_
    refine JL.assign .none rfl ?_
    refine JL.done hQ (JQ.go (JC.fresh (fun f => f 4 = .int .i64 x_55) rfl ?_))
    rintro f hf4
    refine (JC.norm (i := 4) hf4 ?_)
    refine JC.ret (JQ.ret_block (JQ.ret_then (JQ.ret_then (JQ.ret_block (JQ.ret_join (JQ.ret_then ?_))))))
    obtain rfl := Option.some.inj hF
    have ehr57 := hr57 _ rfl
    subst ehr57
    have hF := hKr34
    try dsimp only at hF
    obtain rfl := Option.some.inj hF
    exact JQ.outS rfl (.tmp .nil) rfl
   ·refine JC.cond_f (b := y65) rfl hc66 ?_
    refine JC.skip (JQ.normal_block (JQ.go (JC.region (by rfl) ?_)))
    intro hQ
    refine JL.bin rfl rfl rfl .none rfl ?_
    refine JL.move .none rfl ?_
    refine JL.done hQ ?_
    obtain rfl := Option.some.inj hF
    exact JQ.next rfl ⟨rfl, rfl, rfl, rfl, rfl, rfl, hs56⟩
  ·refine JC.cond_f (b := decide (x_55 < (s.length : Int))) rfl hc59 ?_
   refine JC.exit (JQ.exit_then (JQ.exit_then (JQ.exit_block ?_)))
   obtain rfl := Option.some.inj hF
   have ehr57 := hr57 _ rfl
   subst ehr57
   exact JQ.join () ⟨rfl, rfl, hs56, rfl⟩
 ·rintro _ H33 f bs gs ⟨rfl, rfl, hs33, rfl⟩
  have hF := hKr34
  try dsimp only at hF
  refine JQ.go (JC.seq (JC.region (by rfl) ?_))
  intro hQ
  refine JL.assign .none rfl ?_
  refine JL.done hQ (JQ.go (JC.ret ?_))
  obtain rfl := Option.some.inj hF
  exact JQ.outS rfl (.tmp .nil) rfl
-- 196 slices.ContainsFunc[[]ferrule/api.Bolt,ferrule/api.Bolt]
def F_slices_ContainsFunc___api_Bolt_api_Bolt_ (n : Nat) (s : List Bolt) (f_ : Bolt → Option Bool) : Option Bool :=
 (F_slices_IndexFunc___api_Bolt_api_Bolt_ n s f_).bind fun y1 => some (decide (0 ≤ y1))
theorem c_slices_ContainsFunc___api_Bolt_api_Bolt_ (n : Nat) (H : Hp) (s : List Bolt) (s_v0 : Value) (hs_0 : SL H 4 R_Bolt s_v0 s) (f_ : Bolt → Option Bool) (f__k : Nat) (f__c : List Value) (f__e : Ent Try.prog f__k) (f__h : ∀ H', HSub H H' → ∀ (a0_ : Bolt) (a0__v2 : Value) (ha0__2 : SL H' 3 R_Strip a0__v2 a0_.Strips) (y : Bool), f_ a0_ = some y → SC Try.prog f__k ([.agg [.int .i64 a0_.Stretch.Low, .int .i64 a0_.Stretch.High, a0__v2, .int .i64 a0_.Wrong].toArray] ++ f__c) (.bool y) H') (y : Bool) (hF : F_slices_ContainsFunc___api_Bolt_api_Bolt_ n s f_ = some y) : SC Try.prog 196 [s_v0, .func (.func f__k) #[] f__c.toArray] (.bool y) H := by
 rw [F_slices_ContainsFunc___api_Bolt_api_Bolt_] at hF
 refine SC.of (N := 9) Try.func196 rfl rfl rfl fun w => ?_
 refine JC.seq (JC.region (by rfl) ?_)
 intro hQ
 refine JL.assign .none rfl ?_
 refine JL.done hQ (JQ.go (JC.seq (JC.region (by rfl) ?_)))
 intro hQ
 refine JL.move .none rfl ?_
 refine JL.move .none rfl ?_
 obtain ⟨y1, hy1, hF⟩ := bind_some hF
 refine JL.callS (c_slices_IndexFunc___api_Bolt_api_Bolt_ n H s s_v0 hs_0 f_ f__k f__c f__e (fun H' hs' => f__h H' hs') y1 hy1) rfl en_227 .none rfl ?_
 refine JL.bin rfl rfl rfl .none rfl ?_
 refine JL.assign .none rfl ?_
 refine JL.done hQ (JQ.go (JC.ret ?_))
 obtain rfl := Option.some.inj hF
 exact JQ.outS rfl (.tmp .nil) rfl
-- 161 ferrule/cloth.all[ferrule/api.Bolt]
def F_cloth_all_api_Bolt_ (n : Nat) (l : List Bolt) (is : Bolt → Option Bool) : Option Bool :=
 (F_slices_ContainsFunc___api_Bolt_api_Bolt_ n l (fun a0_ => F_cloth_all_api_Bolt__1 n a0_ is)).bind fun y4 => some (!y4)
theorem c_cloth_all_api_Bolt_ (n : Nat) (H : Hp) (l : List Bolt) (l_v0 : Value) (hl_0 : SL H 4 R_Bolt l_v0 l) (is : Bolt → Option Bool) (is_k : Nat) (is_c : List Value) (is_e : Ent Try.prog is_k) (is_h : ∀ H', HSub H H' → ∀ (a0_ : Bolt) (a0__v2 : Value) (ha0__2 : SL H' 3 R_Strip a0__v2 a0_.Strips) (y : Bool), is a0_ = some y → SC Try.prog is_k ([.agg [.int .i64 a0_.Stretch.Low, .int .i64 a0_.Stretch.High, a0__v2, .int .i64 a0_.Wrong].toArray] ++ is_c) (.bool y) H') (y : Bool) (hF : F_cloth_all_api_Bolt_ n l is = some y) : SC Try.prog 161 [l_v0, .func (.func is_k) #[] is_c.toArray] (.bool y) H := by
 rw [F_cloth_all_api_Bolt_] at hF
 refine SC.of (N := 9) Try.func161 rfl rfl rfl fun w => ?_
 refine JC.seq (JC.region (by rfl) ?_)
 intro hQ
 refine JL.box (cs := [.func (.func is_k) #[] is_c.toArray]) rfl .none rfl ?_
 intro b1
 refine JL.assign .none rfl ?_
 refine JL.done hQ (JQ.go (JC.seq (JC.region (by rfl) ?_)))
 intro hQ
 refine JL.move .none rfl ?_
 refine JL.makeFunc .none rfl ?_
 refine JL.freezeC 0 (l := [.func (.func is_k) #[] is_c.toArray]) rfl ?_
 intro H2 hs2 hc3
 obtain ⟨y4, hy4, hF⟩ := bind_some hF
 refine JL.callS (c_slices_ContainsFunc___api_Bolt_api_Bolt_ n H2 l l_v0 (SL.mono R_Bolt_mono hs2 hl_0) (fun a0_ => F_cloth_all_api_Bolt__1 n a0_ is) 197 [.pointer (some ⟨b1, 0, none⟩)] en_197 (fun H' hs' a0_ a0__v2 ha0__2 y' hy' => c_cloth_all_api_Bolt__1 n H' a0_ a0__v2 ha0__2 is (.func (.func is_k) #[] is_c.toArray) (FN_219.mono hs' ⟨is_k, is_c, rfl, is_e, (fun H' hs' => is_h H' (HSub.trans hs2 hs'))⟩) b1 (Cells.mono hs' hc3) y' hy') y4 hy4) rfl en_196 .none rfl ?_
 refine JL.not rfl .none rfl ?_
 refine JL.assign .none rfl ?_
 refine JL.done hQ (JQ.go (JC.ret ?_))
 obtain rfl := Option.some.inj hF
 exact JQ.outS rfl (.tmp .nil) rfl
-- 229 ferrule/cloth.all[ferrule/api.Strip]$1
def F_cloth_all_api_Strip__1 (n : Nat) (x_ : Strip) (c_0 : Strip → Option Bool) : Option Bool :=
 (c_0 x_).bind fun y2 => some (!y2)
theorem c_cloth_all_api_Strip__1 (n : Nat) (H : Hp) (x_ : Strip) (c_0 : Strip → Option Bool) (c_0_v0 : Value) (hc_0_0 : FN_245 H c_0_v0 c_0) (c_0_b : Nat) (c_0_c : Cells H c_0_b 0 [c_0_v0]) (y : Bool) (hF : F_cloth_all_api_Strip__1 n x_ c_0 = some y) : SC Try.prog 229 [.agg [.int .i64 x_.Long, .int .i64 x_.Pulled.Low, .int .i64 x_.Pulled.High].toArray, .pointer (some ⟨c_0_b, 0, none⟩)] (.bool y) H := by
 rw [F_cloth_all_api_Strip__1] at hF
 refine SC.of (N := 8) Try.func229 rfl rfl rfl fun w => ?_
 refine JC.seq (JC.region (by rfl) ?_)
 intro hQ
 refine JL.box (cs := [.int .i64 x_.Long, .int .i64 x_.Pulled.Low, .int .i64 x_.Pulled.High]) rfl .none rfl ?_
 intro b1
 refine JL.assign .none rfl ?_
 refine JL.done hQ (JQ.go (JC.seq (JC.region (by rfl) ?_)))
 intro hQ
 refine JL.loadH 0 az_245 rfl c_0_c rfl .none rfl ?_
 refine JL.loadOwn 0 az_176 rfl rfl rfl .none rfl ?_
 obtain ⟨y2, hy2, hF⟩ := bind_some hF
 obtain ⟨fk3, fc4, hv5, fe6, fh7⟩ := hc_0_0
 refine JL.callV hv5 (fh7 H (HSub.refl _) x_ y2 hy2) rfl fe6 .none rfl ?_
 refine JL.not rfl .none rfl ?_
 refine JL.assign .none rfl ?_
 refine JL.done hQ (JQ.go (JC.ret ?_))
 obtain rfl := Option.some.inj hF
 exact JQ.outS rfl (.tmp .nil) rfl
-- 243 slices.IndexFunc[[]ferrule/api.Strip,ferrule/api.Strip]
def F_slices_IndexFunc___api_Strip_api_Strip__s1 (n : Nat) (s : List Strip) (f_ : Strip → Option Bool) : Int → Option (Int ⊕ (Int ⊕ Unit))
 | x_55 => if decide (x_55 < (s.length : Int)) = true then ((geti s x_55).bind fun y60 => (f_ y60).bind fun y65 => if y65 = true then (some (Sum.inr (Sum.inl x_55))) else (some (Sum.inl (w64 (x_55 + 1))))) else (some (Sum.inr (Sum.inr ())))
def F_slices_IndexFunc___api_Strip_api_Strip_ (n : Nat) (s : List Strip) (f_ : Strip → Option Bool) : Option Int :=
 (loopO n (F_slices_IndexFunc___api_Strip_api_Strip__s1 n s f_) 0).bind fun r34 => match r34 with | .inl o => some o | .inr _ => some (-1)
theorem c_slices_IndexFunc___api_Strip_api_Strip_ (n : Nat) (H : Hp) (s : List Strip) (s_v0 : Value) (hs_0 : SL H 3 R_Strip s_v0 s) (f_ : Strip → Option Bool) (f__k : Nat) (f__c : List Value) (f__e : Ent Try.prog f__k) (f__h : ∀ H', HSub H H' → ∀ (a0_ : Strip) (y : Bool), f_ a0_ = some y → SC Try.prog f__k ([.agg [.int .i64 a0_.Long, .int .i64 a0_.Pulled.Low, .int .i64 a0_.Pulled.High].toArray] ++ f__c) (.bool y) H') (y : Int) (hF : F_slices_IndexFunc___api_Strip_api_Strip_ n s f_ = some y) : SC Try.prog 243 [s_v0, .func (.func f__k) #[] f__c.toArray] (.int .i64 y) H := by
 rw [F_slices_IndexFunc___api_Strip_api_Strip_] at hF
 refine SC.of (N := 19) Try.func243 rfl rfl rfl fun w => ?_
 refine JC.seq (JC.region (by rfl) ?_)
 intro hQ
 refine JL.assign .none rfl ?_
 refine JL.done hQ (JQ.go (JC.seq (JC.seq (JC.region (by rfl) ?_))))
 intro hQ
 refine JL.move .none rfl ?_
 refine JL.lenSL (R := R_Strip) ul_177 hs_0 .none rfl ?_
 refine JL.move .none rfl ?_
 refine JL.done hQ (JQ.go ?_)
 obtain ⟨r34, hlr34, hKr34⟩ := bind_some hF
 refine JC.join (fun (_ : Unit) H33 f bs gs => bs = [] ∧ gs = [] ∧ HSub H H33 ∧ Sum.inr () = r34) ?_ ?_
 ·skip
  refine JC.block (JC.loop hlr34 (fun (x_55 : Int) H56 f bs gs => f 0 = s_v0 ∧ f 1 = .func (.func f__k) #[] f__c.toArray ∧ f 7 = .int .i64 (s.length : Int) ∧ f 8 = .int .i64 x_55 ∧ bs = [] ∧ gs = [] ∧ HSub H H56) ⟨rfl, rfl, rfl, rfl, rfl, rfl, (HSub.refl _)⟩ ?_)
  rintro x_55 x58 H56 f bs gs ⟨hf0, hf1, hf7, hf8, rfl, rfl, hs56⟩ hF hr57
  rw [F_slices_IndexFunc___api_Strip_api_Strip__s1] at hF
  refine (JC.norm (i := 0) hf0 (JC.norm (i := 1) hf1 (JC.norm (i := 7) hf7 (JC.norm (i := 8) hf8 ?_))))
  refine JC.seq (JC.region (by rfl) ?_)
  intro hQ
  refine JL.bin rfl rfl rfl .none rfl ?_
  refine JL.done hQ (JQ.go (JC.seq ?_))
  rcases ite_some hF with ⟨hc59, hF⟩ | ⟨hc59, hF⟩
  ·refine JC.cond_t (b := decide (x_55 < (s.length : Int))) rfl hc59 ?_
   refine JC.skip (JQ.go (JC.seq (JC.block (JC.seq (JC.region (by rfl) ?_)))))
   intro hQ
   refine JL.move .none rfl ?_
   refine JL.assign .none rfl ?_
   refine JL.done hQ (JQ.go (JC.seq (JC.region (by rfl) ?_)))
   intro hQ
   refine JL.move .none rfl ?_
   refine JL.move .none rfl ?_
   refine JL.move .none rfl ?_
   obtain ⟨y60, hy60, hF⟩ := bind_some hF
   refine JL.indexSL (R := R_Strip) sl_177 (SL.mono R_Strip_mono hs56 hs_0) rfl hy60 .none rfl ?_
   rintro b61 o62 cs63 hc64 - rfl
   refine JL.loadH 0 az_176 rfl hc64 rfl .none rfl ?_
   obtain ⟨y65, hy65, hF⟩ := bind_some hF
   refine JL.callV rfl (f__h H56 hs56 y60 y65 hy65) rfl f__e .none rfl ?_
   refine JL.done hQ (JQ.go ?_)
   rcases ite_some hF with ⟨hc66, hF⟩ | ⟨hc66, hF⟩
   ·refine JC.cond_t (b := y65) rfl hc66 ?_
    refine JC.seq (JC.region (by rfl) ?_)
    intro hQ
    refine JL.move .none rfl ?_
    refine JL.assign .none rfl ?_
    refine JL.done hQ (JQ.go (JC.fresh (fun f => f 4 = .int .i64 x_55) rfl ?_))
    rintro f hf4
    refine (JC.norm (i := 4) hf4 ?_)
    refine JC.ret (JQ.ret_block (JQ.ret_then (JQ.ret_then (JQ.ret_block (JQ.ret_join (JQ.ret_then ?_))))))
    obtain rfl := Option.some.inj hF
    have ehr57 := hr57 _ rfl
    subst ehr57
    have hF := hKr34
    try dsimp only at hF
    obtain rfl := Option.some.inj hF
    exact JQ.outS rfl (.tmp .nil) rfl
   ·refine JC.cond_f (b := y65) rfl hc66 ?_
    refine JC.skip (JQ.normal_block (JQ.go (JC.region (by rfl) ?_)))
    intro hQ
    refine JL.bin rfl rfl rfl .none rfl ?_
    refine JL.move .none rfl ?_
    refine JL.done hQ ?_
    obtain rfl := Option.some.inj hF
    exact JQ.next rfl ⟨rfl, rfl, rfl, rfl, rfl, rfl, hs56⟩
  ·refine JC.cond_f (b := decide (x_55 < (s.length : Int))) rfl hc59 ?_
   refine JC.exit (JQ.exit_then (JQ.exit_then (JQ.exit_block ?_)))
   obtain rfl := Option.some.inj hF
   have ehr57 := hr57 _ rfl
   subst ehr57
   exact JQ.join () ⟨rfl, rfl, hs56, rfl⟩
 ·rintro _ H33 f bs gs ⟨rfl, rfl, hs33, rfl⟩
  have hF := hKr34
  try dsimp only at hF
  refine JQ.go (JC.seq (JC.region (by rfl) ?_))
  intro hQ
  refine JL.assign .none rfl ?_
  refine JL.done hQ (JQ.go (JC.ret ?_))
  obtain rfl := Option.some.inj hF
  exact JQ.outS rfl (.tmp .nil) rfl
-- 228 slices.ContainsFunc[[]ferrule/api.Strip,ferrule/api.Strip]
def F_slices_ContainsFunc___api_Strip_api_Strip_ (n : Nat) (s : List Strip) (f_ : Strip → Option Bool) : Option Bool :=
 (F_slices_IndexFunc___api_Strip_api_Strip_ n s f_).bind fun y1 => some (decide (0 ≤ y1))
theorem c_slices_ContainsFunc___api_Strip_api_Strip_ (n : Nat) (H : Hp) (s : List Strip) (s_v0 : Value) (hs_0 : SL H 3 R_Strip s_v0 s) (f_ : Strip → Option Bool) (f__k : Nat) (f__c : List Value) (f__e : Ent Try.prog f__k) (f__h : ∀ H', HSub H H' → ∀ (a0_ : Strip) (y : Bool), f_ a0_ = some y → SC Try.prog f__k ([.agg [.int .i64 a0_.Long, .int .i64 a0_.Pulled.Low, .int .i64 a0_.Pulled.High].toArray] ++ f__c) (.bool y) H') (y : Bool) (hF : F_slices_ContainsFunc___api_Strip_api_Strip_ n s f_ = some y) : SC Try.prog 228 [s_v0, .func (.func f__k) #[] f__c.toArray] (.bool y) H := by
 rw [F_slices_ContainsFunc___api_Strip_api_Strip_] at hF
 refine SC.of (N := 9) Try.func228 rfl rfl rfl fun w => ?_
 refine JC.seq (JC.region (by rfl) ?_)
 intro hQ
 refine JL.assign .none rfl ?_
 refine JL.done hQ (JQ.go (JC.seq (JC.region (by rfl) ?_)))
 intro hQ
 refine JL.move .none rfl ?_
 refine JL.move .none rfl ?_
 obtain ⟨y1, hy1, hF⟩ := bind_some hF
 refine JL.callS (c_slices_IndexFunc___api_Strip_api_Strip_ n H s s_v0 hs_0 f_ f__k f__c f__e (fun H' hs' => f__h H' hs') y1 hy1) rfl en_243 .none rfl ?_
 refine JL.bin rfl rfl rfl .none rfl ?_
 refine JL.assign .none rfl ?_
 refine JL.done hQ (JQ.go (JC.ret ?_))
 obtain rfl := Option.some.inj hF
 exact JQ.outS rfl (.tmp .nil) rfl
-- 198 ferrule/cloth.all[ferrule/api.Strip]
def F_cloth_all_api_Strip_ (n : Nat) (l : List Strip) (is : Strip → Option Bool) : Option Bool :=
 (F_slices_ContainsFunc___api_Strip_api_Strip_ n l (fun a0_ => F_cloth_all_api_Strip__1 n a0_ is)).bind fun y4 => some (!y4)
theorem c_cloth_all_api_Strip_ (n : Nat) (H : Hp) (l : List Strip) (l_v0 : Value) (hl_0 : SL H 3 R_Strip l_v0 l) (is : Strip → Option Bool) (is_k : Nat) (is_c : List Value) (is_e : Ent Try.prog is_k) (is_h : ∀ H', HSub H H' → ∀ (a0_ : Strip) (y : Bool), is a0_ = some y → SC Try.prog is_k ([.agg [.int .i64 a0_.Long, .int .i64 a0_.Pulled.Low, .int .i64 a0_.Pulled.High].toArray] ++ is_c) (.bool y) H') (y : Bool) (hF : F_cloth_all_api_Strip_ n l is = some y) : SC Try.prog 198 [l_v0, .func (.func is_k) #[] is_c.toArray] (.bool y) H := by
 rw [F_cloth_all_api_Strip_] at hF
 refine SC.of (N := 9) Try.func198 rfl rfl rfl fun w => ?_
 refine JC.seq (JC.region (by rfl) ?_)
 intro hQ
 refine JL.box (cs := [.func (.func is_k) #[] is_c.toArray]) rfl .none rfl ?_
 intro b1
 refine JL.assign .none rfl ?_
 refine JL.done hQ (JQ.go (JC.seq (JC.region (by rfl) ?_)))
 intro hQ
 refine JL.move .none rfl ?_
 refine JL.makeFunc .none rfl ?_
 refine JL.freezeC 0 (l := [.func (.func is_k) #[] is_c.toArray]) rfl ?_
 intro H2 hs2 hc3
 obtain ⟨y4, hy4, hF⟩ := bind_some hF
 refine JL.callS (c_slices_ContainsFunc___api_Strip_api_Strip_ n H2 l l_v0 (SL.mono R_Strip_mono hs2 hl_0) (fun a0_ => F_cloth_all_api_Strip__1 n a0_ is) 229 [.pointer (some ⟨b1, 0, none⟩)] en_229 (fun H' hs' a0_ y' hy' => c_cloth_all_api_Strip__1 n H' a0_ is (.func (.func is_k) #[] is_c.toArray) (FN_245.mono hs' ⟨is_k, is_c, rfl, is_e, (fun H' hs' => is_h H' (HSub.trans hs2 hs'))⟩) b1 (Cells.mono hs' hc3) y' hy') y4 hy4) rfl en_228 .none rfl ?_
 refine JL.not rfl .none rfl ?_
 refine JL.assign .none rfl ?_
 refine JL.done hQ (JQ.go (JC.ret ?_))
 obtain rfl := Option.some.inj hF
 exact JQ.outS rfl (.tmp .nil) rfl
-- 199 ferrule/cloth.isStrip
def F_cloth_isStrip (n : Nat) (s : Strip) : Option Bool :=
 (F_cloth_within n s.Long 1 2000).bind fun y2 => (if y2 = true then ((F_cloth_isSpan n s.Pulled 4000).bind fun y7 => some y7) else (some false) : Option Bool).bind fun p4 => some p4
theorem c_cloth_isStrip (n : Nat) (H : Hp) (s : Strip) (y : Bool) (hF : F_cloth_isStrip n s = some y) : SC Try.prog 199 [.agg [.int .i64 s.Long, .int .i64 s.Pulled.Low, .int .i64 s.Pulled.High].toArray] (.bool y) H := by
 rw [F_cloth_isStrip] at hF
 refine SC.of (N := 11) Try.func199 rfl rfl rfl fun w => ?_
 refine JC.seq (JC.region (by rfl) ?_)
 intro hQ
 refine JL.box (cs := [.int .i64 s.Long, .int .i64 s.Pulled.Low, .int .i64 s.Pulled.High]) rfl .none rfl ?_
 intro b1
 refine JL.assign .none rfl ?_
 refine JL.done hQ (JQ.go (JC.seq (JC.region (by rfl) ?_)))
 intro hQ
 refine JL.fieldAddr fo_176_0 rfl .none rfl ?_
 refine JL.loadOwn 0 az_3 rfl rfl rfl .none rfl ?_
 obtain ⟨y2, hy2, hF⟩ := bind_some hF
 refine JL.callS (c_cloth_within n H s.Long 1 2000 y2 hy2) rfl en_109 .none rfl ?_
 refine JL.move .none rfl ?_
 obtain ⟨p4, hp4, hF⟩ := bind_some hF
 refine JL.cut 4 (fun f => f 10 = .bool p4) ?_ ?_
 ·intro hJ5
  rcases ite_some hp4 with ⟨hc6, hF⟩ | ⟨hc6, hF⟩
  ·skip
   refine JL.fieldAddr fo_176_1 rfl (.some rfl rfl rfl hc6) rfl ?_
   refine JL.loadOwn 0 az_39 rfl rfl rfl (.some rfl rfl rfl hc6) rfl ?_
   obtain ⟨y7, hy7, hF⟩ := bind_some hF
   refine JL.callS (c_cloth_isSpan n H s.Pulled 4000 y7 hy7) rfl en_192 (.some rfl rfl rfl hc6) rfl ?_
   refine JL.pick_t (b := y2) rfl hc6 .none rfl ?_
   obtain rfl := Option.some.inj hF
   exact hJ5 _ (rfl)
  ·skip
   refine JL.skip (.bool rfl rfl rfl hc6) rfl ?_
   refine JL.skip (.bool rfl rfl rfl hc6) rfl ?_
   refine JL.skip (.bool rfl rfl rfl hc6) rfl ?_
   refine JL.pick_f (b := y2) rfl hc6 .none rfl ?_
   obtain rfl := Option.some.inj hF
   exact hJ5 _ (rfl)
 ·rintro f hf10
  refine (JL.norm (i := 10) hf10 ?_)
  refine JL.assign .none rfl ?_
  refine JL.done hQ (JQ.go (JC.ret ?_))
  obtain rfl := Option.some.inj hF
  exact JQ.outS rfl (.tmp .nil) rfl
-- 162 ferrule/cloth.isBolt
def F_cloth_isBolt (n : Nat) (b : Bolt) : Option Bool :=
 (F_cloth_isSpan n b.Stretch 60).bind fun y2 => (if (y2 && (decide ((b.Strips.length : Int) ≤ 8))) = true then ((F_cloth_all_api_Strip_ n b.Strips (fun a0_ => F_cloth_isStrip n a0_)).bind fun y9 => some y9) else (some false) : Option Bool).bind fun p6 => (if p6 = true then ((F_cloth_within n b.Wrong 0 2).bind fun y14 => some y14) else (some false) : Option Bool).bind fun p11 => some p11
theorem c_cloth_isBolt (n : Nat) (H : Hp) (b : Bolt) (b_v2 : Value) (hb_2 : SL H 3 R_Strip b_v2 b.Strips) (y : Bool) (hF : F_cloth_isBolt n b = some y) : SC Try.prog 162 [.agg [.int .i64 b.Stretch.Low, .int .i64 b.Stretch.High, b_v2, .int .i64 b.Wrong].toArray] (.bool y) H := by
 rw [F_cloth_isBolt] at hF
 refine SC.of (N := 22) Try.func162 rfl rfl rfl fun w => ?_
 refine JC.seq (JC.region (by rfl) ?_)
 intro hQ
 refine JL.box (cs := [.int .i64 b.Stretch.Low, .int .i64 b.Stretch.High, b_v2, .int .i64 b.Wrong]) rfl .none rfl ?_
 intro b1
 refine JL.assign .none rfl ?_
 refine JL.done hQ (JQ.go (JC.seq (JC.region (by rfl) ?_)))
 intro hQ
 refine JL.fieldAddr fo_179_0 rfl .none rfl ?_
 refine JL.loadOwn 0 az_39 rfl rfl rfl .none rfl ?_
 obtain ⟨y2, hy2, hF⟩ := bind_some hF
 refine JL.callS (c_cloth_isSpan n H b.Stretch 60 y2 hy2) rfl en_192 .none rfl ?_
 refine JL.move .none rfl ?_
 refine JL.cut 5 (fun f => f 1 = .pointer (some ⟨b1, 0, none⟩) ∧ f 11 = .bool (y2 && (decide ((b.Strips.length : Int) ≤ 8)))) ?_ ?_
 ·intro hJ3
  rcases bcases y2 with hc4 | hc4
  ·skip
   refine JL.fieldAddr fo_179_1 rfl (.some rfl rfl rfl hc4) rfl ?_
   refine JL.loadOwn 0 az_177 rfl rfl rfl (.some rfl rfl rfl hc4) rfl ?_
   refine JL.lenSL (R := R_Strip) ul_177 hb_2 (.some rfl rfl rfl hc4) rfl ?_
   refine JL.bin rfl rfl rfl (.some rfl rfl rfl hc4) rfl ?_
   refine JL.pick_t (b := y2) rfl hc4 .none rfl ?_
   exact hJ3 _ ⟨rfl, and_t hc4 rfl⟩
  ·skip
   refine JL.skip (.bool rfl rfl rfl hc4) rfl ?_
   refine JL.skip (.bool rfl rfl rfl hc4) rfl ?_
   refine JL.skip (.bool rfl rfl rfl hc4) rfl ?_
   refine JL.skip (.bool rfl rfl rfl hc4) rfl ?_
   refine JL.pick_f (b := y2) rfl hc4 .none rfl ?_
   exact hJ3 _ ⟨rfl, and_f hc4 rfl⟩
 ·rintro f ⟨hf1, hf11⟩
  refine (JL.norm (i := 1) hf1 (JL.norm (i := 11) hf11 ?_))
  refine JL.move .none rfl ?_
  obtain ⟨p6, hp6, hF⟩ := bind_some hF
  refine JL.cut 4 (fun f => f 1 = .pointer (some ⟨b1, 0, none⟩) ∧ f 16 = .bool p6) ?_ ?_
  ·intro hJ7
   rcases ite_some hp6 with ⟨hc8, hF⟩ | ⟨hc8, hF⟩
   ·skip
    refine JL.fieldAddr fo_179_1 rfl (.some rfl rfl rfl hc8) rfl ?_
    refine JL.loadOwn 0 az_177 rfl rfl rfl (.some rfl rfl rfl hc8) rfl ?_
    obtain ⟨y9, hy9, hF⟩ := bind_some hF
    refine JL.callS (c_cloth_all_api_Strip_ n H b.Strips b_v2 hb_2 (fun a0_ => F_cloth_isStrip n a0_) 199 [] en_199 (fun H' hs' a0_ y' hy' => c_cloth_isStrip n H' a0_ y' hy') y9 hy9) rfl en_198 (.some rfl rfl rfl hc8) rfl ?_
    refine JL.pick_t (b := (y2 && (decide ((b.Strips.length : Int) ≤ 8)))) rfl hc8 .none rfl ?_
    obtain rfl := Option.some.inj hF
    exact hJ7 _ ⟨rfl, rfl⟩
   ·skip
    refine JL.skip (.bool rfl rfl rfl hc8) rfl ?_
    refine JL.skip (.bool rfl rfl rfl hc8) rfl ?_
    refine JL.skip (.bool rfl rfl rfl hc8) rfl ?_
    refine JL.pick_f (b := (y2 && (decide ((b.Strips.length : Int) ≤ 8)))) rfl hc8 .none rfl ?_
    obtain rfl := Option.some.inj hF
    exact hJ7 _ ⟨rfl, rfl⟩
  ·rintro f ⟨hf1, hf16⟩
   refine (JL.norm (i := 1) hf1 (JL.norm (i := 16) hf16 ?_))
   refine JL.move .none rfl ?_
   obtain ⟨p11, hp11, hF⟩ := bind_some hF
   refine JL.cut 4 (fun f => f 21 = .bool p11) ?_ ?_
   ·intro hJ12
    rcases ite_some hp11 with ⟨hc13, hF⟩ | ⟨hc13, hF⟩
    ·skip
     refine JL.fieldAddr fo_179_2 rfl (.some rfl rfl rfl hc13) rfl ?_
     refine JL.loadOwn 0 az_3 rfl rfl rfl (.some rfl rfl rfl hc13) rfl ?_
     obtain ⟨y14, hy14, hF⟩ := bind_some hF
     refine JL.callS (c_cloth_within n H b.Wrong 0 2 y14 hy14) rfl en_109 (.some rfl rfl rfl hc13) rfl ?_
     refine JL.pick_t (b := p6) rfl hc13 .none rfl ?_
     obtain rfl := Option.some.inj hF
     exact hJ12 _ (rfl)
    ·skip
     refine JL.skip (.bool rfl rfl rfl hc13) rfl ?_
     refine JL.skip (.bool rfl rfl rfl hc13) rfl ?_
     refine JL.skip (.bool rfl rfl rfl hc13) rfl ?_
     refine JL.pick_f (b := p6) rfl hc13 .none rfl ?_
     obtain rfl := Option.some.inj hF
     exact hJ12 _ (rfl)
   ·rintro f hf21
    refine (JL.norm (i := 21) hf21 ?_)
    refine JL.assign .none rfl ?_
    refine JL.done hQ (JQ.go (JC.ret ?_))
    obtain rfl := Option.some.inj hF
    exact JQ.outS rfl (.tmp .nil) rfl
-- 106 ferrule/cloth.Check
def F_cloth_Check (n : Nat) (d : Dome) : Option Int :=
 (F_cloth_isDome n d).bind fun y2 => if (!y2) = true then (some 20) else ((F_cloth_all_api_Bolt_ n d.Bolts (fun a0_ => F_cloth_isBolt n a0_)).bind fun y4 => if (!y4) = true then (some 21) else (some 0))
theorem c_cloth_Check (n : Nat) (H : Hp) (d : Dome) (d_v0 : Value) (hd_0 : SL H 4 R_Bolt d_v0 d.Bolts) (d_v1 : Value) (hd_1 : SL H 1 RInt d_v1 d.Gores) (d_v3 : Value) (hd_3 : SL H 2 R_Span d_v3 d.Rounds) (d_v4 : Value) (hd_4 : SL H 1 RInt d_v4 d.Widths) (y : Int) (hF : F_cloth_Check n d = some y) : SC Try.prog 106 [.agg [d_v0, d_v1, .int .i64 d.Loss, d_v3, d_v4, .int .i64 d.Slope].toArray] (.int .i64 y) H := by
 rw [F_cloth_Check] at hF
 refine SC.of (N := 12) Try.func106 rfl rfl rfl fun w => ?_
 refine JC.seq (JC.region (by rfl) ?_)
 intro hQ
 refine JL.box (cs := [d_v0, d_v1, .int .i64 d.Loss, d_v3, d_v4, .int .i64 d.Slope]) rfl .none rfl ?_
 intro b1
 refine JL.assign .none rfl ?_
 refine JL.done hQ (JQ.go (JC.seq (JC.block (JC.seq (JC.region (by rfl) ?_)))))
 intro hQ
 refine JL.loadOwn 0 az_26 rfl rfl rfl .none rfl ?_
 obtain ⟨y2, hy2, hF⟩ := bind_some hF
 refine JL.callS (c_cloth_isDome n H d d_v0 hd_0 d_v1 hd_1 d_v3 hd_3 d_v4 hd_4 y2 hy2) rfl en_160 .none rfl ?_
 refine JL.not rfl .none rfl ?_
 refine JL.assign .none rfl ?_
 refine JL.done hQ (JQ.go ?_)
 rcases ite_some hF with ⟨hc3, hF⟩ | ⟨hc3, hF⟩
 ·refine JC.cond_t (b := (!y2)) rfl hc3 ?_
  refine JC.seq (JC.region (by rfl) ?_)
  intro hQ
  refine JL.assign .none rfl ?_
  refine JL.done hQ (JQ.go (JC.ret (JQ.ret_block (JQ.ret_then ?_))))
  obtain rfl := Option.some.inj hF
  exact JQ.outS rfl (.tmp .nil) rfl
 ·refine JC.cond_f (b := (!y2)) rfl hc3 ?_
  refine JC.seq (JC.region (by rfl) ?_)
  intro hQ
  refine JL.fieldAddr fo_26_0 rfl .none rfl ?_
  refine JL.loadOwn 0 az_22 rfl rfl rfl .none rfl ?_
  obtain ⟨y4, hy4, hF⟩ := bind_some hF
  refine JL.callS (c_cloth_all_api_Bolt_ n H d.Bolts d_v0 hd_0 (fun a0_ => F_cloth_isBolt n a0_) 162 [] en_162 (fun H' hs' a0_ a0__v2 ha0__2 y' hy' => c_cloth_isBolt n H' a0_ a0__v2 ha0__2 y' hy') y4 hy4) rfl en_161 .none rfl ?_
  refine JL.not rfl .none rfl ?_
  refine JL.assign .none rfl ?_
  refine JL.done hQ (JQ.go ?_)
  rcases ite_some hF with ⟨hc5, hF⟩ | ⟨hc5, hF⟩
  ·refine JC.cond_t (b := (!y4)) rfl hc5 ?_
   refine JC.seq (JC.region (by rfl) ?_)
   intro hQ
   refine JL.assign .none rfl ?_
   refine JL.done hQ (JQ.go (JC.ret (JQ.ret_block (JQ.ret_then ?_))))
   obtain rfl := Option.some.inj hF
   exact JQ.outS rfl (.tmp .nil) rfl
  ·refine JC.cond_f (b := (!y4)) rfl hc5 ?_
   refine JC.skip (JQ.normal_block (JQ.go (JC.seq (JC.region (by rfl) ?_))))
   intro hQ
   refine JL.assign .none rfl ?_
   refine JL.done hQ (JQ.go (JC.ret ?_))
   obtain rfl := Option.some.inj hF
   exact JQ.outS rfl (.tmp .nil) rfl
-- 107 ferrule/cloth.numbers
def F_cloth_numbers (n : Nat) (b : Bolt) : Option Bolt :=
 some b
theorem c_cloth_numbers (n : Nat) (H : Hp) (b : Bolt) (b_v2 : Value) (hb_2 : SL H 3 R_Strip b_v2 b.Strips) (y : Bolt) (hF : F_cloth_numbers n b = some y) : HC Try.prog 107 [.agg [.int .i64 b.Stretch.Low, .int .i64 b.Stretch.High, b_v2, .int .i64 b.Wrong].toArray] H (fun H' v => ∃ b0_ : Nat, ∃ z0_v2 : Value, v = .func (.func 163) #[] [.pointer (some ⟨b0_, 0, none⟩)].toArray ∧ Cells H' b0_ 0 [.int .i64 y.Stretch.Low, .int .i64 y.Stretch.High, z0_v2, .int .i64 y.Wrong] ∧ SL H' 3 R_Strip z0_v2 y.Strips) := by
 rw [F_cloth_numbers] at hF
 refine HC.of (N := 4) Try.func107 rfl rfl rfl fun w => ?_
 refine JC.seq (JC.region (by rfl) ?_)
 intro hQ
 refine JL.box (cs := [.int .i64 b.Stretch.Low, .int .i64 b.Stretch.High, b_v2, .int .i64 b.Wrong]) rfl .none rfl ?_
 intro b1
 refine JL.assign .none rfl ?_
 refine JL.done hQ (JQ.go (JC.seq (JC.region (by rfl) ?_)))
 intro hQ
 refine JL.makeFunc .none rfl ?_
 refine JL.assign .none rfl ?_
 refine JL.done hQ (JQ.go (JC.ret (JQ.freezeC 0 (l := [.int .i64 b.Stretch.Low, .int .i64 b.Stretch.High, b_v2, .int .i64 b.Wrong]) rfl ?_)))
 intro H2 hs2 hc3
 obtain rfl := Option.some.inj hF
 exact JQ.outH rfl (.tmp .nil) ⟨b1, b_v2, rfl, hc3, (SL.mono R_Strip_mono hs2 hb_2)⟩
-- 114 ferrule/cloth.pull
def F_cloth_pull (n : Nat) (long : Int) (by_ : Int) : Option Int :=
 some (w64 ((w64 (long * (w64 (1000 + by_)))).tdiv 1000))
theorem c_cloth_pull (n : Nat) (H : Hp) (long : Int) (by_ : Int) (y : Int) (hF : F_cloth_pull n long by_ = some y) : SC Try.prog 114 [.int .i64 long, .int .i64 by_] (.int .i64 y) H := by
 rw [F_cloth_pull] at hF
 refine SC.of (N := 10) Try.func114 rfl rfl rfl fun w => ?_
 refine JC.seq (JC.region (by rfl) ?_)
 intro hQ
 refine JL.assign .none rfl ?_
 refine JL.done hQ (JQ.go (JC.seq (JC.region (by rfl) ?_)))
 intro hQ
 refine JL.move .none rfl ?_
 refine JL.move .none rfl ?_
 refine JL.bin rfl rfl rfl .none rfl ?_
 refine JL.bin rfl rfl rfl .none rfl ?_
 refine JL.div rfl rfl (by decide) rfl .none rfl ?_
 refine JL.assign .none rfl ?_
 refine JL.done hQ (JQ.go (JC.ret ?_))
 obtain rfl := Option.some.inj hF
 exact JQ.outS rfl (.tmp .nil) rfl
-- 108 ferrule/cloth.wrong
def F_cloth_wrong_s1 (n : Nat) (b : Bolt) (by_ : Int) : Int × Int → Option ((Int × Int) ⊕ Int)
 | (n_102, x_103) => if decide (x_103 < (b.Strips.length : Int)) = true then ((geti b.Strips x_103).bind fun y108 => (F_cloth_pull n y108.Long by_).bind fun y116 => (F_cloth_within n y116 y108.Pulled.Low y108.Pulled.High).bind fun y117 => (if (!y117) = true then (some (w64 (n_102 + 1))) else (some n_102)).bind fun n_119 => some (Sum.inl (n_119, (w64 (x_103 + 1))))) else (some (Sum.inr n_102))
def F_cloth_wrong (n : Nat) (b : Bolt) (by_ : Int) : Option Int :=
 (loopO n (F_cloth_wrong_s1 n b by_) (0, 0)).bind fun n_61 => some n_61
theorem c_cloth_wrong (n : Nat) (H : Hp) (b : Bolt) (b_v2 : Value) (hb_2 : SL H 3 R_Strip b_v2 b.Strips) (by_ : Int) (y : Int) (hF : F_cloth_wrong n b by_ = some y) : SC Try.prog 108 [.agg [.int .i64 b.Stretch.Low, .int .i64 b.Stretch.High, b_v2, .int .i64 b.Wrong].toArray, .int .i64 by_] (.int .i64 y) H := by
 rw [F_cloth_wrong] at hF
 refine SC.of (N := 30) Try.func108 rfl rfl rfl fun w => ?_
 refine JC.seq (JC.region (by rfl) ?_)
 intro hQ
 refine JL.box (cs := [.int .i64 b.Stretch.Low, .int .i64 b.Stretch.High, b_v2, .int .i64 b.Wrong]) rfl .none rfl ?_
 intro b1
 refine JL.assign .none rfl ?_
 refine JL.done hQ (JQ.go (JC.seq (JC.seq (JC.region (by rfl) ?_))))
 intro hQ
 refine JL.fieldAddr fo_179_1 rfl .none rfl ?_
 refine JL.loadOwn 0 az_177 rfl rfl rfl .none rfl ?_
 refine JL.lenSL (R := R_Strip) ul_177 hb_2 .none rfl ?_
 refine JL.move .none rfl ?_
 refine JL.done hQ (JQ.go ?_)
 obtain ⟨r63, hlr63, hKr63⟩ := bind_some hF
 refine JC.join (fun (n_61 : Int) H62 f bs gs => f 4 = .int .i64 n_61 ∧ bs = [] ∧ gs = [] ∧ HSub H H62 ∧ n_61 = r63) ?_ ?_
 ·skip
  refine JC.block (JC.mask [false] [] ?_)
  refine JC.loop hlr63 (fun (x : Int × Int) H104 f bs gs => match x with | (n_102, x_103) => f 1 = .int .i64 by_ ∧ f 4 = .int .i64 n_102 ∧ f 8 = b_v2 ∧ f 9 = .int .i64 (b.Strips.length : Int) ∧ f 10 = .int .i64 x_103 ∧ bs = [] ∧ gs = [] ∧ HSub H H104) ⟨rfl, rfl, rfl, rfl, rfl, rfl, rfl, (HSub.refl _)⟩ ?_
  rintro ⟨n_102, x_103⟩ x106 H104 f bs gs ⟨hf1, hf4, hf8, hf9, hf10, rfl, rfl, hs104⟩ hF hr105
  rw [F_cloth_wrong_s1] at hF
  refine (JC.norm (i := 1) hf1 (JC.norm (i := 4) hf4 (JC.norm (i := 8) hf8 (JC.norm (i := 9) hf9 (JC.norm (i := 10) hf10 ?_)))))
  refine JC.seq (JC.region (by rfl) ?_)
  intro hQ
  refine JL.bin rfl rfl rfl .none rfl ?_
  refine JL.done hQ (JQ.go (JC.seq ?_))
  rcases ite_some hF with ⟨hc107, hF⟩ | ⟨hc107, hF⟩
  ·refine JC.cond_t (b := decide (x_103 < (b.Strips.length : Int))) rfl hc107 ?_
   refine JC.skip (JQ.go (JC.seq (JC.block (JC.seq (JC.region (by rfl) ?_)))))
   intro hQ
   obtain ⟨y108, hy108, hF⟩ := bind_some hF
   refine JL.indexSL (R := R_Strip) sl_177 (SL.mono R_Strip_mono hs104 hb_2) rfl hy108 .none rfl ?_
   rintro b109 o110 cs111 hc112 - rfl
   refine JL.loadH 0 az_176 rfl hc112 rfl .none rfl ?_
   refine JL.alloc ze_176 .none rfl ?_
   intro b113
   refine JL.storeOwn 0 (cs := [.int .i64 y108.Long, .int .i64 y108.Pulled.Low, .int .i64 y108.Pulled.High]) az_176 rfl rfl rfl (one_cons rfl (one_cons rfl (one_cons rfl one_nil))) rfl rfl .none ?_
   refine JL.done hQ (JQ.go (JC.seq (JC.draw (by rfl) mo_ (by kernel_rfl) ?_)))
   intro hQ
   refine JL.fieldAddr fo_176_0 rfl .none rfl ?_
   refine JL.loadOwn 0 az_3 rfl rfl rfl .none rfl ?_
   refine JL.move .none rfl ?_
   obtain ⟨y116, hy116, hF⟩ := bind_some hF
   refine JL.callS (c_cloth_pull n H104 y108.Long by_ y116 hy116) rfl en_114 .none rfl ?_
   refine JL.fieldAddr fo_176_1 rfl .none rfl ?_
   refine JL.fieldAddr fo_39_0 rfl .none rfl ?_
   refine JL.loadOwn 0 az_3 rfl rfl rfl .none rfl ?_
   refine JL.fieldAddr fo_176_1 rfl .none rfl ?_
   refine JL.fieldAddr fo_39_1 rfl .none rfl ?_
   refine JL.loadOwn 0 az_3 rfl rfl rfl .none rfl ?_
   obtain ⟨y117, hy117, hF⟩ := bind_some hF
   refine JL.callS (c_cloth_within n H104 y116 y108.Pulled.Low y108.Pulled.High y117 hy117) rfl en_109 .none rfl ?_
   refine JL.not rfl .none rfl ?_
   refine JL.doneQ hQ ?_
   refine JQ.go (JC.fresh (fun f => f 1 = .int .i64 by_ ∧ f 4 = .int .i64 n_102 ∧ f 8 = b_v2 ∧ f 9 = .int .i64 (b.Strips.length : Int) ∧ f 10 = .int .i64 x_103 ∧ f 25 = .bool (!y117)) ⟨rfl, rfl, rfl, rfl, rfl, rfl⟩ ?_)
   rintro f ⟨hf1, hf4, hf8, hf9, hf10, hf25⟩
   refine (JC.norm (i := 1) hf1 (JC.norm (i := 4) hf4 (JC.norm (i := 8) hf8 (JC.norm (i := 9) hf9 (JC.norm (i := 10) hf10 (JC.norm (i := 25) hf25 ?_))))))
   obtain ⟨r121, hlr121, hKr121⟩ := bind_some hF
   refine JC.join (fun (n_119 : Int) H120 f bs gs => f 1 = .int .i64 by_ ∧ f 4 = .int .i64 n_119 ∧ f 8 = b_v2 ∧ f 9 = .int .i64 (b.Strips.length : Int) ∧ f 10 = .int .i64 x_103 ∧ bs = [] ∧ gs = [] ∧ HSub H104 H120 ∧ n_119 = r121) ?_ ?_
   ·have hF := hlr121
    rcases ite_some hF with ⟨hc122, hF⟩ | ⟨hc122, hF⟩
    ·refine JC.cond_t (b := (!y117)) rfl hc122 ?_
     refine JC.region (by rfl) ?_
     intro hQ
     refine JL.move .none rfl ?_
     refine JL.bin rfl rfl rfl .none rfl ?_
     refine JL.assign .none rfl ?_
     refine JL.done hQ ?_
     obtain rfl := Option.some.inj hF
     refine JQ.mask [false] [] ?_
     exact JQ.join (w64 (n_102 + 1)) ⟨rfl, rfl, rfl, rfl, rfl, rfl, rfl, (HSub.refl _), rfl⟩
    ·refine JC.cond_f (b := (!y117)) rfl hc122 ?_
     refine JC.skip ?_
     obtain rfl := Option.some.inj hF
     refine JQ.mask [false] [] ?_
     exact JQ.join n_102 ⟨rfl, rfl, rfl, rfl, rfl, rfl, rfl, (HSub.refl _), rfl⟩
   ·rintro n_119 H120 f bs gs ⟨hf1, hf4, hf8, hf9, hf10, rfl, rfl, hs120, rfl⟩
    have hF := hKr121
    try dsimp only at hF
    refine (JQ.norm (i := 1) hf1 (JQ.norm (i := 4) hf4 (JQ.norm (i := 8) hf8 (JQ.norm (i := 9) hf9 (JQ.norm (i := 10) hf10 ?_)))))
    refine JQ.normal_block (JQ.go (JC.region (by rfl) ?_))
    intro hQ
    refine JL.bin rfl rfl rfl .none rfl ?_
    refine JL.move .none rfl ?_
    refine JL.done hQ ?_
    obtain rfl := Option.some.inj hF
    exact JQ.next rfl ⟨rfl, rfl, rfl, rfl, rfl, rfl, rfl, (HSub.trans hs104 hs120)⟩
  ·refine JC.cond_f (b := decide (x_103 < (b.Strips.length : Int))) rfl hc107 ?_
   refine JC.exit (JQ.exit_then (JQ.exit_then (JQ.exit_block ?_)))
   obtain rfl := Option.some.inj hF
   have ehr105 := hr105 _ rfl
   subst ehr105
   exact JQ.join n_102 ⟨rfl, rfl, rfl, hs104, rfl⟩
 ·rintro n_61 H62 f bs gs ⟨hf4, rfl, rfl, hs62, rfl⟩
  have hF := hKr63
  try dsimp only at hF
  refine (JQ.norm (i := 4) hf4 ?_)
  refine JQ.go (JC.seq (JC.region (by rfl) ?_))
  intro hQ
  refine JL.move .none rfl ?_
  refine JL.assign .none rfl ?_
  refine JL.done hQ (JQ.go (JC.ret ?_))
  obtain rfl := Option.some.inj hF
  exact JQ.outS rfl (.tmp .nil) rfl
end Go.Proofs.Yteihdclpiekmaaa
end
section
set_option maxRecDepth 100000
set_option maxHeartbeats 40000000
namespace Go.Proofs.Yteihdclpiekmaaa
open Go Go.RowKit Go.Dec
set_option linter.unusedVariables false
-- 54 ferrule/cloth.pitch
def F_cloth_pitch_s2 (n : Nat) (y1188 : Bolt) : (List Int) → Int → Option ((List Int) ⊕ Unit)
 | out_1278, x1198 => (F_cloth_wrong n y1188 x1198).bind fun y1284 => (if decide (y1284 ≤ y1188.Wrong) = true then ((lim (out_1278 ++ [x1198])).bind fun l1297 => some l1297) else (some out_1278)).bind fun out_1292 => some (Sum.inl out_1292)
def F_cloth_pitch_s1 (n : Nat) (d : Dome) : Int × List (List Int) → Option ((Int × List (List Int)) ⊕ (((Option cloth_tent) × Int) ⊕ (List (List Int))))
 | (x_1181, out_1182) => if decide (x_1181 < (d.Bolts.length : Int)) = true then ((geti d.Bolts x_1181).bind fun y1188 => (F_cloth_numbers n y1188).bind fun y1195 => (I_cloth_numbers_1 n y1195 (F_cloth_pitch_s2 n y1188) ([] : List Int)).bind fun r1280 => match r1280 with | .inl out_1278 => if ((out_1278.length : Int) == 0) = true then (some (Sum.inr (Sum.inl ((none : Option cloth_tent), 3)))) else ((lim (out_1182 ++ [out_1278])).bind fun l1309 => some (Sum.inl ((w64 (x_1181 + 1)), l1309))) | .inr _ => none) else (some (Sum.inr (Sum.inr out_1182)))
def F_cloth_pitch (n : Nat) (d : Dome) (is : Bool) : Option ((Option cloth_tent) × Int) :=
 (F_cloth_Check n d).bind fun y2 => if (y2 != 0) = true then (some ((none : Option cloth_tent), y2)) else (if (!is) = true then (some ((none : Option cloth_tent), 1)) else ((loopO n (F_cloth_pitch_s1 n d) (0, ([] : List (List Int)))).bind fun r796 => match r796 with | .inl o => some o | .inr out_794 => some ((some (cloth_tent.mk d out_794)), 0)))
theorem c_cloth_pitch (n : Nat) (H : Hp) (d : Dome) (d_v0 : Value) (hd_0 : SL H 4 R_Bolt d_v0 d.Bolts) (d_v1 : Value) (hd_1 : SL H 1 RInt d_v1 d.Gores) (d_v3 : Value) (hd_3 : SL H 2 R_Span d_v3 d.Rounds) (d_v4 : Value) (hd_4 : SL H 1 RInt d_v4 d.Widths) (is : Bool) (y : (Option cloth_tent) × Int) (hF : F_cloth_pitch n d is = some y) : HC Try.prog 54 [.agg [d_v0, d_v1, .int .i64 d.Loss, d_v3, d_v4, .int .i64 d.Slope].toArray, .bool is] H (fun H' v => ∃ ra_v0 : Value, v = .tuple [ra_v0, .int .i64 y.2].toArray ∧ PT H' R_cloth_tent ra_v0 y.1) := by
 rw [F_cloth_pitch] at hF
 refine HC.ofM (N := 57) Try.func54 rfl rfl rfl fun w => ?_
 refine JC.seq (JC.region (by rfl) ?_)
 intro hQ
 refine JL.box (cs := [d_v0, d_v1, .int .i64 d.Loss, d_v3, d_v4, .int .i64 d.Slope]) rfl .none rfl ?_
 intro b1
 refine JL.assign .none rfl ?_
 refine JL.assign .none rfl ?_
 refine JL.done hQ (JQ.go (JC.seq (JC.seq (JC.region (by rfl) ?_))))
 intro hQ
 refine JL.loadOwn 0 az_26 rfl rfl rfl .none rfl ?_
 obtain ⟨y2, hy2, hF⟩ := bind_some hF
 refine JL.callS (c_cloth_Check n H d d_v0 hd_0 d_v1 hd_1 d_v3 hd_3 d_v4 hd_4 y2 hy2) rfl en_106 .none rfl ?_
 refine JL.assign .none rfl ?_
 refine JL.done hQ (JQ.go (JC.seq (JC.region (by rfl) ?_)))
 intro hQ
 refine JL.move .none rfl ?_
 refine JL.bin rfl rfl rfl .none rfl ?_
 refine JL.done hQ (JQ.go ?_)
 rcases ite_some hF with ⟨hc3, hF⟩ | ⟨hc3, hF⟩
 ·refine JC.cond_t (b := (y2 != 0)) rfl hc3 ?_
  refine JC.seq (JC.region (by rfl) ?_)
  intro hQ
  refine JL.move .none rfl ?_
  refine JL.assign .none rfl ?_
  refine JL.assign .none rfl ?_
  refine JL.done hQ (JQ.go (JC.ret (JQ.ret_then ?_)))
  obtain rfl := Option.some.inj hF
  exact JQ.outHM rfl .nil (.tmp (.tmp .nil)) ⟨(.pointer none), rfl, rfl⟩
 ·refine JC.cond_f (b := (y2 != 0)) rfl hc3 ?_
  refine JC.skip (JQ.go (JC.seq (JC.seq (JC.region (by rfl) ?_))))
  intro hQ
  refine JL.move .none rfl ?_
  refine JL.not rfl .none rfl ?_
  refine JL.done hQ (JQ.go ?_)
  rcases ite_some hF with ⟨hc4, hF⟩ | ⟨hc4, hF⟩
  ·refine JC.cond_t (b := (!is)) rfl hc4 ?_
   refine JC.seq (JC.region (by rfl) ?_)
   intro hQ
   refine JL.assign .none rfl ?_
   refine JL.assign .none rfl ?_
   refine JL.done hQ (JQ.go (JC.ret (JQ.ret_then ?_)))
   obtain rfl := Option.some.inj hF
   exact JQ.outHM rfl .nil (.tmp (.tmp .nil)) ⟨(.pointer none), rfl, rfl⟩
  ·refine JC.cond_f (b := (!is)) rfl hc4 ?_
   refine JC.skip (JQ.go (JC.seq (JC.region (by rfl) ?_)))
   intro hQ
   refine JL.loadOwn 0 az_26 rfl rfl rfl .none rfl ?_
   obtain ⟨a5, c6, rfl, hh7⟩ := hd_0
   have hd_0 : SL H 4 R_Bolt (.slice a5 d.Bolts.length c6) d.Bolts := ⟨a5, c6, rfl, hh7⟩
   obtain ⟨a8, c9, rfl, hh10⟩ := hd_1
   have hd_1 : SL H 1 RInt (.slice a8 d.Gores.length c9) d.Gores := ⟨a8, c9, rfl, hh10⟩
   obtain ⟨a11, c12, rfl, hh13⟩ := hd_3
   have hd_3 : SL H 2 R_Span (.slice a11 d.Rounds.length c12) d.Rounds := ⟨a11, c12, rfl, hh13⟩
   obtain ⟨a14, c15, rfl, hh16⟩ := hd_4
   have hd_4 : SL H 1 RInt (.slice a14 d.Widths.length c15) d.Widths := ⟨a14, c15, rfl, hh16⟩
   refine JL.build (l := [(.slice a5 d.Bolts.length c6), (.slice a8 d.Gores.length c9), .int .i64 d.Loss, (.slice a11 d.Rounds.length c12), (.slice a14 d.Widths.length c15), .int .i64 d.Slope, .slice none 0 0]) (by kernel_rfl) .none rfl ?_
   refine JL.box (cs := [(.slice a5 d.Bolts.length c6), (.slice a8 d.Gores.length c9), .int .i64 d.Loss, (.slice a11 d.Rounds.length c12), (.slice a14 d.Widths.length c15), .int .i64 d.Slope, .slice none 0 0]) rfl .none rfl ?_
   intro b17
   refine JL.assign .none rfl ?_
   refine JL.done hQ (JQ.go (JC.fresh (fun f => f 2 = .pointer (some ⟨b1, 0, none⟩) ∧ f 4 = .pointer none ∧ f 5 = .int .i64 0 ∧ f 7 = .pointer (some ⟨b17, 0, none⟩)) ⟨rfl, rfl, rfl, rfl⟩ ?_))
   rintro f ⟨hf2, hf4, hf5, hf7⟩
   refine (JC.norm (i := 2) hf2 (JC.norm (i := 4) hf4 (JC.norm (i := 5) hf5 (JC.norm (i := 7) hf7 ?_))))
   refine JC.seq (JC.seq (JC.region (by rfl) ?_))
   intro hQ
   refine JL.fieldAddr fo_26_0 rfl .none rfl ?_
   refine JL.loadOwn 1 az_22 rfl rfl rfl .none rfl ?_
   refine JL.lenSL (R := R_Bolt) ul_22 hd_0 .none rfl ?_
   refine JL.move .none rfl ?_
   refine JL.done hQ (JQ.go (JC.newNil (e := 23) (sz := 1) ?_))
   obtain ⟨r796, hlr796, hKr796⟩ := bind_some hF
   refine JC.joinD (fun (out_794 : List (List Int)) H795 f bs gs => ∃ (vout_794 : Value) (xsout_794 : List Value), f 7 = .pointer (some ⟨b17, 0, none⟩) ∧ bs = [(b17, .cells [(.slice a5 d.Bolts.length c6), (.slice a8 d.Gores.length c9), .int .i64 d.Loss, (.slice a11 d.Rounds.length c12), (.slice a14 d.Widths.length c15), .int .i64 d.Slope, vout_794].toArray 117)] ∧ gs = [⟨vout_794, 23, 1, out_794.length, xsout_794⟩] ∧ CH H795 1 (RSl 1 RInt) xsout_794 out_794 ∧ HSub H H795 ∧ Sum.inr out_794 = r796) ?_ ?_
   ·skip
    refine JC.block (JC.mask [true, false] [true] ?_)
    refine JC.loopD hlr796 (fun (x : Int × List (List Int)) H1183 f bs gs => match x with | (x_1181, out_1182) => ∃ (vout_1182 : Value) (xsout_1182 : List Value), f 7 = .pointer (some ⟨b17, 0, none⟩) ∧ f 23 = (.slice a5 d.Bolts.length c6) ∧ f 24 = .int .i64 (d.Bolts.length : Int) ∧ f 25 = .int .i64 x_1181 ∧ bs = [(b17, .cells [(.slice a5 d.Bolts.length c6), (.slice a8 d.Gores.length c9), .int .i64 d.Loss, (.slice a11 d.Rounds.length c12), (.slice a14 d.Widths.length c15), .int .i64 d.Slope, vout_1182].toArray 117)] ∧ gs = [⟨vout_1182, 23, 1, out_1182.length, xsout_1182⟩] ∧ CH H1183 1 (RSl 1 RInt) xsout_1182 out_1182 ∧ HSub H H1183) ⟨(.slice none 0 0), [], rfl, rfl, rfl, rfl, rfl, rfl, CH.nil, (HSub.refl _)⟩ ?_
    rintro ⟨x_1181, out_1182⟩ x1185 H1183 f bs gs Ds1186 bs2 ⟨vout_1182, xsout_1182, hf7, hf23, hf24, hf25, rfl, rfl, hout_1182, hs1183⟩ hF hr1184 hbs
    simp only [List.cons_append, List.nil_append] at hbs
    subst hbs
    rw [F_cloth_pitch_s1] at hF
    refine (JC.norm (i := 7) hf7 (JC.norm (i := 23) hf23 (JC.norm (i := 24) hf24 (JC.norm (i := 25) hf25 ?_))))
    refine JC.seq (JC.region (by rfl) ?_)
    intro hQ
    refine JL.bin rfl rfl rfl .none rfl ?_
    refine JL.done hQ (JQ.go (JC.seq ?_))
    rcases ite_some hF with ⟨hc1187, hF⟩ | ⟨hc1187, hF⟩
    ·refine JC.cond_t (b := decide (x_1181 < (d.Bolts.length : Int))) rfl hc1187 ?_
     refine JC.skip (JQ.go (JC.seq (JC.block (JC.seq (JC.region (by rfl) ?_)))))
     intro hQ
     obtain ⟨y1188, hy1188, hF⟩ := bind_some hF
     refine JL.indexSL (R := R_Bolt) sl_22 (SL.mono R_Bolt_mono hs1183 hd_0) rfl hy1188 .none rfl ?_
     rintro b1189 o1190 cs1191 hc1192 - ⟨y1188_v2, rfl, hy1188_2⟩
     refine JL.loadH 0 az_179 rfl hc1192 rfl .none rfl ?_
     refine JL.alloc ze_179 .none rfl ?_
     intro b1193
     refine JL.storeOwn 0 (cs := [.int .i64 y1188.Stretch.Low, .int .i64 y1188.Stretch.High, y1188_v2, .int .i64 y1188.Wrong]) az_179 rfl rfl rfl (one_cons rfl (one_cons rfl (one_cons (SL.one hy1188_2) (one_cons rfl one_nil)))) rfl rfl .none ?_
     refine JL.done hQ (JQ.go (JC.seq (JC.region (by rfl) ?_)))
     intro hQ
     refine JL.alloc ze_23 .none rfl ?_
     intro b1194
     refine JL.done hQ (JQ.go (JC.seq (JC.seq (JC.region (by rfl) ?_))))
     intro hQ
     refine JL.loadOwn 1 az_179 rfl rfl rfl .none rfl ?_
     obtain ⟨y1195, hy1195, hF⟩ := bind_some hF
     refine JL.callH (c_cloth_numbers n H1183 y1188 y1188_v2 hy1188_2 y1195 hy1195) rfl en_107 .none rfl ?_
     rintro H1196 vv1197 hs1196 ⟨y1195_b0, y1195_0_v2, rfl, hy1195_b0, hy1195_0_2⟩
     refine JL.done hQ (JQ.go (JC.block (JC.newNil (e := 3) (sz := 1) ?_)))
     obtain ⟨r1280, hl1281, hF⟩ := bind_some hF
     refine JC.rangeFunc (ρ := Unit) (V := (VPlain fun (x : Int) => .int .i64 x)) (F := fun _ _ step s => I_cloth_numbers_1 n y1195 step s) rfl en_163 (it_cloth_numbers_1 n H1196 y1195 y1195_0_v2 hy1195_0_2 y1195_b0 hy1195_b0) rfl hl1281 (fun (out_1278 : List Int) H1279 fr gs => ∃ (vout_1278 : Value) (xsout_1278 : List Value), fr = ((b1194, .cells [vout_1278].toArray 23) :: (b1193, .cells [.int .i64 y1188.Stretch.Low, .int .i64 y1188.Stretch.High, y1188_v2, .int .i64 y1188.Wrong].toArray 179) :: (b17, .cells [(.slice a5 d.Bolts.length c6), (.slice a8 d.Gores.length c9), .int .i64 d.Loss, (.slice a11 d.Rounds.length c12), (.slice a14 d.Widths.length c15), .int .i64 d.Slope, vout_1182].toArray 117) :: List.map bx Ds1186) ∧ gs = [⟨vout_1278, 3, 1, out_1278.length, xsout_1278⟩, ⟨vout_1182, 23, 1, out_1182.length, xsout_1182⟩] ∧ CH H1279 1 RInt xsout_1278 out_1278 ∧ HSub H1196 H1279) (fun _ _ _ _ _ => False) ⟨(.slice none 0 0), [], rfl, rfl, CH.nil, (HSub.refl _)⟩ ?_ ?_ ?_
     ·rintro l1199 out_1278 x1198 y1282 v1200 own T1201 H1279 fr gs ⟨vout_1278, xsout_1278, rfl, rfl, hout_1278, hs1279⟩ hF ⟨rfl, rfl⟩ -
      rw [F_cloth_pitch_s2] at hF
      refine JC.region (by rfl) ?_
      intro hQ
      refine JL.assign .none rfl ?_
      refine JL.done hQ (JQ.assigned ((b1194, .cells [vout_1278].toArray 23) :: (b1193, .cells [.int .i64 y1188.Stretch.Low, .int .i64 y1188.Stretch.High, y1188_v2, .int .i64 y1188.Wrong].toArray 179) :: (b17, .cells [(.slice a5 d.Bolts.length c6), (.slice a8 d.Gores.length c9), .int .i64 d.Loss, (.slice a11 d.Rounds.length c12), (.slice a14 d.Widths.length c15), .int .i64 d.Slope, vout_1182].toArray 117) :: List.map bx Ds1186) (fun T1202 => ?_))
      refine JC.block (JC.seq (JC.draw (by rfl) mo_ (by kernel_rfl) ?_))
      intro hQ
      refine JL.loadOwn 1 az_179 rfl rfl rfl .none rfl ?_
      refine JL.move .none rfl ?_
      obtain ⟨y1284, hy1284, hF⟩ := bind_some hF
      refine JL.callS (c_cloth_wrong n H1279 y1188 y1188_v2 (SL.mono R_Strip_mono (HSub.trans hs1196 hs1279) hy1188_2) x1198 y1284 hy1284) rfl en_108 .none rfl ?_
      refine JL.fieldAddr fo_179_2 rfl .none rfl ?_
      refine JL.loadOwn 1 az_3 rfl rfl rfl .none rfl ?_
      refine JL.bin rfl rfl rfl .none rfl ?_
      refine JL.doneQ hQ ?_
      refine JQ.go (JC.fresh (fun f => f 10 = .pointer (some ⟨b1194, 0, none⟩) ∧ f 11 = .int .i64 x1198 ∧ f 37 = .bool (decide (y1284 ≤ y1188.Wrong))) ⟨rfl, rfl, rfl⟩ ?_)
      rintro f ⟨hf10, hf11, hf37⟩
      refine (JC.norm (i := 10) hf10 (JC.norm (i := 11) hf11 (JC.norm (i := 37) hf37 ?_)))
      obtain ⟨r1294, hlr1294, hKr1294⟩ := bind_some hF
      refine JC.join (fun (out_1292 : List Int) H1293 f bs gs => ∃ (vout_1292 : Value) (xsout_1292 : List Value), bs = ((b1194, .cells [vout_1292].toArray 23) :: (b1193, .cells [.int .i64 y1188.Stretch.Low, .int .i64 y1188.Stretch.High, y1188_v2, .int .i64 y1188.Wrong].toArray 179) :: (b17, .cells [(.slice a5 d.Bolts.length c6), (.slice a8 d.Gores.length c9), .int .i64 d.Loss, (.slice a11 d.Rounds.length c12), (.slice a14 d.Widths.length c15), .int .i64 d.Slope, vout_1182].toArray 117) :: (List.map bx Ds1186 ++ T1202)) ∧ gs = [⟨vout_1292, 3, 1, out_1292.length, xsout_1292⟩, ⟨vout_1182, 23, 1, out_1182.length, xsout_1182⟩] ∧ CH H1293 1 RInt xsout_1292 out_1292 ∧ HSub H1279 H1293 ∧ out_1292 = r1294) ?_ ?_
      ·have hF := hlr1294
       rcases ite_some hF with ⟨hc1295, hF⟩ | ⟨hc1295, hF⟩
       ·refine JC.cond_t (b := decide (y1284 ≤ y1188.Wrong)) rfl hc1295 ?_
        refine JC.region (by rfl) ?_
        intro hQ
        refine JL.loadOwn 0 az_23 rfl rfl rfl .none rfl ?_
        refine JL.move .none rfl ?_
        refine JL.buildSlice (e := 3) (l := [.int .i64 x1198]) (by kernel_rfl) .none rfl ?_
        intro b1296
        obtain ⟨l1297, hl1297, hF⟩ := bind_some hF
        refine JL.appO (R := RInt) 0 0 (l := out_1278) (m := [x1198]) ap_23 rfl ⟨rfl, rfl⟩ rfl hout_1278 rfl rfl rfl (CH.cons (cs := [.int .i64 x1198]) rfl rfl CH.nil) rfl (one_cons rfl one_nil) hl1297 .none rfl ?_
        intro v1298 xs1299 hch1300
        refine JL.oneG 0 rfl (fun ho1301 => ?_)
        refine JL.storeOwn 1 (cs := [v1298]) az_23 rfl ho1301.2 rfl (one_cons ho1301.1 one_nil) rfl rfl .none ?_
        refine JL.done hQ ?_
        obtain rfl := Option.some.inj hF
        refine JQ.mask [false, true, true, true] [true, true] ?_
        exact JQ.join l1297 ⟨v1298, xs1299, rfl, rfl, hch1300, (HSub.refl _), rfl⟩
       ·refine JC.cond_f (b := decide (y1284 ≤ y1188.Wrong)) rfl hc1295 ?_
        refine JC.skip ?_
        obtain rfl := Option.some.inj hF
        exact JQ.join out_1278 ⟨vout_1278, xsout_1278, rfl, rfl, hout_1278, (HSub.refl _), rfl⟩
      ·rintro out_1292 H1293 f bs gs ⟨vout_1292, xsout_1292, rfl, rfl, hout_1292, hs1293, rfl⟩
       have hF := hKr1294
       try dsimp only at hF
       refine JQ.normal_block ?_
       obtain rfl := Option.some.inj hF
       refine JQ.round rfl ((b1194, .cells [vout_1292].toArray 23) :: (b1193, .cells [.int .i64 y1188.Stretch.Low, .int .i64 y1188.Stretch.High, y1188_v2, .int .i64 y1188.Wrong].toArray 179) :: (b17, .cells [(.slice a5 d.Bolts.length c6), (.slice a8 d.Gores.length c9), .int .i64 d.Loss, (.slice a11 d.Rounds.length c12), (.slice a14 d.Widths.length c15), .int .i64 d.Slope, vout_1182].toArray 117) :: List.map bx Ds1186) hs1293 ?_
       exact ⟨vout_1292, xsout_1292, rfl, rfl, hout_1292, (HSub.trans hs1279 hs1293)⟩
     ·rintro D1302 out_1278 H1279 fr gs rfl ⟨vout_1278, xsout_1278, rfl, rfl, hout_1278, hs1279⟩ -
      try dsimp only at hF
      refine JQ.permB (bs' := ((b1194, .cells ([vout_1278] : List Value).toArray 23) :: (b1193, .cells ([.int .i64 y1188.Stretch.Low, .int .i64 y1188.Stretch.High, y1188_v2, .int .i64 y1188.Wrong] : List Value).toArray 179) :: (b17, .cells ([(.slice a5 d.Bolts.length c6), (.slice a8 d.Gores.length c9), .int .i64 d.Loss, (.slice a11 d.Rounds.length c12), (.slice a14 d.Widths.length c15), .int .i64 d.Slope, vout_1182] : List Value).toArray 117) :: List.map bx (D1302 :: Ds1186))) (permEnd [(b1194, .cells ([vout_1278] : List Value).toArray 23), (b1193, .cells ([.int .i64 y1188.Stretch.Low, .int .i64 y1188.Stretch.High, y1188_v2, .int .i64 y1188.Wrong] : List Value).toArray 179), (b17, .cells ([(.slice a5 d.Bolts.length c6), (.slice a8 d.Gores.length c9), .int .i64 d.Loss, (.slice a11 d.Rounds.length c12), (.slice a14 d.Widths.length c15), .int .i64 d.Slope, vout_1182] : List Value).toArray 117)] Ds1186 D1302) ?_
      refine JQ.normal_block (JQ.go (JC.seq (JC.seq (JC.region (by rfl) ?_))))
      intro hQ
      refine JL.loadOwn 0 az_23 rfl rfl rfl .none rfl ?_
      refine JL.lenG 0 ul_23 rfl rfl .none rfl ?_
      refine JL.bin rfl rfl rfl .none rfl ?_
      refine JL.done hQ (JQ.go (JC.fresh (fun f => f 7 = .pointer (some ⟨b17, 0, none⟩) ∧ f 10 = .pointer (some ⟨b1194, 0, none⟩) ∧ f 23 = (.slice a5 d.Bolts.length c6) ∧ f 24 = .int .i64 (d.Bolts.length : Int) ∧ f 25 = .int .i64 x_1181 ∧ f 44 = .bool ((out_1278.length : Int) == 0)) ⟨rfl, rfl, rfl, rfl, rfl, rfl⟩ ?_))
      rintro f ⟨hf7, hf10, hf23, hf24, hf25, hf44⟩
      refine (JC.norm (i := 7) hf7 (JC.norm (i := 10) hf10 (JC.norm (i := 23) hf23 (JC.norm (i := 24) hf24 (JC.norm (i := 25) hf25 (JC.norm (i := 44) hf44 ?_))))))
      rcases ite_some hF with ⟨hc1303, hF⟩ | ⟨hc1303, hF⟩
      ·refine JC.cond_t (b := ((out_1278.length : Int) == 0)) rfl hc1303 ?_
       refine JC.seq (JC.region (by rfl) ?_)
       intro hQ
       refine JL.assign .none rfl ?_
       refine JL.assign .none rfl ?_
       refine JL.done hQ (JQ.go (JC.ret (JQ.ret_then (JQ.ret_block (JQ.ret_then (JQ.ret_then (JQ.ret_block (JQ.ret_joinD ?_))))))))
       refine JQ.ret_then ?_
       obtain rfl := Option.some.inj hF
       have ehr1184 := hr1184 _ rfl
       subst ehr1184
       have hF := hKr796
       try dsimp only at hF
       obtain rfl := Option.some.inj hF
       exact JQ.outHM rfl (DM.tail [(b1194, .cells ([vout_1278] : List Value).toArray 23), (b1193, .cells ([.int .i64 y1188.Stretch.Low, .int .i64 y1188.Stretch.High, y1188_v2, .int .i64 y1188.Wrong] : List Value).toArray 179), (b17, .cells ([(.slice a5 d.Bolts.length c6), (.slice a8 d.Gores.length c9), .int .i64 d.Loss, (.slice a11 d.Rounds.length c12), (.slice a14 d.Widths.length c15), .int .i64 d.Slope, vout_1182] : List Value).toArray 117)] (D1302 :: Ds1186)) (.tmp (.tmp .nil)) ⟨(.pointer none), rfl, rfl⟩
      ·refine JC.cond_f (b := ((out_1278.length : Int) == 0)) rfl hc1303 ?_
       refine JC.skip (JQ.go ?_)
       obtain ⟨l1309, hl1309, hF⟩ := bind_some hF
       refine JC.mixed 10 11 #[false, false, false, false, false, false, false, false, false, false, false] [(b1193, .cells [.int .i64 y1188.Stretch.Low, .int .i64 y1188.Stretch.High, y1188_v2, .int .i64 y1188.Wrong].toArray 179), (b17, .cells [(.slice a5 d.Bolts.length c6), (.slice a8 d.Gores.length c9), .int .i64 d.Loss, (.slice a11 d.Rounds.length c12), (.slice a14 d.Widths.length c15), .int .i64 d.Slope, vout_1182].toArray 117)] (by rfl) mo_ (by kernel_rfl) (by kernel_rfl) ?_
       intro hQ hE
       refine JA.take 0 (listed' := #[true, false, false, false, false, false, false, false, false, false, false]) hQ rfl (by kernel_rfl) (by kernel_rfl) (by kernel_rfl) (by kernel_rfl) (by kernel_rfl) hE (HSub.refl _) (.cons _ (.cons_cons _ (.cons_cons _ (List.nil_sublist _)))) ?_
       refine JL.move .none rfl ?_
       refine JA.cont ?_
       refine JA.take 1 (listed' := #[true, true, false, false, false, false, false, false, false, false, false]) hQ rfl (by kernel_rfl) (by kernel_rfl) (by kernel_rfl) (by kernel_rfl) (by kernel_rfl) hE (HSub.refl _) (.cons _ (.cons_cons _ (.cons_cons _ (List.nil_sublist _)))) ?_
       refine JL.move .none rfl ?_
       refine JA.cont ?_
       refine JA.take 2 (listed' := #[true, true, true, false, false, false, false, false, false, false, false]) hQ rfl (by kernel_rfl) (by kernel_rfl) (by kernel_rfl) (by kernel_rfl) (by kernel_rfl) hE (HSub.refl _) (.cons _ (.cons_cons _ (.cons_cons _ (List.nil_sublist _)))) ?_
       refine JL.nilCheck rfl .none rfl ?_
       refine JA.cont ?_
       refine JA.take 3 (listed' := #[true, true, true, true, false, false, false, false, false, false, false]) hQ rfl (by kernel_rfl) (by kernel_rfl) (by kernel_rfl) (by kernel_rfl) (by kernel_rfl) hE (HSub.refl _) (.cons _ (.cons_cons _ (.cons_cons _ (List.nil_sublist _)))) ?_
       refine JL.fieldAddr fo_117_1 rfl .none rfl ?_
       refine JA.cont ?_
       refine JA.take 4 (listed' := #[true, true, true, true, true, false, false, false, false, false, false]) hQ rfl (by kernel_rfl) (by kernel_rfl) (by kernel_rfl) (by kernel_rfl) (by kernel_rfl) hE (HSub.refl _) (.cons _ (.cons_cons _ (.cons_cons _ (List.nil_sublist _)))) ?_
       refine JL.loadOwn 1 az_115 rfl rfl rfl .none rfl ?_
       refine JA.cont ?_
       refine JA.many [5] (by kernel_rfl) (by simp) (all_one ⟨_, #[true, true, true, true, true, true, false, false, false, false, false], rfl, (by kernel_rfl), ?_⟩)
       refine JL.loadOwn 0 az_23 rfl rfl rfl .none rfl ?_
       refine JA.after hE (HSub.refl _) (.cons _ (.cons_cons _ (.cons_cons _ (List.nil_sublist _)))) ?_
       refine JA.many [6] (by kernel_rfl) (by simp) (all_one ⟨_, #[true, true, true, true, true, true, true, false, false, false, false], rfl, (by kernel_rfl), ?_⟩)
       refine JL.formG 0 rfl (fun a1365 n1366 c1367 hh1368 => ?_)
       dsimp only at hh1368
       subst hh1368
       refine JL.buildSlice (e := 23) (l := [(.slice a1365 n1366 c1367)]) (by kernel_rfl) .none rfl ?_
       intro b1369
       refine JA.after hE (HSub.refl _) (.cons _ (.cons _ (.cons_cons _ (.cons_cons _ (List.nil_sublist _))))) ?_
       refine JA.many [7] (by kernel_rfl) (by simp) (all_one ⟨_, #[true, true, true, true, true, true, true, true, false, false, false], rfl, (by kernel_rfl), ?_⟩)
       refine JL.freezeG 0 (R := RInt) rfl RInt.mono hout_1278 rfl ?_
       intro H1370 hs1370 hg1371
       refine JL.appO (R := (RSl 1 RInt)) 0 0 (l := out_1182) (m := [out_1278]) ap_115 rfl ⟨rfl, rfl⟩ rfl (CH.mono (RSl.mono RInt.mono) (HSub.trans hs1196 (HSub.trans hs1279 hs1370)) hout_1182) rfl rfl rfl (CH.cons (cs := [(.slice a1365 n1366 c1367)]) rfl ⟨_, rfl, hg1371⟩ CH.nil) rfl (one_cons (SL.one hg1371) one_nil) hl1309 .none rfl ?_
       intro v1372 xs1373 hch1374
       refine JA.after hE hs1370 (.cons _ (.cons _ (.cons_cons _ (.cons_cons _ (List.nil_sublist _))))) ?_
       refine JA.many [8] (by kernel_rfl) (by simp) (all_one ⟨_, #[true, true, true, true, true, true, true, true, true, false, false], rfl, (by kernel_rfl), ?_⟩)
       refine JL.nilCheck rfl .none rfl ?_
       refine JA.after hE hs1370 (.cons _ (.cons _ (.cons_cons _ (.cons_cons _ (List.nil_sublist _))))) ?_
       refine JA.take 9 (listed' := #[true, true, true, true, true, true, true, true, true, true, false]) hQ rfl (by kernel_rfl) (by kernel_rfl) (by kernel_rfl) (by kernel_rfl) (by kernel_rfl) hE hs1370 (.cons _ (.cons _ (.cons_cons _ (.cons_cons _ (List.nil_sublist _))))) ?_
       refine JL.fieldAddr fo_117_1 rfl .none rfl ?_
       refine JA.cont ?_
       refine JA.many [10] (by kernel_rfl) (by simp) (all_one ⟨_, #[true, true, true, true, true, true, true, true, true, true, true], rfl, (by kernel_rfl), ?_⟩)
       refine JL.oneG 0 rfl (fun ho1375 => ?_)
       refine JL.storeOwn 3 (cs := [v1372]) az_115 rfl ho1375.2 rfl (one_cons ho1375.1 one_nil) rfl rfl .none ?_
       refine JA.sink (by kernel_rfl) ?_
       refine JA.done hQ (by kernel_rfl) ?_
       refine JQ.normal_block (JQ.go (JC.fresh (fun f => f 7 = .pointer (some ⟨b17, 0, none⟩) ∧ f 23 = (.slice a5 d.Bolts.length c6) ∧ f 24 = .int .i64 (d.Bolts.length : Int) ∧ f 25 = .int .i64 x_1181) ⟨rfl, rfl, rfl, rfl⟩ ?_))
       rintro f ⟨hf7, hf23, hf24, hf25⟩
       refine (JC.norm (i := 7) hf7 (JC.norm (i := 23) hf23 (JC.norm (i := 24) hf24 (JC.norm (i := 25) hf25 ?_))))
       refine JC.region (by rfl) ?_
       intro hQ
       refine JL.bin rfl rfl rfl .none rfl ?_
       refine JL.move .none rfl ?_
       refine JL.done hQ ?_
       obtain rfl := Option.some.inj hF
       refine JQ.mask [false, false, false, true] [true] ?_
       exact JQ.nextD (D1302 :: Ds1186) (bs' := [(b17, .cells ([(.slice a5 d.Bolts.length c6), (.slice a8 d.Gores.length c9), .int .i64 d.Loss, (.slice a11 d.Rounds.length c12), (.slice a14 d.Widths.length c15), .int .i64 d.Slope, v1372] : List Value).toArray 117)]) rfl ⟨v1372, xs1373, rfl, rfl, rfl, rfl, rfl, rfl, hch1374, (HSub.trans hs1183 (HSub.trans hs1196 (HSub.trans hs1279 hs1370)))⟩
     ·rintro _ _ _ _ _ _ _ h; exact h.elim
    ·refine JC.cond_f (b := decide (x_1181 < (d.Bolts.length : Int))) rfl hc1187 ?_
     refine JC.exit (JQ.exit_then (JQ.exit_then (JQ.exit_block ?_)))
     obtain rfl := Option.some.inj hF
     have ehr1184 := hr1184 _ rfl
     subst ehr1184
     exact JQ.joinD out_1182 Ds1186 (bs' := [(b17, .cells ([(.slice a5 d.Bolts.length c6), (.slice a8 d.Gores.length c9), .int .i64 d.Loss, (.slice a11 d.Rounds.length c12), (.slice a14 d.Widths.length c15), .int .i64 d.Slope, vout_1182] : List Value).toArray 117)]) ⟨vout_1182, xsout_1182, rfl, rfl, rfl, hout_1182, hs1183, rfl⟩
   ·rintro out_794 H795 f bs gs Ds1376 bs2 ⟨vout_794, xsout_794, hf7, rfl, rfl, hout_794, hs795, rfl⟩ hbs
    simp only [List.cons_append, List.nil_append] at hbs
    subst hbs
    have hF := hKr796
    try dsimp only at hF
    refine (JQ.norm (i := 7) hf7 ?_)
    refine JQ.go (JC.seq (JC.region (by rfl) ?_))
    intro hQ
    refine JL.move .none rfl ?_
    refine JL.assign .none rfl ?_
    refine JL.assign .none rfl ?_
    refine JL.done hQ (JQ.go (JC.ret (JQ.freezeG 0 (R := (RSl 1 RInt)) rfl (RSl.mono RInt.mono) hout_794 rfl ?_)))
    intro H1377 hs1377 hg1378
    refine JQ.freezeC 0 (l := [(.slice a5 d.Bolts.length c6), (.slice a8 d.Gores.length c9), .int .i64 d.Loss, (.slice a11 d.Rounds.length c12), (.slice a14 d.Widths.length c15), .int .i64 d.Slope, vout_794]) rfl ?_
    intro H1379 hs1379 hc1380
    obtain rfl := Option.some.inj hF
    exact JQ.outHM rfl (DM.tail [] Ds1376) (.tmp (.tmp .nil)) ⟨(.pointer (some ⟨b17, 0, none⟩)), rfl, ⟨_, _, _, rfl, hc1380, ⟨(.slice a5 d.Bolts.length c6), (.slice a8 d.Gores.length c9), (.slice a11 d.Rounds.length c12), (.slice a14 d.Widths.length c15), vout_794, rfl, (SL.mono R_Bolt_mono (HSub.trans hs795 (HSub.trans hs1377 hs1379)) hd_0), (SL.mono RInt.mono (HSub.trans hs795 (HSub.trans hs1377 hs1379)) hd_1), (SL.mono R_Span_mono (HSub.trans hs795 (HSub.trans hs1377 hs1379)) hd_3), (SL.mono RInt.mono (HSub.trans hs795 (HSub.trans hs1377 hs1379)) hd_4), (SL.mono (RSl.mono RInt.mono) hs1379 hg1378)⟩⟩⟩
-- 60 (*ferrule/cloth.tent).round
def F_cloth_tent_round_s1 (n : Nat) (t : cloth_tent) (width : Int) : Int × Int × Int → Option ((Int × Int × Int) ⊕ (Int × Int))
 | (x_523, z_524, z_525) => if decide (x_523 < (t.Dome.Gores.length : Int)) = true then ((geti t.Dome.Gores x_523).bind fun y530 => (geti t.can y530).bind fun y535 => (geti y535 0).bind fun y546 => (F_cloth_pull n (w64 (width - (w64 (2 * t.Dome.Loss)))) y546).bind fun y551 => (geti y535 (w64 ((y535.length : Int) - 1))).bind fun y590 => (F_cloth_pull n (w64 (width - (w64 (2 * t.Dome.Loss)))) y590).bind fun y595 => some (Sum.inl ((w64 (x_523 + 1)), (w64 (z_524 + y551)), (w64 (z_525 + y595))))) else (some (Sum.inr (z_524, z_525)))
def F_cloth_tent_round (n : Nat) (t : cloth_tent) (width : Int) : Option Span :=
 (loopO n (F_cloth_tent_round_s1 n t width) (0, 0, 0)).bind fun r316 => match r316 with | (z_313, z_314) => some (Span.mk z_313 z_314)
theorem c_cloth_tent_round (n : Nat) (H : Hp) (t : cloth_tent) (t_v0 : Value) (ht_0 : SL H 4 R_Bolt t_v0 t.Dome.Bolts) (t_v1 : Value) (ht_1 : SL H 1 RInt t_v1 t.Dome.Gores) (t_v3 : Value) (ht_3 : SL H 2 R_Span t_v3 t.Dome.Rounds) (t_v4 : Value) (ht_4 : SL H 1 RInt t_v4 t.Dome.Widths) (t_v6 : Value) (ht_6 : SL H 1 (RSl 1 RInt) t_v6 t.can) (t_b t_o : Nat) (t_c : Cells H t_b t_o [t_v0, t_v1, .int .i64 t.Dome.Loss, t_v3, t_v4, .int .i64 t.Dome.Slope, t_v6]) (width : Int) (y : Span) (hF : F_cloth_tent_round n t width = some y) : SC Try.prog 60 [.pointer (some ⟨t_b, t_o, none⟩), .int .i64 width] (.agg [.int .i64 y.Low, .int .i64 y.High].toArray) H := by
 rw [F_cloth_tent_round] at hF
 refine SC.of (N := 62) Try.func60 rfl rfl rfl fun w => ?_
 refine JC.seq (JC.region (by rfl) ?_)
 intro hQ
 refine JL.alloc ze_39 .none rfl ?_
 intro b1
 refine JL.done hQ (JQ.go (JC.seq (JC.seq (JC.region (by rfl) ?_))))
 intro hQ
 refine JL.move .none rfl ?_
 refine JL.nilCheck rfl .none rfl ?_
 refine JL.fieldAddr fo_117_0 rfl .none rfl ?_
 refine JL.fieldAddr fo_26_1 rfl .none rfl ?_
 refine JL.loadH 1 az_23 rfl t_c rfl .none rfl ?_
 refine JL.lenSL (R := RInt) ul_23 ht_1 .none rfl ?_
 refine JL.move .none rfl ?_
 refine JL.done hQ (JQ.go ?_)
 obtain ⟨r316, hlr316, hKr316⟩ := bind_some hF
 refine JC.join (fun (x : Int × Int) H315 f bs gs => match x with | (z_313, z_314) => f 4 = .pointer (some ⟨b1, 0, none⟩) ∧ bs = [(b1, .cells [.int .i64 z_313, .int .i64 z_314].toArray 39)] ∧ gs = [] ∧ HSub H H315 ∧ (z_313, z_314) = r316) ?_ ?_
 ·skip
  refine JC.block (JC.loop hlr316 (fun (x : Int × Int × Int) H526 f bs gs => match x with | (x_523, z_524, z_525) => f 0 = .pointer (some ⟨t_b, t_o, none⟩) ∧ f 1 = .int .i64 width ∧ f 4 = .pointer (some ⟨b1, 0, none⟩) ∧ f 12 = t_v1 ∧ f 13 = .int .i64 (t.Dome.Gores.length : Int) ∧ f 14 = .int .i64 x_523 ∧ bs = [(b1, .cells [.int .i64 z_524, .int .i64 z_525].toArray 39)] ∧ gs = [] ∧ HSub H H526) ⟨rfl, rfl, rfl, rfl, rfl, rfl, rfl, rfl, (HSub.refl _)⟩ ?_)
  rintro ⟨x_523, z_524, z_525⟩ x528 H526 f bs gs ⟨hf0, hf1, hf4, hf12, hf13, hf14, rfl, rfl, hs526⟩ hF hr527
  rw [F_cloth_tent_round_s1] at hF
  refine (JC.norm (i := 0) hf0 (JC.norm (i := 1) hf1 (JC.norm (i := 4) hf4 (JC.norm (i := 12) hf12 (JC.norm (i := 13) hf13 (JC.norm (i := 14) hf14 ?_))))))
  refine JC.seq (JC.region (by rfl) ?_)
  intro hQ
  refine JL.bin rfl rfl rfl .none rfl ?_
  refine JL.done hQ (JQ.go (JC.seq ?_))
  rcases ite_some hF with ⟨hc529, hF⟩ | ⟨hc529, hF⟩
  ·refine JC.cond_t (b := decide (x_523 < (t.Dome.Gores.length : Int))) rfl hc529 ?_
   refine JC.skip (JQ.go (JC.seq (JC.block (JC.seq (JC.region (by rfl) ?_)))))
   intro hQ
   obtain ⟨y530, hy530, hF⟩ := bind_some hF
   refine JL.indexSL (R := RInt) sl_23 (SL.mono RInt.mono hs526 ht_1) rfl hy530 .none rfl ?_
   rintro b531 o532 cs533 hc534 - rfl
   refine JL.loadH 0 az_3 rfl hc534 rfl .none rfl ?_
   refine JL.assign .none rfl ?_
   refine JL.done hQ (JQ.go (JC.seq (JC.region (by rfl) ?_)))
   intro hQ
   refine JL.move .none rfl ?_
   refine JL.nilCheck rfl .none rfl ?_
   refine JL.fieldAddr fo_117_1 rfl .none rfl ?_
   refine JL.loadH 6 az_115 rfl (Cells.mono hs526 t_c) rfl .none rfl ?_
   refine JL.move .none rfl ?_
   obtain ⟨y535, hy535, hF⟩ := bind_some hF
   refine JL.indexSL (R := (RSl 1 RInt)) sl_115 (SL.mono (RSl.mono RInt.mono) hs526 ht_6) rfl hy535 .none rfl ?_
   rintro b536 o537 cs538 hc539 - ⟨y535_v0, rfl, hy535_0⟩
   refine JL.loadH 0 az_23 rfl hc539 rfl .none rfl ?_
   refine JL.assign .none rfl ?_
   refine JL.done hQ (JQ.go (JC.fresh (fun f => f 0 = .pointer (some ⟨t_b, t_o, none⟩) ∧ f 1 = .int .i64 width ∧ f 4 = .pointer (some ⟨b1, 0, none⟩) ∧ f 7 = y535_v0 ∧ f 12 = t_v1 ∧ f 13 = .int .i64 (t.Dome.Gores.length : Int) ∧ f 14 = .int .i64 x_523) ⟨rfl, rfl, rfl, rfl, rfl, rfl, rfl⟩ ?_))
   rintro f ⟨hf0, hf1, hf4, hf7, hf12, hf13, hf14⟩
   refine (JC.norm (i := 0) hf0 (JC.norm (i := 1) hf1 (JC.norm (i := 4) hf4 (JC.norm (i := 7) hf7 (JC.norm (i := 12) hf12 (JC.norm (i := 13) hf13 (JC.norm (i := 14) hf14 ?_)))))))
   refine JC.seq ?_
   obtain ⟨y546, hy546, hF⟩ := bind_some hF
   obtain ⟨y551, hy551, hF⟩ := bind_some hF
   refine JC.mixed 16 17 #[false, false, false, false, false, false, false, false, false, false, false, false, false, false, false, false, false] [(b1, .cells [.int .i64 z_524, .int .i64 z_525].toArray 39)] (by rfl) mo_ (by kernel_rfl) (by kernel_rfl) ?_
   intro hQ hE
   refine JA.take 0 (listed' := #[true, false, false, false, false, false, false, false, false, false, false, false, false, false, false, false, false]) hQ rfl (by kernel_rfl) (by kernel_rfl) (by kernel_rfl) (by kernel_rfl) (by kernel_rfl) hE (HSub.refl _) (.cons_cons _ (List.nil_sublist _)) ?_
   refine JL.fieldAddr fo_39_0 rfl .none rfl ?_
   refine JA.cont ?_
   refine JA.take 1 (listed' := #[true, true, false, false, false, false, false, false, false, false, false, false, false, false, false, false, false]) hQ rfl (by kernel_rfl) (by kernel_rfl) (by kernel_rfl) (by kernel_rfl) (by kernel_rfl) hE (HSub.refl _) (.cons_cons _ (List.nil_sublist _)) ?_
   refine JL.loadOwn 0 az_3 rfl rfl rfl .none rfl ?_
   refine JA.cont ?_
   refine JA.take 2 (listed' := #[true, true, true, false, false, false, false, false, false, false, false, false, false, false, false, false, false]) hQ rfl (by kernel_rfl) (by kernel_rfl) (by kernel_rfl) (by kernel_rfl) (by kernel_rfl) hE (HSub.refl _) (.cons_cons _ (List.nil_sublist _)) ?_
   refine JL.move .none rfl ?_
   refine JA.cont ?_
   refine JA.take 3 (listed' := #[true, true, true, true, false, false, false, false, false, false, false, false, false, false, false, false, false]) hQ rfl (by kernel_rfl) (by kernel_rfl) (by kernel_rfl) (by kernel_rfl) (by kernel_rfl) hE (HSub.refl _) (.cons_cons _ (List.nil_sublist _)) ?_
   refine JL.move .none rfl ?_
   refine JA.cont ?_
   refine JA.take 4 (listed' := #[true, true, true, true, true, false, false, false, false, false, false, false, false, false, false, false, false]) hQ rfl (by kernel_rfl) (by kernel_rfl) (by kernel_rfl) (by kernel_rfl) (by kernel_rfl) hE (HSub.refl _) (.cons_cons _ (List.nil_sublist _)) ?_
   refine JL.nilCheck rfl .none rfl ?_
   refine JA.cont ?_
   refine JA.take 5 (listed' := #[true, true, true, true, true, true, false, false, false, false, false, false, false, false, false, false, false]) hQ rfl (by kernel_rfl) (by kernel_rfl) (by kernel_rfl) (by kernel_rfl) (by kernel_rfl) hE (HSub.refl _) (.cons_cons _ (List.nil_sublist _)) ?_
   refine JL.fieldAddr fo_117_0 rfl .none rfl ?_
   refine JA.cont ?_
   refine JA.take 6 (listed' := #[true, true, true, true, true, true, true, false, false, false, false, false, false, false, false, false, false]) hQ rfl (by kernel_rfl) (by kernel_rfl) (by kernel_rfl) (by kernel_rfl) (by kernel_rfl) hE (HSub.refl _) (.cons_cons _ (List.nil_sublist _)) ?_
   refine JL.fieldAddr fo_26_2 rfl .none rfl ?_
   refine JA.cont ?_
   refine JA.take 7 (listed' := #[true, true, true, true, true, true, true, true, false, false, false, false, false, false, false, false, false]) hQ rfl (by kernel_rfl) (by kernel_rfl) (by kernel_rfl) (by kernel_rfl) (by kernel_rfl) hE (HSub.refl _) (.cons_cons _ (List.nil_sublist _)) ?_
   refine JL.loadH 2 az_3 rfl (Cells.mono hs526 t_c) rfl .none rfl ?_
   refine JA.cont ?_
   refine JA.take 8 (listed' := #[true, true, true, true, true, true, true, true, true, false, false, false, false, false, false, false, false]) hQ rfl (by kernel_rfl) (by kernel_rfl) (by kernel_rfl) (by kernel_rfl) (by kernel_rfl) hE (HSub.refl _) (.cons_cons _ (List.nil_sublist _)) ?_
   refine JL.bin rfl rfl rfl .none rfl ?_
   refine JA.cont ?_
   refine JA.take 9 (listed' := #[true, true, true, true, true, true, true, true, true, true, false, false, false, false, false, false, false]) hQ rfl (by kernel_rfl) (by kernel_rfl) (by kernel_rfl) (by kernel_rfl) (by kernel_rfl) hE (HSub.refl _) (.cons_cons _ (List.nil_sublist _)) ?_
   refine JL.bin rfl rfl rfl .none rfl ?_
   refine JA.cont ?_
   refine JA.take 10 (listed' := #[true, true, true, true, true, true, true, true, true, true, true, false, false, false, false, false, false]) hQ rfl (by kernel_rfl) (by kernel_rfl) (by kernel_rfl) (by kernel_rfl) (by kernel_rfl) hE (HSub.refl _) (.cons_cons _ (List.nil_sublist _)) ?_
   refine JL.move .none rfl ?_
   refine JA.cont ?_
   refine JA.take 11 (listed' := #[true, true, true, true, true, true, true, true, true, true, true, true, false, false, false, false, false]) hQ rfl (by kernel_rfl) (by kernel_rfl) (by kernel_rfl) (by kernel_rfl) (by kernel_rfl) hE (HSub.refl _) (.cons_cons _ (List.nil_sublist _)) ?_
   refine JL.indexSL (R := RInt) sl_23 hy535_0 rfl hy546 .none rfl ?_
   rintro b580 o581 cs582 hc583 - rfl
   refine JA.cont ?_
   refine JA.take 12 (listed' := #[true, true, true, true, true, true, true, true, true, true, true, true, true, false, false, false, false]) hQ rfl (by kernel_rfl) (by kernel_rfl) (by kernel_rfl) (by kernel_rfl) (by kernel_rfl) hE (HSub.refl _) (.cons_cons _ (List.nil_sublist _)) ?_
   refine JL.loadH 0 az_3 rfl hc583 rfl .none rfl ?_
   refine JA.cont ?_
   refine JA.many [13] (by kernel_rfl) (by simp) (all_one ⟨_, #[true, true, true, true, true, true, true, true, true, true, true, true, true, true, false, false, false], rfl, (by kernel_rfl), ?_⟩)
   refine JL.callS (c_cloth_pull n H526 (w64 (width - (w64 (2 * t.Dome.Loss)))) y546 y551 hy551) rfl en_114 .none rfl ?_
   refine JA.after hE (HSub.refl _) (.cons_cons _ (List.nil_sublist _)) ?_
   refine JA.take 14 (listed' := #[true, true, true, true, true, true, true, true, true, true, true, true, true, true, true, false, false]) hQ rfl (by kernel_rfl) (by kernel_rfl) (by kernel_rfl) (by kernel_rfl) (by kernel_rfl) hE (HSub.refl _) (.cons_cons _ (List.nil_sublist _)) ?_
   refine JL.bin rfl rfl rfl .none rfl ?_
   refine JA.cont ?_
   refine JA.take 15 (listed' := #[true, true, true, true, true, true, true, true, true, true, true, true, true, true, true, true, false]) hQ rfl (by kernel_rfl) (by kernel_rfl) (by kernel_rfl) (by kernel_rfl) (by kernel_rfl) hE (HSub.refl _) (.cons_cons _ (List.nil_sublist _)) ?_
   refine JL.fieldAddr fo_39_0 rfl .none rfl ?_
   refine JA.cont ?_
   refine JA.many [16] (by kernel_rfl) (by simp) (all_one ⟨_, #[true, true, true, true, true, true, true, true, true, true, true, true, true, true, true, true, true], rfl, (by kernel_rfl), ?_⟩)
   refine JL.storeOwn 0 (cs := [.int .i64 (w64 (z_524 + y551))]) az_3 rfl rfl rfl (one_cons rfl one_nil) rfl rfl .none ?_
   refine JA.sink (by kernel_rfl) ?_
   refine JA.done hQ (by kernel_rfl) ?_
   refine JQ.go (JC.fresh (fun f => f 0 = .pointer (some ⟨t_b, t_o, none⟩) ∧ f 1 = .int .i64 width ∧ f 4 = .pointer (some ⟨b1, 0, none⟩) ∧ f 7 = y535_v0 ∧ f 12 = t_v1 ∧ f 13 = .int .i64 (t.Dome.Gores.length : Int) ∧ f 14 = .int .i64 x_523) ⟨rfl, rfl, rfl, rfl, rfl, rfl, rfl⟩ ?_)
   rintro f ⟨hf0, hf1, hf4, hf7, hf12, hf13, hf14⟩
   refine (JC.norm (i := 0) hf0 (JC.norm (i := 1) hf1 (JC.norm (i := 4) hf4 (JC.norm (i := 7) hf7 (JC.norm (i := 12) hf12 (JC.norm (i := 13) hf13 (JC.norm (i := 14) hf14 ?_)))))))
   obtain ⟨y590, hy590, hF⟩ := bind_some hF
   obtain ⟨y595, hy595, hF⟩ := bind_some hF
   refine JC.mixed 19 20 #[false, false, false, false, false, false, false, false, false, false, false, false, false, false, false, false, false, false, false, false] [(b1, .cells [.int .i64 (w64 (z_524 + y551)), .int .i64 z_525].toArray 39)] (by rfl) mo_ (by kernel_rfl) (by kernel_rfl) ?_
   intro hQ hE
   refine JA.take 0 (listed' := #[true, false, false, false, false, false, false, false, false, false, false, false, false, false, false, false, false, false, false, false]) hQ rfl (by kernel_rfl) (by kernel_rfl) (by kernel_rfl) (by kernel_rfl) (by kernel_rfl) hE (HSub.refl _) (.cons_cons _ (List.nil_sublist _)) ?_
   refine JL.fieldAddr fo_39_1 rfl .none rfl ?_
   refine JA.cont ?_
   refine JA.take 1 (listed' := #[true, true, false, false, false, false, false, false, false, false, false, false, false, false, false, false, false, false, false, false]) hQ rfl (by kernel_rfl) (by kernel_rfl) (by kernel_rfl) (by kernel_rfl) (by kernel_rfl) hE (HSub.refl _) (.cons_cons _ (List.nil_sublist _)) ?_
   refine JL.loadOwn 0 az_3 rfl rfl rfl .none rfl ?_
   refine JA.cont ?_
   refine JA.take 2 (listed' := #[true, true, true, false, false, false, false, false, false, false, false, false, false, false, false, false, false, false, false, false]) hQ rfl (by kernel_rfl) (by kernel_rfl) (by kernel_rfl) (by kernel_rfl) (by kernel_rfl) hE (HSub.refl _) (.cons_cons _ (List.nil_sublist _)) ?_
   refine JL.move .none rfl ?_
   refine JA.cont ?_
   refine JA.take 3 (listed' := #[true, true, true, true, false, false, false, false, false, false, false, false, false, false, false, false, false, false, false, false]) hQ rfl (by kernel_rfl) (by kernel_rfl) (by kernel_rfl) (by kernel_rfl) (by kernel_rfl) hE (HSub.refl _) (.cons_cons _ (List.nil_sublist _)) ?_
   refine JL.move .none rfl ?_
   refine JA.cont ?_
   refine JA.take 4 (listed' := #[true, true, true, true, true, false, false, false, false, false, false, false, false, false, false, false, false, false, false, false]) hQ rfl (by kernel_rfl) (by kernel_rfl) (by kernel_rfl) (by kernel_rfl) (by kernel_rfl) hE (HSub.refl _) (.cons_cons _ (List.nil_sublist _)) ?_
   refine JL.nilCheck rfl .none rfl ?_
   refine JA.cont ?_
   refine JA.take 5 (listed' := #[true, true, true, true, true, true, false, false, false, false, false, false, false, false, false, false, false, false, false, false]) hQ rfl (by kernel_rfl) (by kernel_rfl) (by kernel_rfl) (by kernel_rfl) (by kernel_rfl) hE (HSub.refl _) (.cons_cons _ (List.nil_sublist _)) ?_
   refine JL.fieldAddr fo_117_0 rfl .none rfl ?_
   refine JA.cont ?_
   refine JA.take 6 (listed' := #[true, true, true, true, true, true, true, false, false, false, false, false, false, false, false, false, false, false, false, false]) hQ rfl (by kernel_rfl) (by kernel_rfl) (by kernel_rfl) (by kernel_rfl) (by kernel_rfl) hE (HSub.refl _) (.cons_cons _ (List.nil_sublist _)) ?_
   refine JL.fieldAddr fo_26_2 rfl .none rfl ?_
   refine JA.cont ?_
   refine JA.take 7 (listed' := #[true, true, true, true, true, true, true, true, false, false, false, false, false, false, false, false, false, false, false, false]) hQ rfl (by kernel_rfl) (by kernel_rfl) (by kernel_rfl) (by kernel_rfl) (by kernel_rfl) hE (HSub.refl _) (.cons_cons _ (List.nil_sublist _)) ?_
   refine JL.loadH 2 az_3 rfl (Cells.mono hs526 t_c) rfl .none rfl ?_
   refine JA.cont ?_
   refine JA.take 8 (listed' := #[true, true, true, true, true, true, true, true, true, false, false, false, false, false, false, false, false, false, false, false]) hQ rfl (by kernel_rfl) (by kernel_rfl) (by kernel_rfl) (by kernel_rfl) (by kernel_rfl) hE (HSub.refl _) (.cons_cons _ (List.nil_sublist _)) ?_
   refine JL.bin rfl rfl rfl .none rfl ?_
   refine JA.cont ?_
   refine JA.take 9 (listed' := #[true, true, true, true, true, true, true, true, true, true, false, false, false, false, false, false, false, false, false, false]) hQ rfl (by kernel_rfl) (by kernel_rfl) (by kernel_rfl) (by kernel_rfl) (by kernel_rfl) hE (HSub.refl _) (.cons_cons _ (List.nil_sublist _)) ?_
   refine JL.bin rfl rfl rfl .none rfl ?_
   refine JA.cont ?_
   refine JA.take 10 (listed' := #[true, true, true, true, true, true, true, true, true, true, true, false, false, false, false, false, false, false, false, false]) hQ rfl (by kernel_rfl) (by kernel_rfl) (by kernel_rfl) (by kernel_rfl) (by kernel_rfl) hE (HSub.refl _) (.cons_cons _ (List.nil_sublist _)) ?_
   refine JL.move .none rfl ?_
   refine JA.cont ?_
   refine JA.take 11 (listed' := #[true, true, true, true, true, true, true, true, true, true, true, true, false, false, false, false, false, false, false, false]) hQ rfl (by kernel_rfl) (by kernel_rfl) (by kernel_rfl) (by kernel_rfl) (by kernel_rfl) hE (HSub.refl _) (.cons_cons _ (List.nil_sublist _)) ?_
   refine JL.move .none rfl ?_
   refine JA.cont ?_
   refine JA.take 12 (listed' := #[true, true, true, true, true, true, true, true, true, true, true, true, true, false, false, false, false, false, false, false]) hQ rfl (by kernel_rfl) (by kernel_rfl) (by kernel_rfl) (by kernel_rfl) (by kernel_rfl) hE (HSub.refl _) (.cons_cons _ (List.nil_sublist _)) ?_
   refine JL.lenSL (R := RInt) ul_23 hy535_0 .none rfl ?_
   refine JA.cont ?_
   refine JA.take 13 (listed' := #[true, true, true, true, true, true, true, true, true, true, true, true, true, true, false, false, false, false, false, false]) hQ rfl (by kernel_rfl) (by kernel_rfl) (by kernel_rfl) (by kernel_rfl) (by kernel_rfl) hE (HSub.refl _) (.cons_cons _ (List.nil_sublist _)) ?_
   refine JL.bin rfl rfl rfl .none rfl ?_
   refine JA.cont ?_
   refine JA.take 14 (listed' := #[true, true, true, true, true, true, true, true, true, true, true, true, true, true, true, false, false, false, false, false]) hQ rfl (by kernel_rfl) (by kernel_rfl) (by kernel_rfl) (by kernel_rfl) (by kernel_rfl) hE (HSub.refl _) (.cons_cons _ (List.nil_sublist _)) ?_
   refine JL.indexSL (R := RInt) sl_23 hy535_0 rfl hy590 .none rfl ?_
   rintro b624 o625 cs626 hc627 - rfl
   refine JA.cont ?_
   refine JA.take 15 (listed' := #[true, true, true, true, true, true, true, true, true, true, true, true, true, true, true, true, false, false, false, false]) hQ rfl (by kernel_rfl) (by kernel_rfl) (by kernel_rfl) (by kernel_rfl) (by kernel_rfl) hE (HSub.refl _) (.cons_cons _ (List.nil_sublist _)) ?_
   refine JL.loadH 0 az_3 rfl hc627 rfl .none rfl ?_
   refine JA.cont ?_
   refine JA.many [16] (by kernel_rfl) (by simp) (all_one ⟨_, #[true, true, true, true, true, true, true, true, true, true, true, true, true, true, true, true, true, false, false, false], rfl, (by kernel_rfl), ?_⟩)
   refine JL.callS (c_cloth_pull n H526 (w64 (width - (w64 (2 * t.Dome.Loss)))) y590 y595 hy595) rfl en_114 .none rfl ?_
   refine JA.after hE (HSub.refl _) (.cons_cons _ (List.nil_sublist _)) ?_
   refine JA.take 17 (listed' := #[true, true, true, true, true, true, true, true, true, true, true, true, true, true, true, true, true, true, false, false]) hQ rfl (by kernel_rfl) (by kernel_rfl) (by kernel_rfl) (by kernel_rfl) (by kernel_rfl) hE (HSub.refl _) (.cons_cons _ (List.nil_sublist _)) ?_
   refine JL.bin rfl rfl rfl .none rfl ?_
   refine JA.cont ?_
   refine JA.take 18 (listed' := #[true, true, true, true, true, true, true, true, true, true, true, true, true, true, true, true, true, true, true, false]) hQ rfl (by kernel_rfl) (by kernel_rfl) (by kernel_rfl) (by kernel_rfl) (by kernel_rfl) hE (HSub.refl _) (.cons_cons _ (List.nil_sublist _)) ?_
   refine JL.fieldAddr fo_39_1 rfl .none rfl ?_
   refine JA.cont ?_
   refine JA.many [19] (by kernel_rfl) (by simp) (all_one ⟨_, #[true, true, true, true, true, true, true, true, true, true, true, true, true, true, true, true, true, true, true, true], rfl, (by kernel_rfl), ?_⟩)
   refine JL.storeOwn 0 (cs := [.int .i64 (w64 (z_525 + y595))]) az_3 rfl rfl rfl (one_cons rfl one_nil) rfl rfl .none ?_
   refine JA.sink (by kernel_rfl) ?_
   refine JA.done hQ (by kernel_rfl) ?_
   refine JQ.normal_block (JQ.go (JC.fresh (fun f => f 0 = .pointer (some ⟨t_b, t_o, none⟩) ∧ f 1 = .int .i64 width ∧ f 4 = .pointer (some ⟨b1, 0, none⟩) ∧ f 12 = t_v1 ∧ f 13 = .int .i64 (t.Dome.Gores.length : Int) ∧ f 14 = .int .i64 x_523) ⟨rfl, rfl, rfl, rfl, rfl, rfl⟩ ?_))
   rintro f ⟨hf0, hf1, hf4, hf12, hf13, hf14⟩
   refine (JC.norm (i := 0) hf0 (JC.norm (i := 1) hf1 (JC.norm (i := 4) hf4 (JC.norm (i := 12) hf12 (JC.norm (i := 13) hf13 (JC.norm (i := 14) hf14 ?_))))))
   refine JC.region (by rfl) ?_
   intro hQ
   refine JL.bin rfl rfl rfl .none rfl ?_
   refine JL.move .none rfl ?_
   refine JL.done hQ ?_
   obtain rfl := Option.some.inj hF
   exact JQ.next rfl ⟨rfl, rfl, rfl, rfl, rfl, rfl, rfl, rfl, hs526⟩
  ·refine JC.cond_f (b := decide (x_523 < (t.Dome.Gores.length : Int))) rfl hc529 ?_
   refine JC.exit (JQ.exit_then (JQ.exit_then (JQ.exit_block ?_)))
   obtain rfl := Option.some.inj hF
   have ehr527 := hr527 _ rfl
   subst ehr527
   exact JQ.join (z_524, z_525) ⟨rfl, rfl, rfl, hs526, rfl⟩
 ·rintro ⟨z_313, z_314⟩ H315 f bs gs ⟨hf4, rfl, rfl, hs315, rfl⟩
  have hF := hKr316
  try dsimp only at hF
  refine (JQ.norm (i := 4) hf4 ?_)
  refine JQ.go (JC.seq (JC.region (by rfl) ?_))
  intro hQ
  refine JL.loadOwn 0 az_39 rfl rfl rfl .none rfl ?_
  refine JL.storeOwn 0 (cs := [.int .i64 z_313, .int .i64 z_314]) az_39 rfl rfl rfl (one_cons rfl (one_cons rfl one_nil)) rfl rfl .none ?_
  refine JL.done hQ (JQ.go (JC.ret ?_))
  obtain rfl := Option.some.inj hF
  exact JQ.outS rfl (.cell 0 az_39 rfl rfl rfl .nil) rfl
-- 15 ferrule/cloth.Round
def F_cloth_Round (n : Nat) (d : Dome) (row : Int) : Option (Span × Int) :=
 (F_cloth_isRow n d row).bind fun y5 => (F_cloth_pitch n d y5).bind fun y6 => if (y6.2 != 0) = true then (some ((Span.mk 0 0), y6.2)) else ((geti d.Widths row).bind fun y14 => y6.1.bind fun w019 => (F_cloth_tent_round n w019 y14).bind fun y25 => some (y25, 0))
theorem c_cloth_Round (n : Nat) (H : Hp) (d : Dome) (d_v0 : Value) (hd_0 : SL H 4 R_Bolt d_v0 d.Bolts) (d_v1 : Value) (hd_1 : SL H 1 RInt d_v1 d.Gores) (d_v3 : Value) (hd_3 : SL H 2 R_Span d_v3 d.Rounds) (d_v4 : Value) (hd_4 : SL H 1 RInt d_v4 d.Widths) (row : Int) (y : Span × Int) (hF : F_cloth_Round n d row = some y) : SC Try.prog 15 [.agg [d_v0, d_v1, .int .i64 d.Loss, d_v3, d_v4, .int .i64 d.Slope].toArray, .int .i64 row] (.tuple [.agg [.int .i64 y.1.Low, .int .i64 y.1.High].toArray, .int .i64 y.2].toArray) H := by
 rw [F_cloth_Round] at hF
 refine SC.of (N := 27) Try.func15 rfl rfl rfl fun w => ?_
 refine JC.seq (JC.region (by rfl) ?_)
 intro hQ
 refine JL.box (cs := [d_v0, d_v1, .int .i64 d.Loss, d_v3, d_v4, .int .i64 d.Slope]) rfl .none rfl ?_
 intro b1
 refine JL.alloc ze_39 .none rfl ?_
 intro b2
 refine JL.assign .none rfl ?_
 refine JL.done hQ (JQ.go (JC.seq ?_))
 obtain ⟨y5, hy5, hF⟩ := bind_some hF
 obtain ⟨y6, hy6, hF⟩ := bind_some hF
 refine JC.mixed 10 10 #[false, false, false, false, false, false, false, false, false, false] [(b2, .cells [.int .i64 0, .int .i64 0].toArray 39), (b1, .cells [d_v0, d_v1, .int .i64 d.Loss, d_v3, d_v4, .int .i64 d.Slope].toArray 26)] (by rfl) mo_ (by kernel_rfl) (by kernel_rfl) ?_
 intro hQ hE
 refine JA.take 0 (listed' := #[true, false, false, false, false, false, false, false, false, false]) hQ rfl (by kernel_rfl) (by kernel_rfl) (by kernel_rfl) (by kernel_rfl) (by kernel_rfl) hE (HSub.refl _) (.cons_cons _ (.cons_cons _ (List.nil_sublist _))) ?_
 refine JL.loadOwn 1 az_26 rfl rfl rfl .none rfl ?_
 refine JA.cont ?_
 refine JA.take 1 (listed' := #[true, true, false, false, false, false, false, false, false, false]) hQ rfl (by kernel_rfl) (by kernel_rfl) (by kernel_rfl) (by kernel_rfl) (by kernel_rfl) hE (HSub.refl _) (.cons_cons _ (.cons_cons _ (List.nil_sublist _))) ?_
 refine JL.loadOwn 1 az_26 rfl rfl rfl .none rfl ?_
 refine JA.cont ?_
 refine JA.take 2 (listed' := #[true, true, true, false, false, false, false, false, false, false]) hQ rfl (by kernel_rfl) (by kernel_rfl) (by kernel_rfl) (by kernel_rfl) (by kernel_rfl) hE (HSub.refl _) (.cons_cons _ (.cons_cons _ (List.nil_sublist _))) ?_
 refine JL.move .none rfl ?_
 refine JA.cont ?_
 refine JA.many [3] (by kernel_rfl) (by simp) (all_one ⟨_, #[true, true, true, true, false, false, false, false, false, false], rfl, (by kernel_rfl), ?_⟩)
 refine JL.callS (c_cloth_isRow n H d d_v0 hd_0 d_v1 hd_1 d_v3 hd_3 d_v4 hd_4 row y5 hy5) rfl en_59 .none rfl ?_
 refine JA.after hE (HSub.refl _) (.cons_cons _ (.cons_cons _ (List.nil_sublist _))) ?_
 refine JA.many [4] (by kernel_rfl) (by simp) (all_one ⟨_, #[true, true, true, true, true, false, false, false, false, false], rfl, (by kernel_rfl), ?_⟩)
 refine JL.callH (c_cloth_pitch n H d d_v0 hd_0 d_v1 hd_1 d_v3 hd_3 d_v4 hd_4 y5 y6 hy6) rfl en_54 .none rfl ?_
 rintro H11 vv12 hs11 ⟨y6a_v0, rfl, hy6a_0⟩
 refine JA.after hE hs11 (.cons_cons _ (.cons_cons _ (List.nil_sublist _))) ?_
 refine JA.take 5 (listed' := #[true, true, true, true, true, true, false, false, false, false]) hQ rfl (by kernel_rfl) (by kernel_rfl) (by kernel_rfl) (by kernel_rfl) (by kernel_rfl) hE hs11 (.cons_cons _ (.cons_cons _ (List.nil_sublist _))) ?_
 refine JL.move .none rfl ?_
 refine JA.cont ?_
 refine JA.take 6 (listed' := #[true, true, true, true, true, true, true, false, false, false]) hQ rfl (by kernel_rfl) (by kernel_rfl) (by kernel_rfl) (by kernel_rfl) (by kernel_rfl) hE hs11 (.cons_cons _ (.cons_cons _ (List.nil_sublist _))) ?_
 refine JL.extract rfl rfl .none rfl ?_
 refine JA.cont ?_
 refine JA.take 7 (listed' := #[true, true, true, true, true, true, true, true, false, false]) hQ rfl (by kernel_rfl) (by kernel_rfl) (by kernel_rfl) (by kernel_rfl) (by kernel_rfl) hE hs11 (.cons_cons _ (.cons_cons _ (List.nil_sublist _))) ?_
 refine JL.extract rfl rfl .none rfl ?_
 refine JA.cont ?_
 refine JA.take 8 (listed' := #[true, true, true, true, true, true, true, true, true, false]) hQ rfl (by kernel_rfl) (by kernel_rfl) (by kernel_rfl) (by kernel_rfl) (by kernel_rfl) hE hs11 (.cons_cons _ (.cons_cons _ (List.nil_sublist _))) ?_
 refine JL.assign .none rfl ?_
 refine JA.cont ?_
 refine JA.take 9 (listed' := #[true, true, true, true, true, true, true, true, true, true]) hQ rfl (by kernel_rfl) (by kernel_rfl) (by kernel_rfl) (by kernel_rfl) (by kernel_rfl) hE hs11 (.cons_cons _ (.cons_cons _ (List.nil_sublist _))) ?_
 refine JL.assign .none rfl ?_
 refine JA.cont ?_
 refine JA.done hQ (by kernel_rfl) ?_
 refine JQ.go (JC.fresh (fun f => f 1 = .int .i64 row ∧ f 2 = .pointer (some ⟨b1, 0, none⟩) ∧ f 4 = .pointer (some ⟨b2, 0, none⟩) ∧ f 5 = .int .i64 0 ∧ f 6 = y6a_v0 ∧ f 7 = .int .i64 y6.2) ⟨rfl, rfl, rfl, rfl, rfl, rfl⟩ ?_)
 rintro f ⟨hf1, hf2, hf4, hf5, hf6, hf7⟩
 refine (JC.norm (i := 1) hf1 (JC.norm (i := 2) hf2 (JC.norm (i := 4) hf4 (JC.norm (i := 5) hf5 (JC.norm (i := 6) hf6 (JC.norm (i := 7) hf7 ?_))))))
 refine JC.seq (JC.seq (JC.region (by rfl) ?_))
 intro hQ
 refine JL.move .none rfl ?_
 refine JL.bin rfl rfl rfl .none rfl ?_
 refine JL.done hQ (JQ.go ?_)
 rcases ite_some hF with ⟨hc13, hF⟩ | ⟨hc13, hF⟩
 ·refine JC.cond_t (b := (y6.2 != 0)) rfl hc13 ?_
  refine JC.seq (JC.region (by rfl) ?_)
  intro hQ
  refine JL.build (l := [.int .i64 0, .int .i64 0]) (by kernel_rfl) .none rfl ?_
  refine JL.move .none rfl ?_
  refine JL.storeOwn 0 (cs := [.int .i64 0, .int .i64 0]) az_39 rfl rfl rfl (one_cons rfl (one_cons rfl one_nil)) rfl rfl .none ?_
  refine JL.assign .none rfl ?_
  refine JL.done hQ (JQ.go (JC.ret (JQ.ret_then ?_)))
  obtain rfl := Option.some.inj hF
  exact JQ.outS rfl (.cell 0 az_39 rfl rfl rfl (.tmp .nil)) rfl
 ·refine JC.cond_f (b := (y6.2 != 0)) rfl hc13 ?_
  refine JC.skip (JQ.go (JC.seq (JC.region (by rfl) ?_)))
  intro hQ
  refine JL.move .none rfl ?_
  refine JL.fieldAddr fo_26_4 rfl .none rfl ?_
  refine JL.loadOwn 1 az_23 rfl rfl rfl .none rfl ?_
  refine JL.move .none rfl ?_
  obtain ⟨y14, hy14, hF⟩ := bind_some hF
  refine JL.indexSL (R := RInt) sl_23 (SL.mono RInt.mono hs11 hd_4) rfl hy14 .none rfl ?_
  rintro b15 o16 cs17 hc18 - rfl
  refine JL.loadH 0 az_3 rfl hc18 rfl .none rfl ?_
  obtain ⟨w019, hw019, hF⟩ := bind_some hF
  obtain ⟨b20, o21, cs22, hv23, hc24, ⟨w019_v0, w019_v1, w019_v3, w019_v4, w019_v6, rfl, hw019_0, hw019_1, hw019_3, hw019_4, hw019_6⟩⟩ := (show PT H11 R_cloth_tent y6a_v0 (some w019) by rw [← hw019]; exact hy6a_0)
  subst hv23
  obtain ⟨y25, hy25, hF⟩ := bind_some hF
  refine JL.callS (c_cloth_tent_round n H11 w019 w019_v0 hw019_0 w019_v1 hw019_1 w019_v3 hw019_3 w019_v4 hw019_4 w019_v6 hw019_6 b20 o21 hc24 y14 y25 hy25) rfl en_60 .none rfl ?_
  refine JL.storeOwn 0 (cs := [.int .i64 y25.Low, .int .i64 y25.High]) az_39 rfl rfl rfl (one_cons rfl (one_cons rfl one_nil)) rfl rfl .none ?_
  refine JL.assign .none rfl ?_
  refine JL.done hQ (JQ.go (JC.fresh (fun f => f 4 = .pointer (some ⟨b2, 0, none⟩) ∧ f 5 = .int .i64 0) ⟨rfl, rfl⟩ ?_))
  rintro f ⟨hf4, hf5⟩
  refine (JC.norm (i := 4) hf4 (JC.norm (i := 5) hf5 ?_))
  refine JC.ret ?_
  obtain rfl := Option.some.inj hF
  exact JQ.outS rfl (.cell 0 az_39 rfl rfl rfl (.tmp .nil)) rfl
end Go.Proofs.Yteihdclpiekmaaa
end
