/-
  A part of the proof of RiRib: the texts RiGenK8, RiGenK9.
-/
import Derived.Test.YteihdclpiekmaaaJRiRib5
section
set_option maxRecDepth 100000
set_option maxHeartbeats 40000000
namespace Go.Proofs.Yteihdclpiekmaaa
open Go Go.RowKit Go.Dec
set_option linter.unusedVariables false
-- 170 ferrule/parts.isWorkshop
def F_parts_isWorkshop (n : Nat) (w_ : Workshop) : Option Bool :=
 (if decide ((w_.Spares.length : Int) ≤ 10) = true then ((F_parts_all_api_Spare_ n w_.Spares (fun a0_ => F_parts_isWorkshop_1 n a0_)).bind fun y7 => some y7) else (some false) : Option Bool).bind fun p4 => (if (p4 && (decide ((w_.Makes.length : Int) ≤ 6))) = true then ((F_parts_all_api_Make_ n w_.Makes (fun a0_ => F_parts_isWorkshop_3 n a0_ (fun a0_ => F_parts_isWorkshop_2 n a0_))).bind fun y19 => some y19) else (some false) : Option Bool).bind fun p13 => (if p13 = true then ((F_parts_within n w_.Cut 0 99).bind fun y24 => some y24) else (some false) : Option Bool).bind fun p21 => (if (p21 && (decide ((w_.Table.length : Int) ≤ 30))) = true then ((F_parts_all_api_Trial_ n w_.Table (fun a0_ => F_parts_isWorkshop_4 n a0_ w_)).bind fun y36 => some y36) else (some false) : Option Bool).bind fun p30 => some p30
theorem c_parts_isWorkshop (n : Nat) (H : Hp) (w_ : Workshop) (w__v0 : Value) (hw__0 : SL H 4 R_Spare w__v0 w_.Spares) (w__v1 : Value) (hw__1 : SL H 1 R_Make w__v1 w_.Makes) (w__v3 : Value) (hw__3 : SL H 4 R_Trial w__v3 w_.Table) (y : Bool) (hF : F_parts_isWorkshop n w_ = some y) : SC Try.prog 170 [.agg [w__v0, w__v1, .int .i64 w_.Cut, w__v3].toArray] (.bool y) H := by
 rw [F_parts_isWorkshop] at hF
 refine SC.of (N := 48) Try.func170 rfl rfl rfl fun w => ?_
 refine JC.seq (JC.region (by rfl) ?_)
 intro hQ
 refine JL.box (cs := [w__v0, w__v1, .int .i64 w_.Cut, w__v3]) rfl .none rfl ?_
 intro b1
 refine JL.assign .none rfl ?_
 refine JL.done hQ (JQ.go (JC.seq (JC.region (by rfl) ?_)))
 intro hQ
 refine JL.assign .none rfl ?_
 refine JL.done hQ (JQ.go (JC.seq (JC.region (by rfl) ?_)))
 intro hQ
 refine JL.alloc ze_223 .none rfl ?_
 intro b2
 refine JL.storeOwn 0 (cs := [.func (.func 206) #[] [].toArray]) az_223 rfl rfl rfl (one_cons rfl one_nil) rfl rfl .none ?_
 refine JL.done hQ (JQ.go (JC.seq (JC.region (by rfl) ?_)))
 intro hQ
 refine JL.makeFunc .none rfl ?_
 refine JL.assign .none rfl ?_
 refine JL.done hQ (JQ.go (JC.seq (JC.region (by rfl) ?_)))
 intro hQ
 refine JL.makeFunc .none rfl ?_
 refine JL.assign .none rfl ?_
 refine JL.done hQ (JQ.go (JC.seq (JC.region (by rfl) ?_)))
 intro hQ
 refine JL.fieldAddr fo_48_0 rfl .none rfl ?_
 refine JL.loadOwn 1 az_44 rfl rfl rfl .none rfl ?_
 refine JL.lenSL (R := R_Spare) ul_44 hw__0 .none rfl ?_
 refine JL.bin rfl rfl rfl .none rfl ?_
 refine JL.move .none rfl ?_
 obtain ⟨p4, hp4, hF⟩ := bind_some hF
 refine JL.cut 5 (fun f => f 1 = .pointer (some ⟨b1, 0, none⟩) ∧ f 5 = .func (.func 209) #[] [.pointer (some ⟨b2, 0, none⟩)].toArray ∧ f 6 = .func (.func 211) #[] [.pointer (some ⟨b1, 0, none⟩)].toArray ∧ f 18 = .bool p4) ?_ ?_
 ·intro hJ5
  rcases ite_some hp4 with ⟨hc6, hF⟩ | ⟨hc6, hF⟩
  ·skip
   refine JL.fieldAddr fo_48_0 rfl (.some rfl rfl rfl hc6) rfl ?_
   refine JL.loadOwn 1 az_44 rfl rfl rfl (.some rfl rfl rfl hc6) rfl ?_
   refine JL.move (.some rfl rfl rfl hc6) rfl ?_
   obtain ⟨y7, hy7, hF⟩ := bind_some hF
   refine JL.callS (c_parts_all_api_Spare_ n H w_.Spares w__v0 hw__0 (fun a0_ => F_parts_isWorkshop_1 n a0_) 203 [] en_203 (fun H' hs' a0_ y' hy' => c_parts_isWorkshop_1 n H' a0_ y' hy') y7 hy7) rfl en_213 (.some rfl rfl rfl hc6) rfl ?_
   refine JL.pick_t (b := decide ((w_.Spares.length : Int) ≤ 10)) rfl hc6 .none rfl ?_
   obtain rfl := Option.some.inj hF
   exact hJ5 _ ⟨rfl, rfl, rfl, rfl⟩
  ·skip
   refine JL.skip (.bool rfl rfl rfl hc6) rfl ?_
   refine JL.skip (.bool rfl rfl rfl hc6) rfl ?_
   refine JL.skip (.bool rfl rfl rfl hc6) rfl ?_
   refine JL.skip (.bool rfl rfl rfl hc6) rfl ?_
   refine JL.pick_f (b := decide ((w_.Spares.length : Int) ≤ 10)) rfl hc6 .none rfl ?_
   obtain rfl := Option.some.inj hF
   exact hJ5 _ ⟨rfl, rfl, rfl, rfl⟩
 ·rintro f ⟨hf1, hf5, hf6, hf18⟩
  refine (JL.norm (i := 1) hf1 (JL.norm (i := 5) hf5 (JL.norm (i := 6) hf6 (JL.norm (i := 18) hf18 ?_))))
  refine JL.move .none rfl ?_
  refine JL.cut 5 (fun f => f 1 = .pointer (some ⟨b1, 0, none⟩) ∧ f 5 = .func (.func 209) #[] [.pointer (some ⟨b2, 0, none⟩)].toArray ∧ f 6 = .func (.func 211) #[] [.pointer (some ⟨b1, 0, none⟩)].toArray ∧ f 24 = .bool (p4 && (decide ((w_.Makes.length : Int) ≤ 6)))) ?_ ?_
  ·intro hJ8
   rcases bcases p4 with hc9 | hc9
   ·skip
    refine JL.fieldAddr fo_48_1 rfl (.some rfl rfl rfl hc9) rfl ?_
    refine JL.loadOwn 1 az_45 rfl rfl rfl (.some rfl rfl rfl hc9) rfl ?_
    refine JL.lenSL (R := R_Make) ul_45 hw__1 (.some rfl rfl rfl hc9) rfl ?_
    refine JL.bin rfl rfl rfl (.some rfl rfl rfl hc9) rfl ?_
    refine JL.pick_t (b := p4) rfl hc9 .none rfl ?_
    exact hJ8 _ ⟨rfl, rfl, rfl, and_t hc9 rfl⟩
   ·skip
    refine JL.skip (.bool rfl rfl rfl hc9) rfl ?_
    refine JL.skip (.bool rfl rfl rfl hc9) rfl ?_
    refine JL.skip (.bool rfl rfl rfl hc9) rfl ?_
    refine JL.skip (.bool rfl rfl rfl hc9) rfl ?_
    refine JL.pick_f (b := p4) rfl hc9 .none rfl ?_
    exact hJ8 _ ⟨rfl, rfl, rfl, and_f hc9 rfl⟩
  ·rintro f ⟨hf1, hf5, hf6, hf24⟩
   refine (JL.norm (i := 1) hf1 (JL.norm (i := 5) hf5 (JL.norm (i := 6) hf6 (JL.norm (i := 24) hf24 ?_))))
   refine JL.move .none rfl ?_
   obtain ⟨p13, hp13, hF⟩ := bind_some hF
   refine JL.cutW 5 (fun H14 f bs gs => f 1 = .pointer (some ⟨b1, 0, none⟩) ∧ f 6 = .func (.func 211) #[] [.pointer (some ⟨b1, 0, none⟩)].toArray ∧ f 30 = .bool p13 ∧ bs = [(b1, .cells [w__v0, w__v1, .int .i64 w_.Cut, w__v3].toArray 48)] ∧ gs = [] ∧ HSub H H14) ?_ ?_
   ·intro hJ15
    rcases ite_some hp13 with ⟨hc16, hF⟩ | ⟨hc16, hF⟩
    ·skip
     refine JL.fieldAddr fo_48_1 rfl (.some rfl rfl rfl hc16) rfl ?_
     refine JL.loadOwn 1 az_45 rfl rfl rfl (.some rfl rfl rfl hc16) rfl ?_
     refine JL.move (.some rfl rfl rfl hc16) rfl ?_
     refine JL.freezeC 0 (l := [.func (.func 206) #[] [].toArray]) rfl ?_
     intro H17 hs17 hc18
     obtain ⟨y19, hy19, hF⟩ := bind_some hF
     refine JL.callS (c_parts_all_api_Make_ n H17 w_.Makes w__v1 (SL.mono R_Make_mono hs17 hw__1) (fun a0_ => F_parts_isWorkshop_3 n a0_ (fun a0_ => F_parts_isWorkshop_2 n a0_)) 209 [.pointer (some ⟨b2, 0, none⟩)] en_209 (fun H' hs' a0_ a0__v0 ha0__0 y' hy' => c_parts_isWorkshop_3 n H' a0_ a0__v0 ha0__0 (fun a0_ => F_parts_isWorkshop_2 n a0_) (.func (.func 206) #[] [].toArray) (FN_223.mono hs' ⟨206, [], rfl, en_206, (fun H' hs' a0_ a0__v1 ha0__1 y' hy' => c_parts_isWorkshop_2 n H' a0_ a0__v1 ha0__1 y' hy')⟩) b2 (Cells.mono hs' hc18) y' hy') y19 hy19) rfl en_214 (.some rfl rfl rfl hc16) rfl ?_
     refine JL.pick_t (b := (p4 && (decide ((w_.Makes.length : Int) ≤ 6)))) rfl hc16 .none rfl ?_
     obtain rfl := Option.some.inj hF
     refine JL.mask [true] [] ?_
     exact hJ15 _ _ _ _ ⟨rfl, rfl, rfl, rfl, rfl, hs17⟩
    ·skip
     refine JL.skip (.bool rfl rfl rfl hc16) rfl ?_
     refine JL.skip (.bool rfl rfl rfl hc16) rfl ?_
     refine JL.skip (.bool rfl rfl rfl hc16) rfl ?_
     refine JL.skip (.bool rfl rfl rfl hc16) rfl ?_
     refine JL.pick_f (b := (p4 && (decide ((w_.Makes.length : Int) ≤ 6)))) rfl hc16 .none rfl ?_
     obtain rfl := Option.some.inj hF
     refine JL.mask [false, true] [] ?_
     exact hJ15 _ _ _ _ ⟨rfl, rfl, rfl, rfl, rfl, (HSub.refl _)⟩
   ·rintro H14 f bs gs ⟨hf1, hf6, hf30, rfl, rfl, hs14⟩
    refine (JL.norm (i := 1) hf1 (JL.norm (i := 6) hf6 (JL.norm (i := 30) hf30 ?_)))
    refine JL.move .none rfl ?_
    obtain ⟨p21, hp21, hF⟩ := bind_some hF
    refine JL.cut 4 (fun f => f 1 = .pointer (some ⟨b1, 0, none⟩) ∧ f 6 = .func (.func 211) #[] [.pointer (some ⟨b1, 0, none⟩)].toArray ∧ f 35 = .bool p21) ?_ ?_
    ·intro hJ22
     rcases ite_some hp21 with ⟨hc23, hF⟩ | ⟨hc23, hF⟩
     ·skip
      refine JL.fieldAddr fo_48_2 rfl (.some rfl rfl rfl hc23) rfl ?_
      refine JL.loadOwn 0 az_3 rfl rfl rfl (.some rfl rfl rfl hc23) rfl ?_
      obtain ⟨y24, hy24, hF⟩ := bind_some hF
      refine JL.callS (c_parts_within n H14 w_.Cut 0 99 y24 hy24) rfl en_123 (.some rfl rfl rfl hc23) rfl ?_
      refine JL.pick_t (b := p13) rfl hc23 .none rfl ?_
      obtain rfl := Option.some.inj hF
      exact hJ22 _ ⟨rfl, rfl, rfl⟩
     ·skip
      refine JL.skip (.bool rfl rfl rfl hc23) rfl ?_
      refine JL.skip (.bool rfl rfl rfl hc23) rfl ?_
      refine JL.skip (.bool rfl rfl rfl hc23) rfl ?_
      refine JL.pick_f (b := p13) rfl hc23 .none rfl ?_
      obtain rfl := Option.some.inj hF
      exact hJ22 _ ⟨rfl, rfl, rfl⟩
    ·rintro f ⟨hf1, hf6, hf35⟩
     refine (JL.norm (i := 1) hf1 (JL.norm (i := 6) hf6 (JL.norm (i := 35) hf35 ?_)))
     refine JL.move .none rfl ?_
     refine JL.cut 5 (fun f => f 1 = .pointer (some ⟨b1, 0, none⟩) ∧ f 6 = .func (.func 211) #[] [.pointer (some ⟨b1, 0, none⟩)].toArray ∧ f 41 = .bool (p21 && (decide ((w_.Table.length : Int) ≤ 30)))) ?_ ?_
     ·intro hJ25
      rcases bcases p21 with hc26 | hc26
      ·skip
       refine JL.fieldAddr fo_48_3 rfl (.some rfl rfl rfl hc26) rfl ?_
       refine JL.loadOwn 0 az_46 rfl rfl rfl (.some rfl rfl rfl hc26) rfl ?_
       refine JL.lenSL (R := R_Trial) ul_46 (SL.mono R_Trial_mono hs14 hw__3) (.some rfl rfl rfl hc26) rfl ?_
       refine JL.bin rfl rfl rfl (.some rfl rfl rfl hc26) rfl ?_
       refine JL.pick_t (b := p21) rfl hc26 .none rfl ?_
       exact hJ25 _ ⟨rfl, rfl, and_t hc26 rfl⟩
      ·skip
       refine JL.skip (.bool rfl rfl rfl hc26) rfl ?_
       refine JL.skip (.bool rfl rfl rfl hc26) rfl ?_
       refine JL.skip (.bool rfl rfl rfl hc26) rfl ?_
       refine JL.skip (.bool rfl rfl rfl hc26) rfl ?_
       refine JL.pick_f (b := p21) rfl hc26 .none rfl ?_
       exact hJ25 _ ⟨rfl, rfl, and_f hc26 rfl⟩
     ·rintro f ⟨hf1, hf6, hf41⟩
      refine (JL.norm (i := 1) hf1 (JL.norm (i := 6) hf6 (JL.norm (i := 41) hf41 ?_)))
      refine JL.move .none rfl ?_
      obtain ⟨p30, hp30, hF⟩ := bind_some hF
      refine JL.cutW 5 (fun H31 f bs gs => f 47 = .bool p30 ∧ bs = [] ∧ gs = [] ∧ HSub H14 H31) ?_ ?_
      ·intro hJ32
       rcases ite_some hp30 with ⟨hc33, hF⟩ | ⟨hc33, hF⟩
       ·skip
        refine JL.fieldAddr fo_48_3 rfl (.some rfl rfl rfl hc33) rfl ?_
        refine JL.loadOwn 0 az_46 rfl rfl rfl (.some rfl rfl rfl hc33) rfl ?_
        refine JL.move (.some rfl rfl rfl hc33) rfl ?_
        refine JL.freezeC 0 (l := [w__v0, w__v1, .int .i64 w_.Cut, w__v3]) rfl ?_
        intro H34 hs34 hc35
        obtain ⟨y36, hy36, hF⟩ := bind_some hF
        refine JL.callS (c_parts_all_api_Trial_ n H34 w_.Table w__v3 (SL.mono R_Trial_mono (HSub.trans hs14 hs34) hw__3) (fun a0_ => F_parts_isWorkshop_4 n a0_ w_) 211 [.pointer (some ⟨b1, 0, none⟩)] en_211 (fun H' hs' a0_ y' hy' => c_parts_isWorkshop_4 n H' a0_ w_ w__v0 (SL.mono R_Spare_mono hs' (SL.mono R_Spare_mono (HSub.trans hs14 hs34) hw__0)) w__v1 (SL.mono R_Make_mono hs' (SL.mono R_Make_mono (HSub.trans hs14 hs34) hw__1)) w__v3 (SL.mono R_Trial_mono hs' (SL.mono R_Trial_mono (HSub.trans hs14 hs34) hw__3)) b1 (Cells.mono hs' hc35) y' hy') y36 hy36) rfl en_122 (.some rfl rfl rfl hc33) rfl ?_
        refine JL.pick_t (b := (p21 && (decide ((w_.Table.length : Int) ≤ 30)))) rfl hc33 .none rfl ?_
        obtain rfl := Option.some.inj hF
        refine JL.mask [] [] ?_
        exact hJ32 _ _ _ _ ⟨rfl, rfl, rfl, hs34⟩
       ·skip
        refine JL.skip (.bool rfl rfl rfl hc33) rfl ?_
        refine JL.skip (.bool rfl rfl rfl hc33) rfl ?_
        refine JL.skip (.bool rfl rfl rfl hc33) rfl ?_
        refine JL.skip (.bool rfl rfl rfl hc33) rfl ?_
        refine JL.pick_f (b := (p21 && (decide ((w_.Table.length : Int) ≤ 30)))) rfl hc33 .none rfl ?_
        obtain rfl := Option.some.inj hF
        refine JL.mask [false] [] ?_
        exact hJ32 _ _ _ _ ⟨rfl, rfl, rfl, (HSub.refl _)⟩
      ·rintro H31 f bs gs ⟨hf47, rfl, rfl, hs31⟩
       refine (JL.norm (i := 47) hf47 ?_)
       refine JL.assign .none rfl ?_
       refine JL.done hQ (JQ.go (JC.ret ?_))
       obtain rfl := Option.some.inj hF
       exact JQ.outS rfl (.tmp .nil) rfl
-- 119 ferrule/parts.Check
def F_parts_Check_s1 (n : Nat) (w_ : Workshop) : Int × Mp → Option ((Int × Mp) ⊕ (Int ⊕ Unit))
 | (x_104, m_105) => if decide (x_104 < (w_.Table.length : Int)) = true then ((geti w_.Table x_104).bind fun y110 => (kok 3 [y110.Spare, y110.Make, y110.Slot]).bind fun _ => if ((mhas m_105 [y110.Spare, y110.Make, y110.Slot]) && ((mget m_105 [y110.Spare, y110.Make, y110.Slot]) != y110.Fits)) = true then (some (Sum.inr (Sum.inl 71))) else ((kok 3 [y110.Spare, y110.Make, y110.Slot]).bind fun _ => some (Sum.inl ((w64 (x_104 + 1)), (mput m_105 [y110.Spare, y110.Make, y110.Slot] y110.Fits))))) else (some (Sum.inr (Sum.inr ())))
def F_parts_Check (n : Nat) (w_ : Workshop) : Option Int :=
 (F_parts_isWorkshop n w_).bind fun y2 => if (!y2) = true then (some 70) else ((loopO n (F_parts_Check_s1 n w_) (0, ([] : Mp))).bind fun r65 => match r65 with | .inl o => some o | .inr _ => some 0)
theorem c_parts_Check (n : Nat) (H : Hp) (w_ : Workshop) (w__v0 : Value) (hw__0 : SL H 4 R_Spare w__v0 w_.Spares) (w__v1 : Value) (hw__1 : SL H 1 R_Make w__v1 w_.Makes) (w__v3 : Value) (hw__3 : SL H 4 R_Trial w__v3 w_.Table) (y : Int) (hF : F_parts_Check n w_ = some y) : SC Try.prog 119 [.agg [w__v0, w__v1, .int .i64 w_.Cut, w__v3].toArray] (.int .i64 y) H := by
 rw [F_parts_Check] at hF
 refine SC.of (N := 45) Try.func119 rfl rfl rfl fun w => ?_
 refine JC.seq (JC.region (by rfl) ?_)
 intro hQ
 refine JL.box (cs := [w__v0, w__v1, .int .i64 w_.Cut, w__v3]) rfl .none rfl ?_
 intro b1
 refine JL.assign .none rfl ?_
 refine JL.done hQ (JQ.go (JC.seq (JC.seq (JC.region (by rfl) ?_))))
 intro hQ
 refine JL.loadOwn 0 az_48 rfl rfl rfl .none rfl ?_
 obtain ⟨y2, hy2, hF⟩ := bind_some hF
 refine JL.callS (c_parts_isWorkshop n H w_ w__v0 hw__0 w__v1 hw__1 w__v3 hw__3 y2 hy2) rfl en_170 .none rfl ?_
 refine JL.not rfl .none rfl ?_
 refine JL.done hQ (JQ.go ?_)
 rcases ite_some hF with ⟨hc3, hF⟩ | ⟨hc3, hF⟩
 ·refine JC.cond_t (b := (!y2)) rfl hc3 ?_
  refine JC.seq (JC.region (by rfl) ?_)
  intro hQ
  refine JL.assign .none rfl ?_
  refine JL.done hQ (JQ.go (JC.ret (JQ.ret_then ?_)))
  obtain rfl := Option.some.inj hF
  exact JQ.outS rfl (.tmp .nil) rfl
 ·refine JC.cond_f (b := (!y2)) rfl hc3 ?_
  refine JC.skip (JQ.go (JC.seq (JC.region (by rfl) ?_)))
  intro hQ
  refine JL.makeMap .none rfl ?_
  intro b4
  refine JL.assign .none rfl ?_
  refine JL.done hQ (JQ.go (JC.seq (JC.seq (JC.region (by rfl) ?_))))
  intro hQ
  refine JL.fieldAddr fo_48_3 rfl .none rfl ?_
  refine JL.loadOwn 1 az_46 rfl rfl rfl .none rfl ?_
  refine JL.lenSL (R := R_Trial) ul_46 hw__3 .none rfl ?_
  refine JL.move .none rfl ?_
  refine JL.done hQ (JQ.go ?_)
  obtain ⟨r65, hlr65, hKr65⟩ := bind_some hF
  refine JC.join (fun (_ : Unit) H64 f bs gs => bs = [] ∧ gs = [] ∧ HSub H H64 ∧ Sum.inr () = r65) ?_ ?_
  ·skip
   refine JC.block (JC.mask [true, false] [] ?_)
   refine JC.loop hlr65 (fun (x : Int × Mp) H106 f bs gs => match x with | (x_104, m_105) => ∃ (em_105 : Array MapEntry) (cm_105 : Nat), f 3 = .map (some b4) ∧ f 14 = w__v3 ∧ f 15 = .int .i64 (w_.Table.length : Int) ∧ f 16 = .int .i64 x_104 ∧ bs = [(b4, .map em_105 cm_105)] ∧ gs = [] ∧ MR 3 ekA m_105 em_105 cm_105 ∧ HSub H H106) ⟨#[], 0, rfl, rfl, rfl, rfl, rfl, rfl, MR.empty, (HSub.refl _)⟩ ?_
   rintro ⟨x_104, m_105⟩ x108 H106 f bs gs ⟨em_105, cm_105, hf3, hf14, hf15, hf16, rfl, rfl, hm_105, hs106⟩ hF hr107
   rw [F_parts_Check_s1] at hF
   refine (JC.norm (i := 3) hf3 (JC.norm (i := 14) hf14 (JC.norm (i := 15) hf15 (JC.norm (i := 16) hf16 ?_))))
   refine JC.seq (JC.region (by rfl) ?_)
   intro hQ
   refine JL.bin rfl rfl rfl .none rfl ?_
   refine JL.done hQ (JQ.go (JC.seq ?_))
   rcases ite_some hF with ⟨hc109, hF⟩ | ⟨hc109, hF⟩
   ·refine JC.cond_t (b := decide (x_104 < (w_.Table.length : Int))) rfl hc109 ?_
    refine JC.skip (JQ.go (JC.seq (JC.block (JC.seq (JC.region (by rfl) ?_)))))
    intro hQ
    obtain ⟨y110, hy110, hF⟩ := bind_some hF
    refine JL.indexSL (R := R_Trial) sl_46 (SL.mono R_Trial_mono hs106 hw__3) rfl hy110 .none rfl ?_
    rintro b111 o112 cs113 hc114 - rfl
    refine JL.loadH 0 az_55 rfl hc114 rfl .none rfl ?_
    refine JL.alloc ze_55 .none rfl ?_
    intro b115
    refine JL.storeOwn 0 (cs := [.int .i64 y110.Spare, .int .i64 y110.Make, .int .i64 y110.Slot, .int .i64 y110.Fits]) az_55 rfl rfl rfl (one_cons rfl (one_cons rfl (one_cons rfl (one_cons rfl one_nil)))) rfl rfl .none ?_
    refine JL.done hQ (JQ.go (JC.seq (JC.region (by rfl) ?_)))
    intro hQ
    refine JL.fieldAddr fo_55_0 rfl .none rfl ?_
    refine JL.loadOwn 0 az_3 rfl rfl rfl .none rfl ?_
    refine JL.fieldAddr fo_55_1 rfl .none rfl ?_
    refine JL.loadOwn 0 az_3 rfl rfl rfl .none rfl ?_
    refine JL.fieldAddr fo_55_2 rfl .none rfl ?_
    refine JL.loadOwn 0 az_3 rfl rfl rfl .none rfl ?_
    refine JL.build (l := [.int .i64 y110.Spare, .int .i64 y110.Make, .int .i64 y110.Slot]) (by kernel_rfl) .none rfl ?_
    refine JL.alloc ze_227 .none rfl ?_
    intro b116
    refine JL.storeOwn 0 (cs := [.int .i64 y110.Spare, .int .i64 y110.Make, .int .i64 y110.Slot]) az_227 rfl rfl rfl (one_cons rfl (one_cons rfl (one_cons rfl one_nil))) rfl rfl .none ?_
    refine JL.done hQ (JQ.go (JC.fresh (fun f => f 3 = .map (some b4) ∧ f 5 = .pointer (some ⟨b115, 0, none⟩) ∧ f 6 = .pointer (some ⟨b116, 0, none⟩) ∧ f 14 = w__v3 ∧ f 15 = .int .i64 (w_.Table.length : Int) ∧ f 16 = .int .i64 x_104) ⟨rfl, rfl, rfl, rfl, rfl, rfl⟩ ?_))
    rintro f ⟨hf3, hf5, hf6, hf14, hf15, hf16⟩
    refine (JC.norm (i := 3) hf3 (JC.norm (i := 5) hf5 (JC.norm (i := 6) hf6 (JC.norm (i := 14) hf14 (JC.norm (i := 15) hf15 (JC.norm (i := 16) hf16 ?_))))))
    refine JC.seq (JC.seq (JC.region (by rfl) ?_))
    intro hQ
    refine JL.move .none rfl ?_
    refine JL.loadOwn 0 az_227 rfl rfl rfl .none rfl ?_
    obtain ⟨u117, hu117, hF⟩ := bind_some hF
    refine JL.lookupMok (k := [y110.Spare, y110.Make, y110.Slot]) mp_225 kt_227 rfl (.own 2 rfl) hm_105 rfl hu117 .none rfl ?_
    refine JL.move .none rfl ?_
    refine JL.extract rfl rfl .none rfl ?_
    refine JL.extract rfl rfl .none rfl ?_
    refine JL.assign .none rfl ?_
    refine JL.assign .none rfl ?_
    refine JL.done hQ (JQ.go (JC.seq (JC.region (by rfl) ?_)))
    intro hQ
    refine JL.move .none rfl ?_
    refine JL.move .none rfl ?_
    refine JL.cut 5 (fun f => f 3 = .map (some b4) ∧ f 5 = .pointer (some ⟨b115, 0, none⟩) ∧ f 6 = .pointer (some ⟨b116, 0, none⟩) ∧ f 14 = w__v3 ∧ f 15 = .int .i64 (w_.Table.length : Int) ∧ f 16 = .int .i64 x_104 ∧ f 39 = .bool ((mhas m_105 [y110.Spare, y110.Make, y110.Slot]) && ((mget m_105 [y110.Spare, y110.Make, y110.Slot]) != y110.Fits))) ?_ ?_
    ·intro hJ118
     rcases bcases (mhas m_105 [y110.Spare, y110.Make, y110.Slot]) with hc119 | hc119
     ·skip
      refine JL.move (.some rfl rfl rfl hc119) rfl ?_
      refine JL.fieldAddr fo_55_3 rfl (.some rfl rfl rfl hc119) rfl ?_
      refine JL.loadOwn 1 az_3 rfl rfl rfl (.some rfl rfl rfl hc119) rfl ?_
      refine JL.bin rfl rfl rfl (.some rfl rfl rfl hc119) rfl ?_
      refine JL.pick_t (b := (mhas m_105 [y110.Spare, y110.Make, y110.Slot])) rfl hc119 .none rfl ?_
      exact hJ118 _ ⟨rfl, rfl, rfl, rfl, rfl, rfl, and_t hc119 rfl⟩
     ·skip
      refine JL.skip (.bool rfl rfl rfl hc119) rfl ?_
      refine JL.skip (.bool rfl rfl rfl hc119) rfl ?_
      refine JL.skip (.bool rfl rfl rfl hc119) rfl ?_
      refine JL.skip (.bool rfl rfl rfl hc119) rfl ?_
      refine JL.pick_f (b := (mhas m_105 [y110.Spare, y110.Make, y110.Slot])) rfl hc119 .none rfl ?_
      exact hJ118 _ ⟨rfl, rfl, rfl, rfl, rfl, rfl, and_f hc119 rfl⟩
    ·rintro f ⟨hf3, hf5, hf6, hf14, hf15, hf16, hf39⟩
     refine (JL.norm (i := 3) hf3 (JL.norm (i := 5) hf5 (JL.norm (i := 6) hf6 (JL.norm (i := 14) hf14 (JL.norm (i := 15) hf15 (JL.norm (i := 16) hf16 (JL.norm (i := 39) hf39 ?_)))))))
     refine JL.done hQ (JQ.go ?_)
     rcases ite_some hF with ⟨hc120, hF⟩ | ⟨hc120, hF⟩
     ·refine JC.cond_t (b := ((mhas m_105 [y110.Spare, y110.Make, y110.Slot]) && ((mget m_105 [y110.Spare, y110.Make, y110.Slot]) != y110.Fits))) rfl hc120 ?_
      refine JC.seq (JC.region (by rfl) ?_)
      intro hQ
      refine JL.assign .none rfl ?_
      refine JL.done hQ (JQ.go (JC.ret (JQ.ret_then (JQ.ret_block (JQ.ret_then (JQ.ret_then (JQ.ret_block (JQ.ret_join (JQ.ret_then ?_)))))))))
      obtain rfl := Option.some.inj hF
      have ehr107 := hr107 _ rfl
      subst ehr107
      have hF := hKr65
      try dsimp only at hF
      obtain rfl := Option.some.inj hF
      exact JQ.outS rfl (.tmp .nil) rfl
     ·refine JC.cond_f (b := ((mhas m_105 [y110.Spare, y110.Make, y110.Slot]) && ((mget m_105 [y110.Spare, y110.Make, y110.Slot]) != y110.Fits))) rfl hc120 ?_
      refine JC.skip (JQ.go (JC.region (by rfl) ?_))
      intro hQ
      refine JL.move .none rfl ?_
      refine JL.loadOwn 0 az_227 rfl rfl rfl .none rfl ?_
      refine JL.fieldAddr fo_55_3 rfl .none rfl ?_
      refine JL.loadOwn 1 az_3 rfl rfl rfl .none rfl ?_
      obtain ⟨u121, hu121, hF⟩ := bind_some hF
      refine JL.updateM (k := [y110.Spare, y110.Make, y110.Slot]) 2 mp_225 kt_227 rfl rfl hm_105 rfl hu121 rfl .none rfl ?_
      intro es122 ck123 hm124
      refine JL.done hQ (JQ.normal_block (JQ.go (JC.region (by rfl) ?_)))
      intro hQ
      refine JL.bin rfl rfl rfl .none rfl ?_
      refine JL.move .none rfl ?_
      refine JL.done hQ ?_
      obtain rfl := Option.some.inj hF
      refine JQ.mask [false, false, true] [] ?_
      exact JQ.next rfl ⟨es122, ck123, rfl, rfl, rfl, rfl, rfl, rfl, hm124, hs106⟩
   ·refine JC.cond_f (b := decide (x_104 < (w_.Table.length : Int))) rfl hc109 ?_
    refine JC.exit (JQ.exit_then (JQ.exit_then (JQ.exit_block ?_)))
    obtain rfl := Option.some.inj hF
    have ehr107 := hr107 _ rfl
    subst ehr107
    refine JQ.mask [false] [] ?_
    exact JQ.join () ⟨rfl, rfl, hs106, rfl⟩
  ·rintro _ H64 f bs gs ⟨rfl, rfl, hs64, rfl⟩
   have hF := hKr65
   try dsimp only at hF
   refine JQ.go (JC.seq (JC.region (by rfl) ?_))
   intro hQ
   refine JL.assign .none rfl ?_
   refine JL.done hQ (JQ.go (JC.ret ?_))
   obtain rfl := Option.some.inj hF
   exact JQ.outS rfl (.tmp .nil) rfl
-- 215 slices.Index[[]int,int]
def F_slices_Index___int_int__s1 (n : Nat) (s : List Int) (v : Int) : Int → Option (Int ⊕ (Int ⊕ Unit))
 | x_50 => if decide (x_50 < (s.length : Int)) = true then ((geti s x_50).bind fun y55 => if (v == y55) = true then (some (Sum.inr (Sum.inl x_50))) else (some (Sum.inl (w64 (x_50 + 1))))) else (some (Sum.inr (Sum.inr ())))
def F_slices_Index___int_int_ (n : Nat) (s : List Int) (v : Int) : Option Int :=
 (loopO n (F_slices_Index___int_int__s1 n s v) 0).bind fun r31 => match r31 with | .inl o => some o | .inr _ => some (-1)
theorem c_slices_Index___int_int_ (n : Nat) (H : Hp) (s : List Int) (s_v0 : Value) (hs_0 : SL H 1 RInt s_v0 s) (v : Int) (y : Int) (hF : F_slices_Index___int_int_ n s v = some y) : SC Try.prog 215 [s_v0, .int .i64 v] (.int .i64 y) H := by
 rw [F_slices_Index___int_int_] at hF
 refine SC.of (N := 19) Try.func215 rfl rfl rfl fun w => ?_
 refine JC.seq (JC.region (by rfl) ?_)
 intro hQ
 refine JL.assign .none rfl ?_
 refine JL.done hQ (JQ.go (JC.seq (JC.seq (JC.region (by rfl) ?_))))
 intro hQ
 refine JL.move .none rfl ?_
 refine JL.lenSL (R := RInt) ul_23 hs_0 .none rfl ?_
 refine JL.move .none rfl ?_
 refine JL.done hQ (JQ.go ?_)
 obtain ⟨r31, hlr31, hKr31⟩ := bind_some hF
 refine JC.join (fun (_ : Unit) H30 f bs gs => bs = [] ∧ gs = [] ∧ HSub H H30 ∧ Sum.inr () = r31) ?_ ?_
 ·skip
  refine JC.block (JC.loop hlr31 (fun (x_50 : Int) H51 f bs gs => f 0 = s_v0 ∧ f 1 = .int .i64 v ∧ f 7 = .int .i64 (s.length : Int) ∧ f 8 = .int .i64 x_50 ∧ bs = [] ∧ gs = [] ∧ HSub H H51) ⟨rfl, rfl, rfl, rfl, rfl, rfl, (HSub.refl _)⟩ ?_)
  rintro x_50 x53 H51 f bs gs ⟨hf0, hf1, hf7, hf8, rfl, rfl, hs51⟩ hF hr52
  rw [F_slices_Index___int_int__s1] at hF
  refine (JC.norm (i := 0) hf0 (JC.norm (i := 1) hf1 (JC.norm (i := 7) hf7 (JC.norm (i := 8) hf8 ?_))))
  refine JC.seq (JC.region (by rfl) ?_)
  intro hQ
  refine JL.bin rfl rfl rfl .none rfl ?_
  refine JL.done hQ (JQ.go (JC.seq ?_))
  rcases ite_some hF with ⟨hc54, hF⟩ | ⟨hc54, hF⟩
  ·refine JC.cond_t (b := decide (x_50 < (s.length : Int))) rfl hc54 ?_
   refine JC.skip (JQ.go (JC.seq (JC.block (JC.seq (JC.region (by rfl) ?_)))))
   intro hQ
   refine JL.move .none rfl ?_
   refine JL.assign .none rfl ?_
   refine JL.done hQ (JQ.go (JC.seq (JC.region (by rfl) ?_)))
   intro hQ
   refine JL.move .none rfl ?_
   refine JL.move .none rfl ?_
   refine JL.move .none rfl ?_
   obtain ⟨y55, hy55, hF⟩ := bind_some hF
   refine JL.indexSL (R := RInt) sl_23 (SL.mono RInt.mono hs51 hs_0) rfl hy55 .none rfl ?_
   rintro b56 o57 cs58 hc59 - rfl
   refine JL.loadH 0 az_3 rfl hc59 rfl .none rfl ?_
   refine JL.bin rfl rfl rfl .none rfl ?_
   refine JL.done hQ (JQ.go ?_)
   rcases ite_some hF with ⟨hc60, hF⟩ | ⟨hc60, hF⟩
   ·refine JC.cond_t (b := (v == y55)) rfl hc60 ?_
    refine JC.seq (JC.region (by rfl) ?_)
    intro hQ
    refine JL.move .none rfl ?_
    refine JL.assign .none rfl ?_
    refine JL.done hQ (JQ.go (JC.fresh (fun f => f 4 = .int .i64 x_50) rfl ?_))
    rintro f hf4
    refine (JC.norm (i := 4) hf4 ?_)
    refine JC.ret (JQ.ret_block (JQ.ret_then (JQ.ret_then (JQ.ret_block (JQ.ret_join (JQ.ret_then ?_))))))
    obtain rfl := Option.some.inj hF
    have ehr52 := hr52 _ rfl
    subst ehr52
    have hF := hKr31
    try dsimp only at hF
    obtain rfl := Option.some.inj hF
    exact JQ.outS rfl (.tmp .nil) rfl
   ·refine JC.cond_f (b := (v == y55)) rfl hc60 ?_
    refine JC.skip (JQ.normal_block (JQ.go (JC.region (by rfl) ?_)))
    intro hQ
    refine JL.bin rfl rfl rfl .none rfl ?_
    refine JL.move .none rfl ?_
    refine JL.done hQ ?_
    obtain rfl := Option.some.inj hF
    exact JQ.next rfl ⟨rfl, rfl, rfl, rfl, rfl, rfl, hs51⟩
  ·refine JC.cond_f (b := decide (x_50 < (s.length : Int))) rfl hc54 ?_
   refine JC.exit (JQ.exit_then (JQ.exit_then (JQ.exit_block ?_)))
   obtain rfl := Option.some.inj hF
   have ehr52 := hr52 _ rfl
   subst ehr52
   exact JQ.join () ⟨rfl, rfl, hs51, rfl⟩
 ·rintro _ H30 f bs gs ⟨rfl, rfl, hs30, rfl⟩
  have hF := hKr31
  try dsimp only at hF
  refine JQ.go (JC.seq (JC.region (by rfl) ?_))
  intro hQ
  refine JL.assign .none rfl ?_
  refine JL.done hQ (JQ.go (JC.ret ?_))
  obtain rfl := Option.some.inj hF
  exact JQ.outS rfl (.tmp .nil) rfl
-- 171 slices.Contains[[]int,int]
def F_slices_Contains___int_int_ (n : Nat) (s : List Int) (v : Int) : Option Bool :=
 (F_slices_Index___int_int_ n s v).bind fun y1 => some (decide (0 ≤ y1))
theorem c_slices_Contains___int_int_ (n : Nat) (H : Hp) (s : List Int) (s_v0 : Value) (hs_0 : SL H 1 RInt s_v0 s) (v : Int) (y : Bool) (hF : F_slices_Contains___int_int_ n s v = some y) : SC Try.prog 171 [s_v0, .int .i64 v] (.bool y) H := by
 rw [F_slices_Contains___int_int_] at hF
 refine SC.of (N := 9) Try.func171 rfl rfl rfl fun w => ?_
 refine JC.seq (JC.region (by rfl) ?_)
 intro hQ
 refine JL.assign .none rfl ?_
 refine JL.done hQ (JQ.go (JC.seq (JC.region (by rfl) ?_)))
 intro hQ
 refine JL.move .none rfl ?_
 refine JL.move .none rfl ?_
 obtain ⟨y1, hy1, hF⟩ := bind_some hF
 refine JL.callS (c_slices_Index___int_int_ n H s s_v0 hs_0 v y1 hy1) rfl en_215 .none rfl ?_
 refine JL.bin rfl rfl rfl .none rfl ?_
 refine JL.assign .none rfl ?_
 refine JL.done hQ (JQ.go (JC.ret ?_))
 obtain rfl := Option.some.inj hF
 exact JQ.outS rfl (.tmp .nil) rfl
-- 121 ferrule/parts.fits
def F_parts_fits (n : Nat) (w_ : Workshop) (spare : Int) (length : Int) (maker : Int) (slot : Int) : Option Bool :=
 (geti w_.Spares spare).bind fun y17 => (geti w_.Makes maker).bind fun y22 => (geti y22.Slots slot).bind fun y27 => (if (y17.Kind == y27.Kind) = true then ((F_slices_Contains___int_int_ n y27.Sections y17.Section).bind fun y68 => some y68) else (some false) : Option Bool).bind fun p65 => (if p65 = true then ((F_parts_within n length y27.Length.Low (w64 (y27.Length.High + w_.Cut))).bind fun y73 => some y73) else (some false) : Option Bool).bind fun p70 => some p70
theorem c_parts_fits (n : Nat) (H : Hp) (w_ : Workshop) (w__v0 : Value) (hw__0 : SL H 4 R_Spare w__v0 w_.Spares) (w__v1 : Value) (hw__1 : SL H 1 R_Make w__v1 w_.Makes) (w__v3 : Value) (hw__3 : SL H 4 R_Trial w__v3 w_.Table) (spare : Int) (length : Int) (maker : Int) (slot : Int) (y : Bool) (hF : F_parts_fits n w_ spare length maker slot = some y) : SC Try.prog 121 [.agg [w__v0, w__v1, .int .i64 w_.Cut, w__v3].toArray, .int .i64 spare, .int .i64 length, .int .i64 maker, .int .i64 slot] (.bool y) H := by
 rw [F_parts_fits] at hF
 refine SC.of (N := 52) Try.func121 rfl rfl rfl fun w => ?_
 refine JC.seq (JC.region (by rfl) ?_)
 intro hQ
 refine JL.box (cs := [w__v0, w__v1, .int .i64 w_.Cut, w__v3]) rfl .none rfl ?_
 intro b1
 refine JL.assign .none rfl ?_
 refine JL.done hQ (JQ.go (JC.seq ?_))
 obtain ⟨y17, hy17, hF⟩ := bind_some hF
 obtain ⟨y22, hy22, hF⟩ := bind_some hF
 obtain ⟨y27, hy27, hF⟩ := bind_some hF
 refine JC.mixed 18 18 #[false, false, false, false, false, false, false, false, false, false, false, false, false, false, false, false, false, false] [(b1, .cells [w__v0, w__v1, .int .i64 w_.Cut, w__v3].toArray 48)] (by rfl) mo_ (by kernel_rfl) (by kernel_rfl) ?_
 intro hQ hE
 refine JA.cut 2 #[true, true, true, true, true, true, true, true, true, true, true, true, true, true, true, true, false, false] (fun H62 f bs gs => ∃ (b60 : Nat) (b58 : Nat) (y27_v1 : Value), f 2 = .int .i64 length ∧ f 5 = .pointer (some ⟨b1, 0, none⟩) ∧ f 11 = .pointer (some ⟨b58, 0, none⟩) ∧ f 12 = .pointer (some ⟨b60, 0, none⟩) ∧ f 17 = .agg [.int .i64 y17.Kind, .int .i64 y17.Section, .int .i64 y17.Length.Low, .int .i64 y17.Length.High].toArray ∧ f 26 = .agg [.int .i64 y27.Kind, y27_v1, .int .i64 y27.Length.Low, .int .i64 y27.Length.High].toArray ∧ bs = [(b60, .cells [.int .i64 0, .slice none 0 0, .int .i64 0, .int .i64 0].toArray 129), (b58, .cells [.int .i64 0, .int .i64 0, .int .i64 0, .int .i64 0].toArray 131), (b1, .cells [w__v0, w__v1, .int .i64 w_.Cut, w__v3].toArray 48)] ∧ gs = [] ∧ SL H62 1 RInt y27_v1 y27.Sections ∧ HSub H H62) ?_ ?_
 ·rintro H62 f bs gs ⟨b60, b58, y27_v1, hf2, hf5, hf11, hf12, hf17, hf26, rfl, rfl, hm63, hs62⟩
  refine (JA.norm (i := 2) hf2 (JA.norm (i := 5) hf5 (JA.norm (i := 11) hf11 (JA.norm (i := 12) hf12 (JA.norm (i := 17) hf17 (JA.norm (i := 26) hf26 ?_))))))
  refine JA.many [16] (by kernel_rfl) (by simp) (all_one ⟨_, #[true, true, true, true, true, true, true, true, true, true, true, true, true, true, true, true, true, false], rfl, (by kernel_rfl), ?_⟩)
  refine JL.storeOwn 1 (cs := [.int .i64 y17.Kind, .int .i64 y17.Section, .int .i64 y17.Length.Low, .int .i64 y17.Length.High]) az_131 rfl rfl rfl (one_cons rfl (one_cons rfl (one_cons rfl (one_cons rfl one_nil)))) rfl rfl .none ?_
  refine JA.after hE hs62 (.cons _ (.cons _ (.cons_cons _ (List.nil_sublist _)))) ?_
  refine JA.many [17] (by kernel_rfl) (by simp) (all_one ⟨_, #[true, true, true, true, true, true, true, true, true, true, true, true, true, true, true, true, true, true], rfl, (by kernel_rfl), ?_⟩)
  refine JL.storeOwn 0 (cs := [.int .i64 y27.Kind, y27_v1, .int .i64 y27.Length.Low, .int .i64 y27.Length.High]) az_129 rfl rfl rfl (one_cons rfl (one_cons (SL.one hm63) (one_cons rfl (one_cons rfl one_nil)))) rfl rfl .none ?_
  refine JA.after hE hs62 (.cons _ (.cons _ (.cons_cons _ (List.nil_sublist _)))) ?_
  refine JA.done hQ (by kernel_rfl) ?_
  refine JQ.go (JC.seq (JC.region (by rfl) ?_))
  intro hQ
  refine JL.fieldAddr fo_131_0 rfl .none rfl ?_
  refine JL.loadOwn 1 az_3 rfl rfl rfl .none rfl ?_
  refine JL.fieldAddr fo_129_0 rfl .none rfl ?_
  refine JL.loadOwn 0 az_3 rfl rfl rfl .none rfl ?_
  refine JL.bin rfl rfl rfl .none rfl ?_
  refine JL.move .none rfl ?_
  obtain ⟨p65, hp65, hF⟩ := bind_some hF
  refine JL.cut 6 (fun f => f 2 = .int .i64 length ∧ f 5 = .pointer (some ⟨b1, 0, none⟩) ∧ f 12 = .pointer (some ⟨b60, 0, none⟩) ∧ f 38 = .bool p65) ?_ ?_
  ·intro hJ66
   rcases ite_some hp65 with ⟨hc67, hF⟩ | ⟨hc67, hF⟩
   ·skip
    refine JL.fieldAddr fo_129_1 rfl (.some rfl rfl rfl hc67) rfl ?_
    refine JL.loadOwn 0 az_23 rfl rfl rfl (.some rfl rfl rfl hc67) rfl ?_
    refine JL.fieldAddr fo_131_1 rfl (.some rfl rfl rfl hc67) rfl ?_
    refine JL.loadOwn 1 az_3 rfl rfl rfl (.some rfl rfl rfl hc67) rfl ?_
    obtain ⟨y68, hy68, hF⟩ := bind_some hF
    refine JL.callS (c_slices_Contains___int_int_ n H62 y27.Sections y27_v1 hm63 y17.Section y68 hy68) rfl en_171 (.some rfl rfl rfl hc67) rfl ?_
    refine JL.pick_t (b := (y17.Kind == y27.Kind)) rfl hc67 .none rfl ?_
    obtain rfl := Option.some.inj hF
    exact hJ66 _ ⟨rfl, rfl, rfl, rfl⟩
   ·skip
    refine JL.skip (.bool rfl rfl rfl hc67) rfl ?_
    refine JL.skip (.bool rfl rfl rfl hc67) rfl ?_
    refine JL.skip (.bool rfl rfl rfl hc67) rfl ?_
    refine JL.skip (.bool rfl rfl rfl hc67) rfl ?_
    refine JL.skip (.bool rfl rfl rfl hc67) rfl ?_
    refine JL.pick_f (b := (y17.Kind == y27.Kind)) rfl hc67 .none rfl ?_
    obtain rfl := Option.some.inj hF
    exact hJ66 _ ⟨rfl, rfl, rfl, rfl⟩
  ·rintro f ⟨hf2, hf5, hf12, hf38⟩
   refine (JL.norm (i := 2) hf2 (JL.norm (i := 5) hf5 (JL.norm (i := 12) hf12 (JL.norm (i := 38) hf38 ?_))))
   refine JL.move .none rfl ?_
   obtain ⟨p70, hp70, hF⟩ := bind_some hF
   refine JL.cut 12 (fun f => f 51 = .bool p70) ?_ ?_
   ·intro hJ71
    rcases ite_some hp70 with ⟨hc72, hF⟩ | ⟨hc72, hF⟩
    ·skip
     refine JL.move (.some rfl rfl rfl hc72) rfl ?_
     refine JL.fieldAddr fo_129_2 rfl (.some rfl rfl rfl hc72) rfl ?_
     refine JL.fieldAddr fo_39_0 rfl (.some rfl rfl rfl hc72) rfl ?_
     refine JL.loadOwn 0 az_3 rfl rfl rfl (.some rfl rfl rfl hc72) rfl ?_
     refine JL.fieldAddr fo_129_2 rfl (.some rfl rfl rfl hc72) rfl ?_
     refine JL.fieldAddr fo_39_1 rfl (.some rfl rfl rfl hc72) rfl ?_
     refine JL.loadOwn 0 az_3 rfl rfl rfl (.some rfl rfl rfl hc72) rfl ?_
     refine JL.fieldAddr fo_48_2 rfl (.some rfl rfl rfl hc72) rfl ?_
     refine JL.loadOwn 2 az_3 rfl rfl rfl (.some rfl rfl rfl hc72) rfl ?_
     refine JL.bin rfl rfl rfl (.some rfl rfl rfl hc72) rfl ?_
     obtain ⟨y73, hy73, hF⟩ := bind_some hF
     refine JL.callS (c_parts_within n H62 length y27.Length.Low (w64 (y27.Length.High + w_.Cut)) y73 hy73) rfl en_123 (.some rfl rfl rfl hc72) rfl ?_
     refine JL.pick_t (b := p65) rfl hc72 .none rfl ?_
     obtain rfl := Option.some.inj hF
     exact hJ71 _ (rfl)
    ·skip
     refine JL.skip (.bool rfl rfl rfl hc72) rfl ?_
     refine JL.skip (.bool rfl rfl rfl hc72) rfl ?_
     refine JL.skip (.bool rfl rfl rfl hc72) rfl ?_
     refine JL.skip (.bool rfl rfl rfl hc72) rfl ?_
     refine JL.skip (.bool rfl rfl rfl hc72) rfl ?_
     refine JL.skip (.bool rfl rfl rfl hc72) rfl ?_
     refine JL.skip (.bool rfl rfl rfl hc72) rfl ?_
     refine JL.skip (.bool rfl rfl rfl hc72) rfl ?_
     refine JL.skip (.bool rfl rfl rfl hc72) rfl ?_
     refine JL.skip (.bool rfl rfl rfl hc72) rfl ?_
     refine JL.skip (.bool rfl rfl rfl hc72) rfl ?_
     refine JL.pick_f (b := p65) rfl hc72 .none rfl ?_
     obtain rfl := Option.some.inj hF
     exact hJ71 _ (rfl)
   ·rintro f hf51
    refine (JL.norm (i := 51) hf51 ?_)
    refine JL.assign .none rfl ?_
    refine JL.done hQ (JQ.go (JC.ret ?_))
    obtain rfl := Option.some.inj hF
    exact JQ.outS rfl (.tmp .nil) rfl
 intro nd61_0
 refine JA.take 0 (listed' := #[true, false, false, false, false, false, false, false, false, false, false, false, false, false, false, false, false, false]) hQ rfl (by kernel_rfl) (by kernel_rfl) (by kernel_rfl) (by kernel_rfl) (by kernel_rfl) hE (HSub.refl _) (.cons_cons _ (List.nil_sublist _)) ?_
 refine JL.fieldAddr fo_48_0 rfl .none rfl ?_
 refine JA.cont ?_
 refine JA.take 1 (listed' := #[true, true, false, false, false, false, false, false, false, false, false, false, false, false, false, false, false, false]) hQ rfl (by kernel_rfl) (by kernel_rfl) (by kernel_rfl) (by kernel_rfl) (by kernel_rfl) hE (HSub.refl _) (.cons_cons _ (List.nil_sublist _)) ?_
 refine JL.loadOwn 0 az_44 rfl rfl rfl .none rfl ?_
 refine JA.cont ?_
 refine JA.take 2 (listed' := #[true, true, true, false, false, false, false, false, false, false, false, false, false, false, false, false, false, false]) hQ rfl (by kernel_rfl) (by kernel_rfl) (by kernel_rfl) (by kernel_rfl) (by kernel_rfl) hE (HSub.refl _) (.cons_cons _ (List.nil_sublist _)) ?_
 refine JL.move .none rfl ?_
 refine JA.cont ?_
 refine JA.take 3 (listed' := #[true, true, true, true, false, false, false, false, false, false, false, false, false, false, false, false, false, false]) hQ rfl (by kernel_rfl) (by kernel_rfl) (by kernel_rfl) (by kernel_rfl) (by kernel_rfl) hE (HSub.refl _) (.cons_cons _ (List.nil_sublist _)) ?_
 refine JL.indexSL (R := R_Spare) sl_44 hw__0 rfl hy17 .none rfl ?_
 rintro b78 o79 cs80 hc81 - rfl
 refine JA.cont ?_
 refine JA.take 4 (listed' := #[true, true, true, true, true, false, false, false, false, false, false, false, false, false, false, false, false, false]) hQ rfl (by kernel_rfl) (by kernel_rfl) (by kernel_rfl) (by kernel_rfl) (by kernel_rfl) hE (HSub.refl _) (.cons_cons _ (List.nil_sublist _)) ?_
 refine JL.loadH 0 az_131 rfl hc81 rfl .none rfl ?_
 refine JA.cont ?_
 refine JA.take 5 (listed' := #[true, true, true, true, true, true, false, false, false, false, false, false, false, false, false, false, false, false]) hQ rfl (by kernel_rfl) (by kernel_rfl) (by kernel_rfl) (by kernel_rfl) (by kernel_rfl) hE (HSub.refl _) (.cons_cons _ (List.nil_sublist _)) ?_
 refine JL.fieldAddr fo_48_1 rfl .none rfl ?_
 refine JA.cont ?_
 refine JA.take 6 (listed' := #[true, true, true, true, true, true, true, false, false, false, false, false, false, false, false, false, false, false]) hQ rfl (by kernel_rfl) (by kernel_rfl) (by kernel_rfl) (by kernel_rfl) (by kernel_rfl) hE (HSub.refl _) (.cons_cons _ (List.nil_sublist _)) ?_
 refine JL.loadOwn 0 az_45 rfl rfl rfl .none rfl ?_
 refine JA.cont ?_
 refine JA.take 7 (listed' := #[true, true, true, true, true, true, true, true, false, false, false, false, false, false, false, false, false, false]) hQ rfl (by kernel_rfl) (by kernel_rfl) (by kernel_rfl) (by kernel_rfl) (by kernel_rfl) hE (HSub.refl _) (.cons_cons _ (List.nil_sublist _)) ?_
 refine JL.move .none rfl ?_
 refine JA.cont ?_
 refine JA.take 8 (listed' := #[true, true, true, true, true, true, true, true, true, false, false, false, false, false, false, false, false, false]) hQ rfl (by kernel_rfl) (by kernel_rfl) (by kernel_rfl) (by kernel_rfl) (by kernel_rfl) hE (HSub.refl _) (.cons_cons _ (List.nil_sublist _)) ?_
 refine JL.indexSL (R := R_Make) sl_45 hw__1 rfl hy22 .none rfl ?_
 rintro b86 o87 cs88 hc89 - ⟨y22_v0, rfl, hy22_0⟩
 refine JA.cont ?_
 refine JA.take 9 (listed' := #[true, true, true, true, true, true, true, true, true, true, false, false, false, false, false, false, false, false]) hQ rfl (by kernel_rfl) (by kernel_rfl) (by kernel_rfl) (by kernel_rfl) (by kernel_rfl) hE (HSub.refl _) (.cons_cons _ (List.nil_sublist _)) ?_
 refine JL.fieldAddr fo_127_0 rfl .none rfl ?_
 refine JA.cont ?_
 refine JA.take 10 (listed' := #[true, true, true, true, true, true, true, true, true, true, true, false, false, false, false, false, false, false]) hQ rfl (by kernel_rfl) (by kernel_rfl) (by kernel_rfl) (by kernel_rfl) (by kernel_rfl) hE (HSub.refl _) (.cons_cons _ (List.nil_sublist _)) ?_
 refine JL.loadH 0 az_125 rfl hc89 rfl .none rfl ?_
 refine JA.cont ?_
 refine JA.take 11 (listed' := #[true, true, true, true, true, true, true, true, true, true, true, true, false, false, false, false, false, false]) hQ rfl (by kernel_rfl) (by kernel_rfl) (by kernel_rfl) (by kernel_rfl) (by kernel_rfl) hE (HSub.refl _) (.cons_cons _ (List.nil_sublist _)) ?_
 refine JL.move .none rfl ?_
 refine JA.cont ?_
 refine JA.take 12 (listed' := #[true, true, true, true, true, true, true, true, true, true, true, true, true, false, false, false, false, false]) hQ rfl (by kernel_rfl) (by kernel_rfl) (by kernel_rfl) (by kernel_rfl) (by kernel_rfl) hE (HSub.refl _) (.cons_cons _ (List.nil_sublist _)) ?_
 refine JL.indexSL (R := R_Slot) sl_125 hy22_0 rfl hy27 .none rfl ?_
 rintro b94 o95 cs96 hc97 - ⟨y27_v1, rfl, hy27_1⟩
 refine JA.cont ?_
 refine JA.take 13 (listed' := #[true, true, true, true, true, true, true, true, true, true, true, true, true, true, false, false, false, false]) hQ rfl (by kernel_rfl) (by kernel_rfl) (by kernel_rfl) (by kernel_rfl) (by kernel_rfl) hE (HSub.refl _) (.cons_cons _ (List.nil_sublist _)) ?_
 refine JL.loadH 0 az_129 rfl hc97 rfl .none rfl ?_
 refine JA.cont ?_
 refine JA.many [14, 15] (by kernel_rfl) (by simp) (all_cons ⟨_, #[true, true, true, true, true, true, true, true, true, true, true, true, true, true, true, false, false, false], rfl, (by kernel_rfl), ?_⟩ (all_one ⟨_, #[true, true, true, true, true, true, true, true, true, true, true, true, true, true, false, true, false, false], rfl, (by kernel_rfl), ?_⟩))
 ·skip
  refine JL.alloc ze_131 .none rfl ?_
  intro b98
  refine JA.after hE (HSub.refl _) (.cons _ (.cons_cons _ (List.nil_sublist _))) ?_
  refine JA.many [15] (by kernel_rfl) (by simp) (all_one ⟨_, #[true, true, true, true, true, true, true, true, true, true, true, true, true, true, true, true, false, false], rfl, (by kernel_rfl), ?_⟩)
  refine JL.alloc ze_129 .none rfl ?_
  intro b99
  refine JA.after hE (HSub.refl _) (.cons _ (.cons _ (.cons_cons _ (List.nil_sublist _)))) ?_
  exact nd61_0 _ _ _ _ ⟨b99, b98, y27_v1, rfl, rfl, rfl, rfl, rfl, rfl, rfl, rfl, hy27_1, (HSub.refl _)⟩
 ·skip
  refine JL.alloc ze_129 .none rfl ?_
  intro b100
  refine JA.after hE (HSub.refl _) (.cons _ (.cons_cons _ (List.nil_sublist _))) ?_
  refine JA.many [14] (by kernel_rfl) (by simp) (all_one ⟨_, #[true, true, true, true, true, true, true, true, true, true, true, true, true, true, true, true, false, false], rfl, (by kernel_rfl), ?_⟩)
  refine JL.alloc ze_131 .none rfl ?_
  intro b101
  refine JA.after hE (HSub.refl _) (.cons _ (.cons _ (.cons_cons _ (List.nil_sublist _)))) ?_
  refine JA.perm (swapAt_perm 0 _) ?_
  exact nd61_0 _ _ _ _ ⟨b100, b101, y27_v1, rfl, rfl, rfl, rfl, rfl, rfl, rfl, rfl, hy27_1, (HSub.refl _)⟩
-- 120 ferrule/parts.open$1
def F_parts_open_1 (n : Nat) (t : Trial) (c_0 : Int) (c_1 : Workshop) (c_2 : Int) : Option Bool :=
 (if (t.Spare != c_0) = true then (some true) else ((F_parts_fits n c_1 c_0 c_2 t.Make t.Slot).bind fun y11 => some (y11 == (t.Fits == 1))) : Option Bool).bind fun p8 => some p8
theorem c_parts_open_1 (n : Nat) (H : Hp) (t : Trial) (c_0 : Int) (c_0_b : Nat) (c_0_c : Cells H c_0_b 0 [.int .i64 c_0]) (c_1 : Workshop) (c_1_v0 : Value) (hc_1_0 : SL H 4 R_Spare c_1_v0 c_1.Spares) (c_1_v1 : Value) (hc_1_1 : SL H 1 R_Make c_1_v1 c_1.Makes) (c_1_v3 : Value) (hc_1_3 : SL H 4 R_Trial c_1_v3 c_1.Table) (c_1_b : Nat) (c_1_c : Cells H c_1_b 0 [c_1_v0, c_1_v1, .int .i64 c_1.Cut, c_1_v3]) (c_2 : Int) (c_2_b : Nat) (c_2_c : Cells H c_2_b 0 [.int .i64 c_2]) (y : Bool) (hF : F_parts_open_1 n t c_0 c_1 c_2 = some y) : SC Try.prog 120 [.agg [.int .i64 t.Spare, .int .i64 t.Make, .int .i64 t.Slot, .int .i64 t.Fits].toArray, .pointer (some ⟨c_0_b, 0, none⟩), .pointer (some ⟨c_1_b, 0, none⟩), .pointer (some ⟨c_2_b, 0, none⟩)] (.bool y) H := by
 rw [F_parts_open_1] at hF
 refine SC.of (N := 24) Try.func120 rfl rfl rfl fun w => ?_
 refine JC.seq (JC.region (by rfl) ?_)
 intro hQ
 refine JL.box (cs := [.int .i64 t.Spare, .int .i64 t.Make, .int .i64 t.Slot, .int .i64 t.Fits]) rfl .none rfl ?_
 intro b1
 refine JL.assign .none rfl ?_
 refine JL.done hQ (JQ.go (JC.seq (JC.draw (by rfl) mo_ (by kernel_rfl) ?_)))
 intro hQ
 refine JL.fieldAddr fo_55_0 rfl .none rfl ?_
 refine JL.loadOwn 0 az_3 rfl rfl rfl .none rfl ?_
 refine JL.loadH 0 az_3 rfl c_0_c rfl .none rfl ?_
 refine JL.bin rfl rfl rfl .none rfl ?_
 refine JL.move .none rfl ?_
 obtain ⟨p8, hp8, hF⟩ := bind_some hF
 refine JL.cut 13 (fun f => f 23 = .bool p8) ?_ ?_
 ·intro hJ9
  rcases ite_some hp8 with ⟨hc10, hF⟩ | ⟨hc10, hF⟩
  ·skip
   refine JL.skip (.bool rfl rfl rfl hc10) rfl ?_
   refine JL.skip (.bool rfl rfl rfl hc10) rfl ?_
   refine JL.skip (.bool rfl rfl rfl hc10) rfl ?_
   refine JL.skip (.bool rfl rfl rfl hc10) rfl ?_
   refine JL.skip (.bool rfl rfl rfl hc10) rfl ?_
   refine JL.skip (.bool rfl rfl rfl hc10) rfl ?_
   refine JL.skip (.bool rfl rfl rfl hc10) rfl ?_
   refine JL.skip (.bool rfl rfl rfl hc10) rfl ?_
   refine JL.skip (.bool rfl rfl rfl hc10) rfl ?_
   refine JL.skip (.bool rfl rfl rfl hc10) rfl ?_
   refine JL.skip (.bool rfl rfl rfl hc10) rfl ?_
   refine JL.skip (.bool rfl rfl rfl hc10) rfl ?_
   refine JL.pick_t (b := (t.Spare != c_0)) rfl hc10 .none rfl ?_
   obtain rfl := Option.some.inj hF
   exact hJ9 _ (rfl)
  ·skip
   refine JL.loadH 0 az_48 rfl c_1_c rfl (.some rfl rfl rfl hc10) rfl ?_
   refine JL.loadH 0 az_3 rfl c_0_c rfl (.some rfl rfl rfl hc10) rfl ?_
   refine JL.loadH 0 az_3 rfl c_2_c rfl (.some rfl rfl rfl hc10) rfl ?_
   refine JL.fieldAddr fo_55_1 rfl (.some rfl rfl rfl hc10) rfl ?_
   refine JL.loadOwn 0 az_3 rfl rfl rfl (.some rfl rfl rfl hc10) rfl ?_
   refine JL.fieldAddr fo_55_2 rfl (.some rfl rfl rfl hc10) rfl ?_
   refine JL.loadOwn 0 az_3 rfl rfl rfl (.some rfl rfl rfl hc10) rfl ?_
   obtain ⟨y11, hy11, hF⟩ := bind_some hF
   refine JL.callS (c_parts_fits n H c_1 c_1_v0 hc_1_0 c_1_v1 hc_1_1 c_1_v3 hc_1_3 c_0 c_2 t.Make t.Slot y11 hy11) rfl en_121 (.some rfl rfl rfl hc10) rfl ?_
   refine JL.fieldAddr fo_55_3 rfl (.some rfl rfl rfl hc10) rfl ?_
   refine JL.loadOwn 0 az_3 rfl rfl rfl (.some rfl rfl rfl hc10) rfl ?_
   refine JL.bin rfl rfl rfl (.some rfl rfl rfl hc10) rfl ?_
   refine JL.eqBool ub_4 rfl rfl (.some rfl rfl rfl hc10) rfl ?_
   refine JL.pick_f (b := (t.Spare != c_0)) rfl hc10 .none rfl ?_
   obtain rfl := Option.some.inj hF
   exact hJ9 _ (rfl)
 ·rintro f hf23
  refine (JL.norm (i := 23) hf23 ?_)
  refine JL.assign .none rfl ?_
  refine JL.doneQ hQ ?_
  refine JQ.go (JC.ret ?_)
  obtain rfl := Option.some.inj hF
  exact JQ.outS rfl (.tmp .nil) rfl
end Go.Proofs.Yteihdclpiekmaaa
end
section
set_option maxRecDepth 100000
set_option maxHeartbeats 40000000
namespace Go.Proofs.Yteihdclpiekmaaa
open Go Go.RowKit Go.Dec
set_option linter.unusedVariables false
-- 71 ferrule/parts.open
def F_parts_open_s2 (n : Nat) (w_ : Workshop) (x_1687 : Int) (y1693 : Spare) : Int × List Int → Option ((Int × List Int) ⊕ (List Int))
 | (z_1884, out_1885) => if decide (z_1884 ≤ y1693.Length.High) = true then ((F_parts_all_api_Trial_ n w_.Table (fun a0_ => F_parts_open_1 n a0_ x_1687 w_ z_1884)).bind fun y1892 => (if y1892 = true then ((lim (out_1885 ++ [z_1884])).bind fun l1904 => some l1904) else (some out_1885)).bind fun out_1899 => some (Sum.inl ((w64 (z_1884 + 1)), out_1899))) else (some (Sum.inr out_1885))
def F_parts_open_s1 (n : Nat) (w_ : Workshop) : Int × List (List Int) → Option ((Int × List (List Int)) ⊕ (((Option parts_shop) × Int) ⊕ (List (List Int))))
 | (x_1687, out_1688) => if decide (x_1687 < (w_.Spares.length : Int)) = true then ((geti w_.Spares x_1687).bind fun y1693 => (loopO n (F_parts_open_s2 n w_ x_1687 y1693) (y1693.Length.Low, ([] : List Int))).bind fun out_1835 => if ((out_1835.length : Int) == 0) = true then (some (Sum.inr (Sum.inl ((none : Option parts_shop), 3)))) else ((lim (out_1688 ++ [out_1835])).bind fun l1915 => some (Sum.inl ((w64 (x_1687 + 1)), l1915)))) else (some (Sum.inr (Sum.inr out_1688)))
def F_parts_open (n : Nat) (w_ : Workshop) (is : Bool) : Option ((Option parts_shop) × Int) :=
 (F_parts_Check n w_).bind fun y2 => if (y2 != 0) = true then (some ((none : Option parts_shop), y2)) else (if (!is) = true then (some ((none : Option parts_shop), 1)) else ((loopO n (F_parts_open_s1 n w_) (0, ([] : List (List Int)))).bind fun r1220 => match r1220 with | .inl o => some o | .inr out_1218 => some ((some (parts_shop.mk w_ out_1218)), 0)))
theorem c_parts_open (n : Nat) (H : Hp) (w_ : Workshop) (w__v0 : Value) (hw__0 : SL H 4 R_Spare w__v0 w_.Spares) (w__v1 : Value) (hw__1 : SL H 1 R_Make w__v1 w_.Makes) (w__v3 : Value) (hw__3 : SL H 4 R_Trial w__v3 w_.Table) (is : Bool) (y : (Option parts_shop) × Int) (hF : F_parts_open n w_ is = some y) : HC Try.prog 71 [.agg [w__v0, w__v1, .int .i64 w_.Cut, w__v3].toArray, .bool is] H (fun H' v => ∃ ra_v0 : Value, v = .tuple [ra_v0, .int .i64 y.2].toArray ∧ PT H' R_parts_shop ra_v0 y.1) := by
 rw [F_parts_open] at hF
 refine HC.of (N := 66) Try.func71 rfl rfl rfl fun w => ?_
 refine JC.seq (JC.region (by rfl) ?_)
 intro hQ
 refine JL.box (cs := [w__v0, w__v1, .int .i64 w_.Cut, w__v3]) rfl .none rfl ?_
 intro b1
 refine JL.assign .none rfl ?_
 refine JL.assign .none rfl ?_
 refine JL.done hQ (JQ.go (JC.seq (JC.seq (JC.region (by rfl) ?_))))
 intro hQ
 refine JL.loadOwn 0 az_48 rfl rfl rfl .none rfl ?_
 obtain ⟨y2, hy2, hF⟩ := bind_some hF
 refine JL.callS (c_parts_Check n H w_ w__v0 hw__0 w__v1 hw__1 w__v3 hw__3 y2 hy2) rfl en_119 .none rfl ?_
 refine JL.assign .none rfl ?_
 refine JL.done hQ (JQ.go (JC.seq (JC.region (by rfl) ?_)))
 intro hQ
 refine JL.move .none rfl ?_
 refine JL.bin rfl rfl rfl .none rfl ?_
 refine JL.done hQ (JQ.go ?_)
 rcases ite_some hF with ⟨hc3, hF⟩ | ⟨hc3, hF⟩
 ·refine JC.cond_t (b := (y2 != 0)) rfl hc3 ?_
  refine JC.seq (JC.region (by rfl) ?_)
  intro hQ
  refine JL.move .none rfl ?_
  refine JL.assign .none rfl ?_
  refine JL.assign .none rfl ?_
  refine JL.done hQ (JQ.go (JC.ret (JQ.ret_then ?_)))
  obtain rfl := Option.some.inj hF
  exact JQ.outH rfl (.tmp (.tmp .nil)) ⟨(.pointer none), rfl, rfl⟩
 ·refine JC.cond_f (b := (y2 != 0)) rfl hc3 ?_
  refine JC.skip (JQ.go (JC.seq (JC.seq (JC.region (by rfl) ?_))))
  intro hQ
  refine JL.move .none rfl ?_
  refine JL.not rfl .none rfl ?_
  refine JL.done hQ (JQ.go ?_)
  rcases ite_some hF with ⟨hc4, hF⟩ | ⟨hc4, hF⟩
  ·refine JC.cond_t (b := (!is)) rfl hc4 ?_
   refine JC.seq (JC.region (by rfl) ?_)
   intro hQ
   refine JL.assign .none rfl ?_
   refine JL.assign .none rfl ?_
   refine JL.done hQ (JQ.go (JC.ret (JQ.ret_then ?_)))
   obtain rfl := Option.some.inj hF
   exact JQ.outH rfl (.tmp (.tmp .nil)) ⟨(.pointer none), rfl, rfl⟩
  ·refine JC.cond_f (b := (!is)) rfl hc4 ?_
   refine JC.skip (JQ.go (JC.seq (JC.region (by rfl) ?_)))
   intro hQ
   refine JL.loadOwn 0 az_48 rfl rfl rfl .none rfl ?_
   obtain ⟨a5, c6, rfl, hh7⟩ := hw__0
   have hw__0 : SL H 4 R_Spare (.slice a5 w_.Spares.length c6) w_.Spares := ⟨a5, c6, rfl, hh7⟩
   obtain ⟨a8, c9, rfl, hh10⟩ := hw__1
   have hw__1 : SL H 1 R_Make (.slice a8 w_.Makes.length c9) w_.Makes := ⟨a8, c9, rfl, hh10⟩
   obtain ⟨a11, c12, rfl, hh13⟩ := hw__3
   have hw__3 : SL H 4 R_Trial (.slice a11 w_.Table.length c12) w_.Table := ⟨a11, c12, rfl, hh13⟩
   refine JL.build (l := [(.slice a5 w_.Spares.length c6), (.slice a8 w_.Makes.length c9), .int .i64 w_.Cut, (.slice a11 w_.Table.length c12), .slice none 0 0]) (by kernel_rfl) .none rfl ?_
   refine JL.box (cs := [(.slice a5 w_.Spares.length c6), (.slice a8 w_.Makes.length c9), .int .i64 w_.Cut, (.slice a11 w_.Table.length c12), .slice none 0 0]) rfl .none rfl ?_
   intro b14
   refine JL.assign .none rfl ?_
   refine JL.done hQ (JQ.go (JC.fresh (fun f => f 2 = .pointer (some ⟨b1, 0, none⟩) ∧ f 4 = .pointer none ∧ f 5 = .int .i64 0 ∧ f 7 = .pointer (some ⟨b14, 0, none⟩)) ⟨rfl, rfl, rfl, rfl⟩ ?_))
   rintro f ⟨hf2, hf4, hf5, hf7⟩
   refine (JC.norm (i := 2) hf2 (JC.norm (i := 4) hf4 (JC.norm (i := 5) hf5 (JC.norm (i := 7) hf7 ?_))))
   refine JC.seq (JC.seq (JC.region (by rfl) ?_))
   intro hQ
   refine JL.fieldAddr fo_48_0 rfl .none rfl ?_
   refine JL.loadOwn 1 az_44 rfl rfl rfl .none rfl ?_
   refine JL.lenSL (R := R_Spare) ul_44 hw__0 .none rfl ?_
   refine JL.move .none rfl ?_
   refine JL.done hQ (JQ.go (JC.freezeC 1 (l := [(.slice a5 w_.Spares.length c6), (.slice a8 w_.Makes.length c9), .int .i64 w_.Cut, (.slice a11 w_.Table.length c12)]) rfl ?_))
   intro H282 hs282 hc283
   refine JC.newNil (e := 23) (sz := 1) ?_
   obtain ⟨r1220, hlr1220, hKr1220⟩ := bind_some hF
   refine JC.join (fun (out_1218 : List (List Int)) H1219 f bs gs => ∃ (vout_1218 : Value) (xsout_1218 : List Value), f 7 = .pointer (some ⟨b14, 0, none⟩) ∧ bs = [(b14, .cells [(.slice a5 w_.Spares.length c6), (.slice a8 w_.Makes.length c9), .int .i64 w_.Cut, (.slice a11 w_.Table.length c12), vout_1218].toArray 141)] ∧ gs = [⟨vout_1218, 23, 1, out_1218.length, xsout_1218⟩] ∧ CH H1219 1 (RSl 1 RInt) xsout_1218 out_1218 ∧ HSub H282 H1219 ∧ Sum.inr out_1218 = r1220) ?_ ?_
   ·skip
    refine JC.block (JC.loop hlr1220 (fun (x : Int × List (List Int)) H1689 f bs gs => match x with | (x_1687, out_1688) => ∃ (vout_1688 : Value) (xsout_1688 : List Value), f 2 = .pointer (some ⟨b1, 0, none⟩) ∧ f 7 = .pointer (some ⟨b14, 0, none⟩) ∧ f 24 = (.slice a5 w_.Spares.length c6) ∧ f 25 = .int .i64 (w_.Spares.length : Int) ∧ f 26 = .int .i64 x_1687 ∧ bs = [(b14, .cells [(.slice a5 w_.Spares.length c6), (.slice a8 w_.Makes.length c9), .int .i64 w_.Cut, (.slice a11 w_.Table.length c12), vout_1688].toArray 141)] ∧ gs = [⟨vout_1688, 23, 1, out_1688.length, xsout_1688⟩] ∧ CH H1689 1 (RSl 1 RInt) xsout_1688 out_1688 ∧ HSub H282 H1689) ⟨(.slice none 0 0), [], rfl, rfl, rfl, rfl, rfl, rfl, rfl, CH.nil, (HSub.refl _)⟩ ?_)
    rintro ⟨x_1687, out_1688⟩ x1691 H1689 f bs gs ⟨vout_1688, xsout_1688, hf2, hf7, hf24, hf25, hf26, rfl, rfl, hout_1688, hs1689⟩ hF hr1690
    rw [F_parts_open_s1] at hF
    refine (JC.norm (i := 2) hf2 (JC.norm (i := 7) hf7 (JC.norm (i := 24) hf24 (JC.norm (i := 25) hf25 (JC.norm (i := 26) hf26 ?_)))))
    refine JC.seq (JC.region (by rfl) ?_)
    intro hQ
    refine JL.bin rfl rfl rfl .none rfl ?_
    refine JL.done hQ (JQ.go (JC.seq ?_))
    rcases ite_some hF with ⟨hc1692, hF⟩ | ⟨hc1692, hF⟩
    ·refine JC.cond_t (b := decide (x_1687 < (w_.Spares.length : Int))) rfl hc1692 ?_
     refine JC.skip (JQ.go (JC.seq (JC.block (JC.seq (JC.region (by rfl) ?_)))))
     intro hQ
     refine JL.move .none rfl ?_
     obtain ⟨y1693, hy1693, hF⟩ := bind_some hF
     refine JL.indexSL (R := R_Spare) sl_44 (SL.mono R_Spare_mono (HSub.trans hs282 hs1689) hw__0) rfl hy1693 .none rfl ?_
     rintro b1694 o1695 cs1696 hc1697 - rfl
     refine JL.loadH 0 az_131 rfl hc1697 rfl .none rfl ?_
     refine JL.alloc ze_3 .none rfl ?_
     intro b1698
     refine JL.alloc ze_131 .none rfl ?_
     intro b1699
     refine JL.storeOwn 1 (cs := [.int .i64 x_1687]) az_3 rfl rfl rfl (one_cons rfl one_nil) rfl rfl .none ?_
     refine JL.storeOwn 0 (cs := [.int .i64 y1693.Kind, .int .i64 y1693.Section, .int .i64 y1693.Length.Low, .int .i64 y1693.Length.High]) az_131 rfl rfl rfl (one_cons rfl (one_cons rfl (one_cons rfl (one_cons rfl one_nil)))) rfl rfl .none ?_
     refine JL.done hQ (JQ.go (JC.seq (JC.region (by rfl) ?_)))
     intro hQ
     refine JL.assign .none rfl ?_
     refine JL.done hQ (JQ.go (JC.seq (JC.seq (JC.region (by rfl) ?_))))
     intro hQ
     refine JL.fieldAddr fo_131_2 rfl .none rfl ?_
     refine JL.fieldAddr fo_39_0 rfl .none rfl ?_
     refine JL.loadOwn 0 az_3 rfl rfl rfl .none rfl ?_
     refine JL.alloc ze_3 .none rfl ?_
     intro b1700
     refine JL.storeOwn 0 (cs := [.int .i64 y1693.Length.Low]) az_3 rfl rfl rfl (one_cons rfl one_nil) rfl rfl .none ?_
     refine JL.done hQ (JQ.go (JC.freezeC 2 (l := [.int .i64 x_1687]) rfl ?_))
     intro H1732 hs1732 hc1733
     refine JC.newNil (e := 3) (sz := 1) ?_
     obtain ⟨r1837, hlr1837, hKr1837⟩ := bind_some hF
     refine JC.join (fun (out_1835 : List Int) H1836 f bs gs => ∃ (vout_1835 : Value) (xsout_1835 : List Value), f 2 = .pointer (some ⟨b1, 0, none⟩) ∧ f 7 = .pointer (some ⟨b14, 0, none⟩) ∧ f 10 = vout_1835 ∧ f 24 = (.slice a5 w_.Spares.length c6) ∧ f 25 = .int .i64 (w_.Spares.length : Int) ∧ f 26 = .int .i64 x_1687 ∧ bs = [(b14, .cells [(.slice a5 w_.Spares.length c6), (.slice a8 w_.Makes.length c9), .int .i64 w_.Cut, (.slice a11 w_.Table.length c12), vout_1688].toArray 141)] ∧ gs = [⟨vout_1835, 3, 1, out_1835.length, xsout_1835⟩, ⟨vout_1688, 23, 1, out_1688.length, xsout_1688⟩] ∧ CH H1836 1 RInt xsout_1835 out_1835 ∧ HSub H1732 H1836 ∧ out_1835 = r1837) ?_ ?_
     ·skip
      refine JC.block (JC.loop hlr1837 (fun (x : Int × List Int) H1886 f bs gs => match x with | (z_1884, out_1885) => ∃ (bz_1884 : Nat) (vout_1885 : Value) (xsout_1885 : List Value), f 2 = .pointer (some ⟨b1, 0, none⟩) ∧ f 7 = .pointer (some ⟨b14, 0, none⟩) ∧ f 8 = .pointer (some ⟨b1698, 0, none⟩) ∧ f 9 = .pointer (some ⟨b1699, 0, none⟩) ∧ f 10 = vout_1885 ∧ f 11 = .pointer (some ⟨bz_1884, 0, none⟩) ∧ f 24 = (.slice a5 w_.Spares.length c6) ∧ f 25 = .int .i64 (w_.Spares.length : Int) ∧ f 26 = .int .i64 x_1687 ∧ bs = [(bz_1884, .cells [.int .i64 z_1884].toArray 3), (b1699, .cells [.int .i64 y1693.Kind, .int .i64 y1693.Section, .int .i64 y1693.Length.Low, .int .i64 y1693.Length.High].toArray 131), (b14, .cells [(.slice a5 w_.Spares.length c6), (.slice a8 w_.Makes.length c9), .int .i64 w_.Cut, (.slice a11 w_.Table.length c12), vout_1688].toArray 141)] ∧ gs = [⟨vout_1885, 3, 1, out_1885.length, xsout_1885⟩, ⟨vout_1688, 23, 1, out_1688.length, xsout_1688⟩] ∧ CH H1886 1 RInt xsout_1885 out_1885 ∧ HSub H1732 H1886) ⟨b1700, (.slice none 0 0), [], rfl, rfl, rfl, rfl, rfl, rfl, rfl, rfl, rfl, rfl, rfl, CH.nil, (HSub.refl _)⟩ ?_)
      rintro ⟨z_1884, out_1885⟩ x1888 H1886 f bs gs ⟨bz_1884, vout_1885, xsout_1885, hf2, hf7, hf8, hf9, hf10, hf11, hf24, hf25, hf26, rfl, rfl, hout_1885, hs1886⟩ hF hr1887
      rw [F_parts_open_s2] at hF
      refine (JC.norm (i := 2) hf2 (JC.norm (i := 7) hf7 (JC.norm (i := 8) hf8 (JC.norm (i := 9) hf9 (JC.norm (i := 10) hf10 (JC.norm (i := 11) hf11 (JC.norm (i := 24) hf24 (JC.norm (i := 25) hf25 (JC.norm (i := 26) hf26 ?_)))))))))
      refine JC.seq (JC.seq (JC.region (by rfl) ?_))
      intro hQ
      refine JL.loadOwn 0 az_3 rfl rfl rfl .none rfl ?_
      refine JL.fieldAddr fo_131_2 rfl .none rfl ?_
      refine JL.fieldAddr fo_39_1 rfl .none rfl ?_
      refine JL.loadOwn 1 az_3 rfl rfl rfl .none rfl ?_
      refine JL.bin rfl rfl rfl .none rfl ?_
      refine JL.done hQ (JQ.go ?_)
      rcases ite_some hF with ⟨hc1889, hF⟩ | ⟨hc1889, hF⟩
      ·refine JC.cond_t (b := decide (z_1884 ≤ y1693.Length.High)) rfl hc1889 ?_
       refine JC.skip (JQ.go (JC.seq (JC.block (JC.seq (JC.region (by rfl) ?_)))))
       intro hQ
       refine JL.makeFunc .none rfl ?_
       refine JL.assign .none rfl ?_
       refine JL.done hQ (JQ.go (JC.seq (JC.region (by rfl) ?_)))
       intro hQ
       refine JL.fieldAddr fo_48_3 rfl .none rfl ?_
       refine JL.loadH 3 az_46 rfl (Cells.mono (HSub.trans hs1689 (HSub.trans hs1732 hs1886)) hc283) rfl .none rfl ?_
       refine JL.move .none rfl ?_
       refine JL.freezeC 0 (l := [.int .i64 z_1884]) rfl ?_
       intro H1890 hs1890 hc1891
       obtain ⟨y1892, hy1892, hF⟩ := bind_some hF
       refine JL.callS (c_parts_all_api_Trial_ n H1890 w_.Table (.slice a11 w_.Table.length c12) (SL.mono R_Trial_mono (HSub.trans hs282 (HSub.trans hs1689 (HSub.trans hs1732 (HSub.trans hs1886 hs1890)))) hw__3) (fun a0_ => F_parts_open_1 n a0_ x_1687 w_ z_1884) 120 [.pointer (some ⟨b1698, 0, none⟩), .pointer (some ⟨b1, 0, none⟩), .pointer (some ⟨bz_1884, 0, none⟩)] en_120 (fun H' hs' a0_ y' hy' => c_parts_open_1 n H' a0_ x_1687 b1698 (Cells.mono hs' (Cells.mono (HSub.trans hs1886 hs1890) hc1733)) w_ (.slice a5 w_.Spares.length c6) (SL.mono R_Spare_mono hs' (SL.mono R_Spare_mono (HSub.trans hs282 (HSub.trans hs1689 (HSub.trans hs1732 (HSub.trans hs1886 hs1890)))) hw__0)) (.slice a8 w_.Makes.length c9) (SL.mono R_Make_mono hs' (SL.mono R_Make_mono (HSub.trans hs282 (HSub.trans hs1689 (HSub.trans hs1732 (HSub.trans hs1886 hs1890)))) hw__1)) (.slice a11 w_.Table.length c12) (SL.mono R_Trial_mono hs' (SL.mono R_Trial_mono (HSub.trans hs282 (HSub.trans hs1689 (HSub.trans hs1732 (HSub.trans hs1886 hs1890)))) hw__3)) b1 (Cells.mono hs' (Cells.mono (HSub.trans hs1689 (HSub.trans hs1732 (HSub.trans hs1886 hs1890))) hc283)) z_1884 bz_1884 (Cells.mono hs' hc1891) y' hy') y1892 hy1892) rfl en_122 .none rfl ?_
       refine JL.done hQ (JQ.go (JC.fresh (fun f => f 2 = .pointer (some ⟨b1, 0, none⟩) ∧ f 7 = .pointer (some ⟨b14, 0, none⟩) ∧ f 8 = .pointer (some ⟨b1698, 0, none⟩) ∧ f 9 = .pointer (some ⟨b1699, 0, none⟩) ∧ f 10 = vout_1885 ∧ f 11 = .pointer (some ⟨bz_1884, 0, none⟩) ∧ f 24 = (.slice a5 w_.Spares.length c6) ∧ f 25 = .int .i64 (w_.Spares.length : Int) ∧ f 26 = .int .i64 x_1687 ∧ f 45 = .bool y1892) ⟨rfl, rfl, rfl, rfl, rfl, rfl, rfl, rfl, rfl, rfl⟩ ?_))
       rintro f ⟨hf2, hf7, hf8, hf9, hf10, hf11, hf24, hf25, hf26, hf45⟩
       refine (JC.norm (i := 2) hf2 (JC.norm (i := 7) hf7 (JC.norm (i := 8) hf8 (JC.norm (i := 9) hf9 (JC.norm (i := 10) hf10 (JC.norm (i := 11) hf11 (JC.norm (i := 24) hf24 (JC.norm (i := 25) hf25 (JC.norm (i := 26) hf26 (JC.norm (i := 45) hf45 ?_))))))))))
       obtain ⟨r1901, hlr1901, hKr1901⟩ := bind_some hF
       refine JC.join (fun (out_1899 : List Int) H1900 f bs gs => ∃ (vout_1899 : Value) (xsout_1899 : List Value), f 2 = .pointer (some ⟨b1, 0, none⟩) ∧ f 7 = .pointer (some ⟨b14, 0, none⟩) ∧ f 8 = .pointer (some ⟨b1698, 0, none⟩) ∧ f 9 = .pointer (some ⟨b1699, 0, none⟩) ∧ f 10 = vout_1899 ∧ f 11 = .pointer (some ⟨bz_1884, 0, none⟩) ∧ f 24 = (.slice a5 w_.Spares.length c6) ∧ f 25 = .int .i64 (w_.Spares.length : Int) ∧ f 26 = .int .i64 x_1687 ∧ bs = [(b1699, .cells [.int .i64 y1693.Kind, .int .i64 y1693.Section, .int .i64 y1693.Length.Low, .int .i64 y1693.Length.High].toArray 131), (b14, .cells [(.slice a5 w_.Spares.length c6), (.slice a8 w_.Makes.length c9), .int .i64 w_.Cut, (.slice a11 w_.Table.length c12), vout_1688].toArray 141)] ∧ gs = [⟨vout_1899, 3, 1, out_1899.length, xsout_1899⟩, ⟨vout_1688, 23, 1, out_1688.length, xsout_1688⟩] ∧ CH H1900 1 RInt xsout_1899 out_1899 ∧ HSub H1890 H1900 ∧ out_1899 = r1901) ?_ ?_
       ·have hF := hlr1901
        rcases ite_some hF with ⟨hc1902, hF⟩ | ⟨hc1902, hF⟩
        ·refine JC.cond_t (b := y1892) rfl hc1902 ?_
         refine JC.region (by rfl) ?_
         intro hQ
         refine JL.move .none rfl ?_
         refine JL.loadH 0 az_3 rfl hc1891 rfl .none rfl ?_
         refine JL.buildSlice (e := 3) (l := [.int .i64 z_1884]) (by kernel_rfl) .none rfl ?_
         intro b1903
         obtain ⟨l1904, hl1904, hF⟩ := bind_some hF
         refine JL.appO (R := RInt) 0 0 (l := out_1885) (m := [z_1884]) ap_23 rfl ⟨rfl, rfl⟩ rfl (CH.mono RInt.mono hs1890 hout_1885) rfl rfl rfl (CH.cons (cs := [.int .i64 z_1884]) rfl rfl CH.nil) rfl (one_cons rfl one_nil) hl1904 .none rfl ?_
         intro v1905 xs1906 hch1907
         refine JL.assign .none rfl ?_
         refine JL.done hQ ?_
         obtain rfl := Option.some.inj hF
         refine JQ.mask [false, true, true] [true, true] ?_
         exact JQ.join l1904 ⟨v1905, xs1906, rfl, rfl, rfl, rfl, rfl, rfl, rfl, rfl, rfl, rfl, rfl, hch1907, (HSub.refl _), rfl⟩
        ·refine JC.cond_f (b := y1892) rfl hc1902 ?_
         refine JC.skip ?_
         obtain rfl := Option.some.inj hF
         exact JQ.join out_1885 ⟨vout_1885, xsout_1885, rfl, rfl, rfl, rfl, rfl, rfl, rfl, rfl, rfl, rfl, rfl, (CH.mono RInt.mono hs1890 hout_1885), (HSub.refl _), rfl⟩
       ·rintro out_1899 H1900 f bs gs ⟨vout_1899, xsout_1899, hf2, hf7, hf8, hf9, hf10, hf11, hf24, hf25, hf26, rfl, rfl, hout_1899, hs1900, rfl⟩
        have hF := hKr1901
        try dsimp only at hF
        refine (JQ.norm (i := 2) hf2 (JQ.norm (i := 7) hf7 (JQ.norm (i := 8) hf8 (JQ.norm (i := 9) hf9 (JQ.norm (i := 10) hf10 (JQ.norm (i := 11) hf11 (JQ.norm (i := 24) hf24 (JQ.norm (i := 25) hf25 (JQ.norm (i := 26) hf26 ?_)))))))))
        refine JQ.normal_block (JQ.go (JC.seq (JC.seq (JC.region (by rfl) ?_))))
        intro hQ
        refine JL.loadH 0 az_3 rfl (Cells.mono hs1900 hc1891) rfl .none rfl ?_
        refine JL.done hQ (JQ.go (JC.region (by rfl) ?_))
        intro hQ
        refine JL.alloc ze_3 .none rfl ?_
        intro b1908
        refine JL.storeOwn 0 (cs := [.int .i64 z_1884]) az_3 rfl rfl rfl (one_cons rfl one_nil) rfl rfl .none ?_
        refine JL.done hQ (JQ.go (JC.region (by rfl) ?_))
        intro hQ
        refine JL.loadOwn 0 az_3 rfl rfl rfl .none rfl ?_
        refine JL.bin rfl rfl rfl .none rfl ?_
        refine JL.storeOwn 0 (cs := [.int .i64 (w64 (z_1884 + 1))]) az_3 rfl rfl rfl (one_cons rfl one_nil) rfl rfl .none ?_
        refine JL.done hQ ?_
        obtain rfl := Option.some.inj hF
        exact JQ.next rfl ⟨b1908, vout_1899, xsout_1899, rfl, rfl, rfl, rfl, rfl, rfl, rfl, rfl, rfl, rfl, rfl, hout_1899, (HSub.trans hs1886 (HSub.trans hs1890 hs1900))⟩
      ·refine JC.cond_f (b := decide (z_1884 ≤ y1693.Length.High)) rfl hc1889 ?_
       refine JC.exit (JQ.exit_then (JQ.exit_then (JQ.exit_block ?_)))
       obtain rfl := Option.some.inj hF
       have ehr1887 := hr1887 _ rfl
       subst ehr1887
       refine JQ.mask [false, false, true] [true, true] ?_
       exact JQ.join out_1885 ⟨vout_1885, xsout_1885, rfl, rfl, rfl, rfl, rfl, rfl, rfl, rfl, hout_1885, hs1886, rfl⟩
     ·rintro out_1835 H1836 f bs gs ⟨vout_1835, xsout_1835, hf2, hf7, hf10, hf24, hf25, hf26, rfl, rfl, hout_1835, hs1836, rfl⟩
      have hF := hKr1837
      try dsimp only at hF
      refine (JQ.norm (i := 2) hf2 (JQ.norm (i := 7) hf7 (JQ.norm (i := 10) hf10 (JQ.norm (i := 24) hf24 (JQ.norm (i := 25) hf25 (JQ.norm (i := 26) hf26 ?_))))))
      refine JQ.go (JC.seq (JC.seq (JC.region (by rfl) ?_)))
      intro hQ
      refine JL.move .none rfl ?_
      refine JL.lenG 0 ul_23 rfl rfl .none rfl ?_
      refine JL.bin rfl rfl rfl .none rfl ?_
      refine JL.done hQ (JQ.go ?_)
      rcases ite_some hF with ⟨hc1909, hF⟩ | ⟨hc1909, hF⟩
      ·refine JC.cond_t (b := ((out_1835.length : Int) == 0)) rfl hc1909 ?_
       refine JC.seq (JC.region (by rfl) ?_)
       intro hQ
       refine JL.assign .none rfl ?_
       refine JL.assign .none rfl ?_
       refine JL.done hQ (JQ.go (JC.ret (JQ.ret_then (JQ.ret_block (JQ.ret_then (JQ.ret_then (JQ.ret_block (JQ.ret_join (JQ.ret_then ?_)))))))))
       obtain rfl := Option.some.inj hF
       have ehr1690 := hr1690 _ rfl
       subst ehr1690
       have hF := hKr1220
       try dsimp only at hF
       obtain rfl := Option.some.inj hF
       exact JQ.outH rfl (.tmp (.tmp .nil)) ⟨(.pointer none), rfl, rfl⟩
      ·refine JC.cond_f (b := ((out_1835.length : Int) == 0)) rfl hc1909 ?_
       refine JC.skip (JQ.go (JC.region (by rfl) ?_))
       intro hQ
       refine JL.move .none rfl ?_
       refine JL.move .none rfl ?_
       refine JL.nilCheck rfl .none rfl ?_
       refine JL.fieldAddr fo_141_1 rfl .none rfl ?_
       refine JL.loadOwn 0 az_115 rfl rfl rfl .none rfl ?_
       refine JL.move .none rfl ?_
       refine JL.formG 0 rfl (fun a1910 n1911 c1912 hh1913 => ?_)
       dsimp only at hh1913
       subst hh1913
       refine JL.buildSlice (e := 23) (l := [(.slice a1910 n1911 c1912)]) (by kernel_rfl) .none rfl ?_
       intro b1914
       obtain ⟨l1915, hl1915, hF⟩ := bind_some hF
       refine JL.freezeG 0 (R := RInt) rfl RInt.mono hout_1835 rfl ?_
       intro H1916 hs1916 hg1917
       refine JL.appO (R := (RSl 1 RInt)) 0 0 (l := out_1688) (m := [out_1835]) ap_115 rfl ⟨rfl, rfl⟩ rfl (CH.mono (RSl.mono RInt.mono) (HSub.trans hs1732 (HSub.trans hs1836 hs1916)) hout_1688) rfl rfl rfl (CH.cons (cs := [(.slice a1910 n1911 c1912)]) rfl ⟨_, rfl, hg1917⟩ CH.nil) rfl (one_cons (SL.one hg1917) one_nil) hl1915 .none rfl ?_
       intro v1918 xs1919 hch1920
       refine JL.nilCheck rfl .none rfl ?_
       refine JL.fieldAddr fo_141_1 rfl .none rfl ?_
       refine JL.oneG 0 rfl (fun ho1921 => ?_)
       refine JL.storeOwn 1 (cs := [v1918]) az_115 rfl ho1921.2 rfl (one_cons ho1921.1 one_nil) rfl rfl .none ?_
       refine JL.done hQ (JQ.normal_block (JQ.go (JC.fresh (fun f => f 2 = .pointer (some ⟨b1, 0, none⟩) ∧ f 7 = .pointer (some ⟨b14, 0, none⟩) ∧ f 24 = (.slice a5 w_.Spares.length c6) ∧ f 25 = .int .i64 (w_.Spares.length : Int) ∧ f 26 = .int .i64 x_1687) ⟨rfl, rfl, rfl, rfl, rfl⟩ ?_)))
       rintro f ⟨hf2, hf7, hf24, hf25, hf26⟩
       refine (JC.norm (i := 2) hf2 (JC.norm (i := 7) hf7 (JC.norm (i := 24) hf24 (JC.norm (i := 25) hf25 (JC.norm (i := 26) hf26 ?_)))))
       refine JC.region (by rfl) ?_
       intro hQ
       refine JL.bin rfl rfl rfl .none rfl ?_
       refine JL.move .none rfl ?_
       refine JL.done hQ ?_
       obtain rfl := Option.some.inj hF
       refine JQ.mask [false, true] [true] ?_
       exact JQ.next rfl ⟨v1918, xs1919, rfl, rfl, rfl, rfl, rfl, rfl, rfl, hch1920, (HSub.trans hs1689 (HSub.trans hs1732 (HSub.trans hs1836 hs1916)))⟩
    ·refine JC.cond_f (b := decide (x_1687 < (w_.Spares.length : Int))) rfl hc1692 ?_
     refine JC.exit (JQ.exit_then (JQ.exit_then (JQ.exit_block ?_)))
     obtain rfl := Option.some.inj hF
     have ehr1690 := hr1690 _ rfl
     subst ehr1690
     exact JQ.join out_1688 ⟨vout_1688, xsout_1688, rfl, rfl, rfl, hout_1688, hs1689, rfl⟩
   ·rintro out_1218 H1219 f bs gs ⟨vout_1218, xsout_1218, hf7, rfl, rfl, hout_1218, hs1219, rfl⟩
    have hF := hKr1220
    try dsimp only at hF
    refine (JQ.norm (i := 7) hf7 ?_)
    refine JQ.go (JC.seq (JC.region (by rfl) ?_))
    intro hQ
    refine JL.move .none rfl ?_
    refine JL.assign .none rfl ?_
    refine JL.assign .none rfl ?_
    refine JL.done hQ (JQ.go (JC.ret (JQ.freezeG 0 (R := (RSl 1 RInt)) rfl (RSl.mono RInt.mono) hout_1218 rfl ?_)))
    intro H1922 hs1922 hg1923
    refine JQ.freezeC 0 (l := [(.slice a5 w_.Spares.length c6), (.slice a8 w_.Makes.length c9), .int .i64 w_.Cut, (.slice a11 w_.Table.length c12), vout_1218]) rfl ?_
    intro H1924 hs1924 hc1925
    obtain rfl := Option.some.inj hF
    exact JQ.outH rfl (.tmp (.tmp .nil)) ⟨(.pointer (some ⟨b14, 0, none⟩)), rfl, ⟨_, _, _, rfl, hc1925, ⟨(.slice a5 w_.Spares.length c6), (.slice a8 w_.Makes.length c9), (.slice a11 w_.Table.length c12), vout_1218, rfl, (SL.mono R_Spare_mono (HSub.trans hs282 (HSub.trans hs1219 (HSub.trans hs1922 hs1924))) hw__0), (SL.mono R_Make_mono (HSub.trans hs282 (HSub.trans hs1219 (HSub.trans hs1922 hs1924))) hw__1), (SL.mono R_Trial_mono (HSub.trans hs282 (HSub.trans hs1219 (HSub.trans hs1922 hs1924))) hw__3), (SL.mono (RSl.mono RInt.mono) hs1924 hg1923)⟩⟩⟩
-- 26 ferrule/parts.Length
def F_parts_Length (n : Nat) (w_ : Workshop) (spare : Int) : Option (Span × Int) :=
 (F_parts_isSpare n w_ spare).bind fun y5 => (F_parts_open n w_ y5).bind fun y6 => if (y6.2 != 0) = true then (some ((Span.mk 0 0), y6.2)) else (y6.1.bind fun w14 => (geti w14.lengths spare).bind fun y20 => (geti y20 0).bind fun y35 => (geti y20 (w64 ((y20.length : Int) - 1))).bind fun y40 => some ((Span.mk y35 y40), 0))
theorem c_parts_Length (n : Nat) (H : Hp) (w_ : Workshop) (w__v0 : Value) (hw__0 : SL H 4 R_Spare w__v0 w_.Spares) (w__v1 : Value) (hw__1 : SL H 1 R_Make w__v1 w_.Makes) (w__v3 : Value) (hw__3 : SL H 4 R_Trial w__v3 w_.Table) (spare : Int) (y : Span × Int) (hF : F_parts_Length n w_ spare = some y) : SC Try.prog 26 [.agg [w__v0, w__v1, .int .i64 w_.Cut, w__v3].toArray, .int .i64 spare] (.tuple [.agg [.int .i64 y.1.Low, .int .i64 y.1.High].toArray, .int .i64 y.2].toArray) H := by
 rw [F_parts_Length] at hF
 refine SC.of (N := 38) Try.func26 rfl rfl rfl fun w => ?_
 refine JC.seq (JC.region (by rfl) ?_)
 intro hQ
 refine JL.box (cs := [w__v0, w__v1, .int .i64 w_.Cut, w__v3]) rfl .none rfl ?_
 intro b1
 refine JL.alloc ze_39 .none rfl ?_
 intro b2
 refine JL.assign .none rfl ?_
 refine JL.done hQ (JQ.go (JC.seq ?_))
 obtain ⟨y5, hy5, hF⟩ := bind_some hF
 obtain ⟨y6, hy6, hF⟩ := bind_some hF
 refine JC.mixed 10 10 #[false, false, false, false, false, false, false, false, false, false] [(b2, .cells [.int .i64 0, .int .i64 0].toArray 39), (b1, .cells [w__v0, w__v1, .int .i64 w_.Cut, w__v3].toArray 48)] (by rfl) mo_ (by kernel_rfl) (by kernel_rfl) ?_
 intro hQ hE
 refine JA.take 0 (listed' := #[true, false, false, false, false, false, false, false, false, false]) hQ rfl (by kernel_rfl) (by kernel_rfl) (by kernel_rfl) (by kernel_rfl) (by kernel_rfl) hE (HSub.refl _) (.cons_cons _ (.cons_cons _ (List.nil_sublist _))) ?_
 refine JL.loadOwn 1 az_48 rfl rfl rfl .none rfl ?_
 refine JA.cont ?_
 refine JA.take 1 (listed' := #[true, true, false, false, false, false, false, false, false, false]) hQ rfl (by kernel_rfl) (by kernel_rfl) (by kernel_rfl) (by kernel_rfl) (by kernel_rfl) hE (HSub.refl _) (.cons_cons _ (.cons_cons _ (List.nil_sublist _))) ?_
 refine JL.loadOwn 1 az_48 rfl rfl rfl .none rfl ?_
 refine JA.cont ?_
 refine JA.take 2 (listed' := #[true, true, true, false, false, false, false, false, false, false]) hQ rfl (by kernel_rfl) (by kernel_rfl) (by kernel_rfl) (by kernel_rfl) (by kernel_rfl) hE (HSub.refl _) (.cons_cons _ (.cons_cons _ (List.nil_sublist _))) ?_
 refine JL.move .none rfl ?_
 refine JA.cont ?_
 refine JA.many [3] (by kernel_rfl) (by simp) (all_one ⟨_, #[true, true, true, true, false, false, false, false, false, false], rfl, (by kernel_rfl), ?_⟩)
 refine JL.callS (c_parts_isSpare n H w_ w__v0 hw__0 w__v1 hw__1 w__v3 hw__3 spare y5 hy5) rfl en_72 .none rfl ?_
 refine JA.after hE (HSub.refl _) (.cons_cons _ (.cons_cons _ (List.nil_sublist _))) ?_
 refine JA.many [4] (by kernel_rfl) (by simp) (all_one ⟨_, #[true, true, true, true, true, false, false, false, false, false], rfl, (by kernel_rfl), ?_⟩)
 refine JL.callH (c_parts_open n H w_ w__v0 hw__0 w__v1 hw__1 w__v3 hw__3 y5 y6 hy6) rfl en_71 .none rfl ?_
 rintro H11 vv12 hs11 ⟨y6a_v0, rfl, hy6a_0⟩
 refine JA.after hE hs11 (.cons_cons _ (.cons_cons _ (List.nil_sublist _))) ?_
 refine JA.take 5 (listed' := #[true, true, true, true, true, true, false, false, false, false]) hQ rfl (by kernel_rfl) (by kernel_rfl) (by kernel_rfl) (by kernel_rfl) (by kernel_rfl) hE hs11 (.cons_cons _ (.cons_cons _ (List.nil_sublist _))) ?_
 refine JL.move .none rfl ?_
 refine JA.cont ?_
 refine JA.take 6 (listed' := #[true, true, true, true, true, true, true, false, false, false]) hQ rfl (by kernel_rfl) (by kernel_rfl) (by kernel_rfl) (by kernel_rfl) (by kernel_rfl) hE hs11 (.cons_cons _ (.cons_cons _ (List.nil_sublist _))) ?_
 refine JL.extract rfl rfl .none rfl ?_
 refine JA.cont ?_
 refine JA.take 7 (listed' := #[true, true, true, true, true, true, true, true, false, false]) hQ rfl (by kernel_rfl) (by kernel_rfl) (by kernel_rfl) (by kernel_rfl) (by kernel_rfl) hE hs11 (.cons_cons _ (.cons_cons _ (List.nil_sublist _))) ?_
 refine JL.extract rfl rfl .none rfl ?_
 refine JA.cont ?_
 refine JA.take 8 (listed' := #[true, true, true, true, true, true, true, true, true, false]) hQ rfl (by kernel_rfl) (by kernel_rfl) (by kernel_rfl) (by kernel_rfl) (by kernel_rfl) hE hs11 (.cons_cons _ (.cons_cons _ (List.nil_sublist _))) ?_
 refine JL.assign .none rfl ?_
 refine JA.cont ?_
 refine JA.take 9 (listed' := #[true, true, true, true, true, true, true, true, true, true]) hQ rfl (by kernel_rfl) (by kernel_rfl) (by kernel_rfl) (by kernel_rfl) (by kernel_rfl) hE hs11 (.cons_cons _ (.cons_cons _ (List.nil_sublist _))) ?_
 refine JL.assign .none rfl ?_
 refine JA.cont ?_
 refine JA.done hQ (by kernel_rfl) ?_
 refine JQ.go (JC.fresh (fun f => f 1 = .int .i64 spare ∧ f 4 = .pointer (some ⟨b2, 0, none⟩) ∧ f 5 = .int .i64 0 ∧ f 6 = y6a_v0 ∧ f 7 = .int .i64 y6.2) ⟨rfl, rfl, rfl, rfl, rfl⟩ ?_)
 rintro f ⟨hf1, hf4, hf5, hf6, hf7⟩
 refine (JC.norm (i := 1) hf1 (JC.norm (i := 4) hf4 (JC.norm (i := 5) hf5 (JC.norm (i := 6) hf6 (JC.norm (i := 7) hf7 ?_)))))
 refine JC.seq (JC.seq (JC.region (by rfl) ?_))
 intro hQ
 refine JL.move .none rfl ?_
 refine JL.bin rfl rfl rfl .none rfl ?_
 refine JL.done hQ (JQ.go ?_)
 rcases ite_some hF with ⟨hc13, hF⟩ | ⟨hc13, hF⟩
 ·refine JC.cond_t (b := (y6.2 != 0)) rfl hc13 ?_
  refine JC.seq (JC.region (by rfl) ?_)
  intro hQ
  refine JL.build (l := [.int .i64 0, .int .i64 0]) (by kernel_rfl) .none rfl ?_
  refine JL.move .none rfl ?_
  refine JL.storeOwn 0 (cs := [.int .i64 0, .int .i64 0]) az_39 rfl rfl rfl (one_cons rfl (one_cons rfl one_nil)) rfl rfl .none ?_
  refine JL.assign .none rfl ?_
  refine JL.done hQ (JQ.go (JC.ret (JQ.ret_then ?_)))
  obtain rfl := Option.some.inj hF
  exact JQ.outS rfl (.cell 0 az_39 rfl rfl rfl (.tmp .nil)) rfl
 ·refine JC.cond_f (b := (y6.2 != 0)) rfl hc13 ?_
  refine JC.skip (JQ.go (JC.seq (JC.region (by rfl) ?_)))
  intro hQ
  refine JL.move .none rfl ?_
  obtain ⟨w14, hw14, hF⟩ := bind_some hF
  obtain ⟨b15, o16, cs17, hv18, hc19, ⟨w14_v0, w14_v1, w14_v3, w14_v4, rfl, hw14_0, hw14_1, hw14_3, hw14_4⟩⟩ := (show PT H11 R_parts_shop y6a_v0 (some w14) by rw [← hw14]; exact hy6a_0)
  subst hv18
  refine JL.nilCheck rfl .none rfl ?_
  refine JL.fieldAddr fo_141_1 rfl .none rfl ?_
  refine JL.loadH 4 az_115 rfl hc19 rfl .none rfl ?_
  refine JL.move .none rfl ?_
  obtain ⟨y20, hy20, hF⟩ := bind_some hF
  refine JL.indexSL (R := (RSl 1 RInt)) sl_115 hw14_4 rfl hy20 .none rfl ?_
  rintro b21 o22 cs23 hc24 - ⟨y20_v0, rfl, hy20_0⟩
  refine JL.loadH 0 az_23 rfl hc24 rfl .none rfl ?_
  refine JL.assign .none rfl ?_
  refine JL.done hQ (JQ.go (JC.fresh (fun f => f 4 = .pointer (some ⟨b2, 0, none⟩) ∧ f 5 = .int .i64 0 ∧ f 8 = y20_v0) ⟨rfl, rfl, rfl⟩ ?_))
  rintro f ⟨hf4, hf5, hf8⟩
  refine (JC.norm (i := 4) hf4 (JC.norm (i := 5) hf5 (JC.norm (i := 8) hf8 ?_)))
  refine JC.seq ?_
  obtain ⟨y35, hy35, hF⟩ := bind_some hF
  obtain ⟨y40, hy40, hF⟩ := bind_some hF
  refine JC.mixed 12 12 #[false, false, false, false, false, false, false, false, false, false, false, false] [(b1, .cells [w__v0, w__v1, .int .i64 w_.Cut, w__v3].toArray 48)] (by rfl) mo_ (by kernel_rfl) (by kernel_rfl) ?_
  intro hQ hE
  refine JA.take 0 (listed' := #[true, false, false, false, false, false, false, false, false, false, false, false]) hQ rfl (by kernel_rfl) (by kernel_rfl) (by kernel_rfl) (by kernel_rfl) (by kernel_rfl) hE (HSub.refl _) (.cons _ (.cons_cons _ (List.nil_sublist _))) ?_
  refine JL.move .none rfl ?_
  refine JA.cont ?_
  refine JA.take 1 (listed' := #[true, true, false, false, false, false, false, false, false, false, false, false]) hQ rfl (by kernel_rfl) (by kernel_rfl) (by kernel_rfl) (by kernel_rfl) (by kernel_rfl) hE (HSub.refl _) (.cons _ (.cons_cons _ (List.nil_sublist _))) ?_
  refine JL.indexSL (R := RInt) sl_23 hy20_0 rfl hy35 .none rfl ?_
  rintro b97 o98 cs99 hc100 - rfl
  refine JA.cont ?_
  refine JA.take 2 (listed' := #[true, true, true, false, false, false, false, false, false, false, false, false]) hQ rfl (by kernel_rfl) (by kernel_rfl) (by kernel_rfl) (by kernel_rfl) (by kernel_rfl) hE (HSub.refl _) (.cons _ (.cons_cons _ (List.nil_sublist _))) ?_
  refine JL.loadH 0 az_3 rfl hc100 rfl .none rfl ?_
  refine JA.cont ?_
  refine JA.take 3 (listed' := #[true, true, true, true, false, false, false, false, false, false, false, false]) hQ rfl (by kernel_rfl) (by kernel_rfl) (by kernel_rfl) (by kernel_rfl) (by kernel_rfl) hE (HSub.refl _) (.cons _ (.cons_cons _ (List.nil_sublist _))) ?_
  refine JL.move .none rfl ?_
  refine JA.cont ?_
  refine JA.take 4 (listed' := #[true, true, true, true, true, false, false, false, false, false, false, false]) hQ rfl (by kernel_rfl) (by kernel_rfl) (by kernel_rfl) (by kernel_rfl) (by kernel_rfl) hE (HSub.refl _) (.cons _ (.cons_cons _ (List.nil_sublist _))) ?_
  refine JL.move .none rfl ?_
  refine JA.cont ?_
  refine JA.take 5 (listed' := #[true, true, true, true, true, true, false, false, false, false, false, false]) hQ rfl (by kernel_rfl) (by kernel_rfl) (by kernel_rfl) (by kernel_rfl) (by kernel_rfl) hE (HSub.refl _) (.cons _ (.cons_cons _ (List.nil_sublist _))) ?_
  refine JL.lenSL (R := RInt) ul_23 hy20_0 .none rfl ?_
  refine JA.cont ?_
  refine JA.take 6 (listed' := #[true, true, true, true, true, true, true, false, false, false, false, false]) hQ rfl (by kernel_rfl) (by kernel_rfl) (by kernel_rfl) (by kernel_rfl) (by kernel_rfl) hE (HSub.refl _) (.cons _ (.cons_cons _ (List.nil_sublist _))) ?_
  refine JL.bin rfl rfl rfl .none rfl ?_
  refine JA.cont ?_
  refine JA.take 7 (listed' := #[true, true, true, true, true, true, true, true, false, false, false, false]) hQ rfl (by kernel_rfl) (by kernel_rfl) (by kernel_rfl) (by kernel_rfl) (by kernel_rfl) hE (HSub.refl _) (.cons _ (.cons_cons _ (List.nil_sublist _))) ?_
  refine JL.indexSL (R := RInt) sl_23 hy20_0 rfl hy40 .none rfl ?_
  rintro b105 o106 cs107 hc108 - rfl
  refine JA.cont ?_
  refine JA.take 8 (listed' := #[true, true, true, true, true, true, true, true, true, false, false, false]) hQ rfl (by kernel_rfl) (by kernel_rfl) (by kernel_rfl) (by kernel_rfl) (by kernel_rfl) hE (HSub.refl _) (.cons _ (.cons_cons _ (List.nil_sublist _))) ?_
  refine JL.loadH 0 az_3 rfl hc108 rfl .none rfl ?_
  refine JA.cont ?_
  refine JA.take 9 (listed' := #[true, true, true, true, true, true, true, true, true, true, false, false]) hQ rfl (by kernel_rfl) (by kernel_rfl) (by kernel_rfl) (by kernel_rfl) (by kernel_rfl) hE (HSub.refl _) (.cons _ (.cons_cons _ (List.nil_sublist _))) ?_
  refine JL.build (l := [.int .i64 y35, .int .i64 y40]) (by kernel_rfl) .none rfl ?_
  refine JA.cont ?_
  refine JA.many [10] (by kernel_rfl) (by simp) (all_one ⟨_, #[true, true, true, true, true, true, true, true, true, true, true, false], rfl, (by kernel_rfl), ?_⟩)
  refine JL.storeOwn 0 (cs := [.int .i64 y35, .int .i64 y40]) az_39 rfl rfl rfl (one_cons rfl (one_cons rfl one_nil)) rfl rfl .none ?_
  refine JA.after hE (HSub.refl _) (.cons _ (.cons_cons _ (List.nil_sublist _))) ?_
  refine JA.take 11 (listed' := #[true, true, true, true, true, true, true, true, true, true, true, true]) hQ rfl (by kernel_rfl) (by kernel_rfl) (by kernel_rfl) (by kernel_rfl) (by kernel_rfl) hE (HSub.refl _) (.cons _ (.cons_cons _ (List.nil_sublist _))) ?_
  refine JL.assign .none rfl ?_
  refine JA.cont ?_
  refine JA.done hQ (by kernel_rfl) ?_
  refine JQ.go (JC.ret ?_)
  obtain rfl := Option.some.inj hF
  exact JQ.outS rfl (.cell 0 az_39 rfl rfl rfl (.tmp .nil)) rfl
-- 24 ferrule/ferruletop.fitted
def F_top_fitted (n : Nat)  : Option Bool :=
 (F_law01_Example n).bind fun y1 => (F_frames_Opens n y1).bind fun y4 => (F_law07_Example n).bind fun y5 => (F_parts_Length n y5 0).bind fun y8 => some ((((y4.2 == 0) && (y8.2 == 0)) && (y4.1 == 1)) && ((y8.1.Low == 300) && (y8.1.High == 309)))
theorem c_top_fitted (n : Nat) (H : Hp)  (y : Bool) (hF : F_top_fitted n = some y) : SC Try.prog 24 [] (.bool y) H := by
 rw [F_top_fitted] at hF
 refine SC.of (N := 30) Try.func24 rfl rfl rfl fun w => ?_
 refine JC.seq (JC.region (by rfl) ?_)
 intro hQ
 refine JL.assign .none rfl ?_
 refine JL.done hQ (JQ.go (JC.seq (JC.region (by rfl) ?_)))
 intro hQ
 obtain ⟨y1, hy1, hF⟩ := bind_some hF
 refine JL.callH (c_law01_Example n H y1 hy1) rfl en_69 .none rfl ?_
 rintro H2 vv3 hs2 ⟨y1a_v0, rfl, hy1a_0⟩
 obtain ⟨y4, hy4, hF⟩ := bind_some hF
 refine JL.callS (c_frames_Opens n H2 y1 y1a_v0 hy1a_0 y4 hy4) rfl en_30 .none rfl ?_
 refine JL.move .none rfl ?_
 refine JL.extract rfl rfl .none rfl ?_
 refine JL.extract rfl rfl .none rfl ?_
 refine JL.assign .none rfl ?_
 refine JL.assign .none rfl ?_
 refine JL.done hQ (JQ.go (JC.seq (JC.region (by rfl) ?_)))
 intro hQ
 obtain ⟨y5, hy5, hF⟩ := bind_some hF
 refine JL.callH (c_law07_Example n H2 y5 hy5) rfl en_70 .none rfl ?_
 rintro H6 vv7 hs6 ⟨y5a_v0, y5a_v1, y5a_v3, rfl, hy5a_0, hy5a_1, hy5a_3⟩
 obtain ⟨y8, hy8, hF⟩ := bind_some hF
 refine JL.callS (c_parts_Length n H6 y5 y5a_v0 hy5a_0 y5a_v1 hy5a_1 y5a_v3 hy5a_3 0 y8 hy8) rfl en_26 .none rfl ?_
 refine JL.move .none rfl ?_
 refine JL.extract rfl rfl .none rfl ?_
 refine JL.extract rfl rfl .none rfl ?_
 refine JL.alloc ze_39 .none rfl ?_
 intro b9
 refine JL.storeOwn 0 (cs := [.int .i64 y8.1.Low, .int .i64 y8.1.High]) az_39 rfl rfl rfl (one_cons rfl (one_cons rfl one_nil)) rfl rfl .none ?_
 refine JL.assign .none rfl ?_
 refine JL.done hQ (JQ.go (JC.fresh (fun f => f 0 = .bool false ∧ f 1 = .int .i64 y4.1 ∧ f 2 = .int .i64 y4.2 ∧ f 3 = .pointer (some ⟨b9, 0, none⟩) ∧ f 4 = .int .i64 y8.2) ⟨rfl, rfl, rfl, rfl, rfl⟩ ?_))
 rintro f ⟨hf0, hf1, hf2, hf3, hf4⟩
 refine (JC.norm (i := 0) hf0 (JC.norm (i := 1) hf1 (JC.norm (i := 2) hf2 (JC.norm (i := 3) hf3 (JC.norm (i := 4) hf4 ?_)))))
 refine JC.seq (JC.region (by rfl) ?_)
 intro hQ
 refine JL.move .none rfl ?_
 refine JL.bin rfl rfl rfl .none rfl ?_
 refine JL.move .none rfl ?_
 refine JL.cut 3 (fun f => f 1 = .int .i64 y4.1 ∧ f 3 = .pointer (some ⟨b9, 0, none⟩) ∧ f 20 = .bool ((y4.2 == 0) && (y8.2 == 0))) ?_ ?_
 ·intro hJ10
  rcases bcases (y4.2 == 0) with hc11 | hc11
  ·skip
   refine JL.move (.some rfl rfl rfl hc11) rfl ?_
   refine JL.bin rfl rfl rfl (.some rfl rfl rfl hc11) rfl ?_
   refine JL.pick_t (b := (y4.2 == 0)) rfl hc11 .none rfl ?_
   exact hJ10 _ ⟨rfl, rfl, and_t hc11 rfl⟩
  ·skip
   refine JL.skip (.bool rfl rfl rfl hc11) rfl ?_
   refine JL.skip (.bool rfl rfl rfl hc11) rfl ?_
   refine JL.pick_f (b := (y4.2 == 0)) rfl hc11 .none rfl ?_
   exact hJ10 _ ⟨rfl, rfl, and_f hc11 rfl⟩
 ·rintro f ⟨hf1, hf3, hf20⟩
  refine (JL.norm (i := 1) hf1 (JL.norm (i := 3) hf3 (JL.norm (i := 20) hf20 ?_)))
  refine JL.move .none rfl ?_
  refine JL.cut 3 (fun f => f 3 = .pointer (some ⟨b9, 0, none⟩) ∧ f 24 = .bool (((y4.2 == 0) && (y8.2 == 0)) && (y4.1 == 1))) ?_ ?_
  ·intro hJ12
   rcases bcases ((y4.2 == 0) && (y8.2 == 0)) with hc13 | hc13
   ·skip
    refine JL.move (.some rfl rfl rfl hc13) rfl ?_
    refine JL.bin rfl rfl rfl (.some rfl rfl rfl hc13) rfl ?_
    refine JL.pick_t (b := ((y4.2 == 0) && (y8.2 == 0))) rfl hc13 .none rfl ?_
    exact hJ12 _ ⟨rfl, and_t hc13 rfl⟩
   ·skip
    refine JL.skip (.bool rfl rfl rfl hc13) rfl ?_
    refine JL.skip (.bool rfl rfl rfl hc13) rfl ?_
    refine JL.pick_f (b := ((y4.2 == 0) && (y8.2 == 0))) rfl hc13 .none rfl ?_
    exact hJ12 _ ⟨rfl, and_f hc13 rfl⟩
  ·rintro f ⟨hf3, hf24⟩
   refine (JL.norm (i := 3) hf3 (JL.norm (i := 24) hf24 ?_))
   refine JL.move .none rfl ?_
   refine JL.cut 4 (fun f => f 29 = .bool ((((y4.2 == 0) && (y8.2 == 0)) && (y4.1 == 1)) && ((y8.1.Low == 300) && (y8.1.High == 309)))) ?_ ?_
   ·intro hJ14
    rcases bcases (((y4.2 == 0) && (y8.2 == 0)) && (y4.1 == 1)) with hc15 | hc15
    ·skip
     refine JL.loadOwn 0 az_39 rfl rfl rfl (.some rfl rfl rfl hc15) rfl ?_
     refine JL.build (l := [.int .i64 300, .int .i64 309]) (by kernel_rfl) (.some rfl rfl rfl hc15) rfl ?_
     refine JL.eqAgg eqg_39 rfl rfl (fun w => eqa_39 y8.1.Low y8.1.High 300 309 w) (.some rfl rfl rfl hc15) rfl ?_
     refine JL.pick_t (b := (((y4.2 == 0) && (y8.2 == 0)) && (y4.1 == 1))) rfl hc15 .none rfl ?_
     exact hJ14 _ (and_t hc15 rfl)
    ·skip
     refine JL.skip (.bool rfl rfl rfl hc15) rfl ?_
     refine JL.skip (.bool rfl rfl rfl hc15) rfl ?_
     refine JL.skip (.bool rfl rfl rfl hc15) rfl ?_
     refine JL.pick_f (b := (((y4.2 == 0) && (y8.2 == 0)) && (y4.1 == 1))) rfl hc15 .none rfl ?_
     exact hJ14 _ (and_f hc15 rfl)
   ·rintro f hf29
    refine (JL.norm (i := 29) hf29 ?_)
    refine JL.assign .none rfl ?_
    refine JL.done hQ (JQ.go (JC.ret ?_))
    obtain rfl := Option.some.inj hF
    exact JQ.outS rfl (.tmp .nil) rfl
end Go.Proofs.Yteihdclpiekmaaa
end
